/- MADE BY PROGRAM (ex.py): functions as plain Lean, with their walks. -/
import Derived.Test.YtbnbjjgagikobaaGreatJb6
import Derived.KernelRfl
import Derived.Test.YtbnbjjgagikobaaGreatJb5
set_option linter.unusedSimpArgs false
set_option linter.unusedVariables false
set_option linter.unusedSectionVars false
namespace Go.Proofs.YtbnbjjgagikobaaGreat.Ab
open Go
set_option maxRecDepth 20000
set_option maxHeartbeats 4000000
noncomputable def xrc70_1 : RC :=
  .rng (.sl 15) [16] (rngA Tryz.prog 70 0) (rngB Tryz.prog 70 0)
noncomputable def xrc70_2 : RC :=
  .loop (some [o_,i_,i_,o_,o_,i_,o_,o_,i_,o_,o_,o_,o_,o_,o_,o_,o_,o_,o_,o_,o_,o_,o_,o_,o_,o_,o_,o_,o_,o_,o_])
  (.seq (.reg false [I_ 9 [.sl 8, .cv (.int .i64 21)] (.bin .lss)]) (.seq (.cond (.sl 9) .skip (.exit 0)) (.seq (.block 1 (.seq (.reg false [I_ 10 [.sl 8] .mv, I_ 6 [.tk 10] .mv]) (.seq (.reg false [I_ 11 [.sl 2] (.ld .one), I_
  12 [.tk 6] .mv, I_ 13 [.cv (.func 76 [] []), .sl 11, .sl 12] (.call 3), I_ 14 [.sl 1] .mv, I_ 15 [.cv (.func 75 [] []), .sl 13, .sl 14] (.call 3)]) (.block 2 xrc70_1)))) (.reg false [I_ 29 [.tv 8, .cv (.int .i64 1)] (.bin
  .add), I_ 8 [.tk 29] .mv]))))
noncomputable def xrc70 : RC :=
  .seq (.reg false [I_ 2 [.tk 0] .box, I_ 4 [.cv (.int .i64 0)] .mv]) (.seq (.reg false [I_ 5 [] (.alloc [.int .i64 0]), ⟨none, [.sl 5, .cv (.int .i64 0)], none, none, .st 1⟩]) (.seq (.seq (.reg false [I_ 8 [.cv (.int .i64 0)]
  .mv]) (.block 0 xrc70_2)) (.seq (.reg false [I_ 30 [.tv 5] (.ld .one), I_ 4 [.tk 30] .mv]) .ret)))
noncomputable def xrc70_A0 : RC :=
  .reg false [I_ 7 [.tk 16] .mv]
theorem lxx70_A0 : linkC Tryz.prog ann70 (rngA Tryz.prog 70 0) 0 = some xrc70_A0 := by kernel_rfl
noncomputable def xrc70_B0 : RC :=
  .block 3 (.reg true [I_ 17 [.sl 5] (.ld .one), I_ 18 [.tv 2] (.ld .one), I_ 19 [.tv 18] .nilc, I_ 20 [.tv 19] (.fa 4), I_ 21 [.tv 20] (.ld .one), I_ 22 [.tk 7] .mv, I_ 23 [.tv 22, .cv (.int .i64 0)] (.ia 1), I_ 24 [.tv 23] (.ld
  .one), I_ 25 [.tv 21, .tv 24] (.ia 2), I_ 26 [.tv 25] (.fa 1), I_ 27 [.tv 26] (.ld .one), I_ 28 [.tv 17, .tv 27] (.bin .add), ⟨none, [.sl 5, .tk 28], none, none, .st 1⟩])
theorem lxx70_B0 : linkC Tryz.prog ann70 (rngB Tryz.prog 70 0) 0 = some xrc70_B0 := by kernel_rfl
theorem lxx70 : linkF Tryz.prog ann70 70 = some (xrc70, 31, [.tmp 4]) := by kernel_rfl
def x70_r1 (x : ((Int × (List Int) × Int × Int) × (List (Int × Int)) × (List Int) × (List Int))) (t1 : Int) (e1 : (List Int)) : Option (Int) :=
  gd (0 ≤ (0 : Int) ∧ (0 : Int) < (e1.length : Int)) <|
  gd (0 ≤ (ix e1 (0 : Int)) ∧ (ix e1 (0 : Int)) < (x.2.1.length : Int)) <|
  some (w (t1 + (ix x.2.1 (ix e1 (0 : Int))).2))
def x70_l1 (x : ((Int × (List Int) × Int × Int) × (List (Int × Int)) × (List Int) × (List Int))) (whole : Int) (kl1_0 : Int → Option Int) : Nat → Int → Int → Option Int
  | 0, _, _ => none
  | m + 1, s1, s2 =>
    if (decide (s1 < (21 : Int))) = true then
      (x76 x s1).bind fun r1 =>
      (x75 r1 whole).bind fun r2 =>
      (s98 r1 whole).bind fun l1 =>
      (foldO (x70_r1 x) l1 s2).bind fun r3 =>
      x70_l1 x whole kl1_0 m (w (s1 + (1 : Int))) r3
    else
      kl1_0 s2
/-- (*crossband/press.bench).hours -/
def x70 (x : ((Int × (List Int) × Int × Int) × (List (Int × Int)) × (List Int) × (List Int))) (whole : Int) : Option Int :=
  x70_l1 x whole (fun z1 =>
      some z1) FU (0 : Int) (0 : Int)
theorem x70_r1_ok {x : ((Int × (List Int) × Int × Int) × (List (Int × Int)) × (List Int) × (List Int))} {t1 : Int} {e1 : (List Int)} {u0 : AV} {u1 : AV} {u3 : AV} {u4 : AV} {u6 : AV} {u7 : AV} {u8 : AV} {u9 : AV} {u10 : AV} {u11 : AV} {u12 : AV} {u13 : AV} {u14 : AV} {u15 : AV} {u16 : AV} {u17 : AV} {u18 : AV} {u19 : AV} {u20 : AV} {u21 : AV} {u22 : AV} {u23 : AV} {u24 : AV} {u25 : AV} {u26 : AV} {u27 : AV} {u28 : AV} {u29 : AV} {u30 : AV} {Y70_1 : List AObj} {v_ : Int} (h : x70_r1 x t1 e1 = some v_) (Y : List AObj) :
    ∃ Y', Sem Tryz.prog (.yield ((AObj.cells [(.lptr ((I x.1.1) :: (.lst (x.1.2.1.map I) x.1.2.1.length .shared) :: (I x.1.2.2.1) :: (I x.1.2.2.2) :: (.lst (x.2.1.flatMap pr) x.2.1.length .shared) :: (.lst (x.2.2.1.map I) x.2.2.1.length .shared) :: (x.2.2.2.map I)))] :: AObj.cells [(I t1)] :: Y70_1)).length) [(.lst (e1.map I) e1.length .full)] (((AObj.cells [(.lptr ((I x.1.1) :: (.lst (x.1.2.1.map I) x.1.2.1.length .shared) :: (I x.1.2.2.1) :: (I x.1.2.2.2) :: (.lst (x.2.1.flatMap pr) x.2.1.length .shared) :: (.lst (x.2.2.1.map I) x.2.2.1.length .shared) :: (x.2.2.2.map I)))] :: AObj.cells [(I t1)] :: Y70_1) ++ [AObj.loop .ready none 70 [u0, u1, (.ptr 0 0), u3, u4, (.ptr 1 0), u6, u7, u8, u9, u10, u11, u12, u13, u14, u15, u16, u17, u18, u19, u20, u21, u22, u23, u24, u25, u26, u27, u28, u29, u30] [16] (rngA Tryz.prog 70 0) (rngB Tryz.prog 70 0) ann70]) ++ Y) 0 (.bool true) (((AObj.cells [(.lptr ((I x.1.1) :: (.lst (x.1.2.1.map I) x.1.2.1.length .shared) :: (I x.1.2.2.1) :: (I x.1.2.2.2) :: (.lst (x.2.1.flatMap pr) x.2.1.length .shared) :: (.lst (x.2.2.1.map I) x.2.2.1.length .shared) :: (x.2.2.2.map I)))] :: AObj.cells [(I v_)] :: Y70_1) ++ [AObj.loop .ready none 70 [u0, u1, (.ptr 0 0), u3, u4, (.ptr 1 0), u6, u7, u8, u9, u10, u11, u12, u13, u14, u15, u16, u17, u18, u19, u20, u21, u22, u23, u24, u25, u26, u27, u28, u29, u30] [16] (rngA Tryz.prog 70 0) (rngB Tryz.prog 70 0) ann70]) ++ Y') := by
  unfold x70_r1 at h
  refine ⟨Y, sem_round hmix lxx70_A0 lxx70_B0 (get_mid _ _ _) rfl (low0 (by simp)) ?_⟩
  unfold xrc70_A0
  conv => whnf
  refine ⟨rfl, get_mid _ _ _, ?_⟩
  rw [set_mid]
  unfold xrc70_B0
  conv => whnf
  obtain ⟨hb4, h⟩ := gd_some h
  refine ⟨hb4, ?_⟩
  rw [drop1 I e1 (0 : Int) hb4]
  conv => whnf
  obtain ⟨hb5, h⟩ := gd_some h
  refine ⟨hb5, ?_⟩
  rw [dropS pr 2 pr_len x.2.1 (ix e1 (0 : Int)) hb5]
  conv => whnf
  obtain rfl := Option.some.inj h
  show _ ∧ (((AObj.cells [(.lptr ((I x.1.1) :: (.lst (x.1.2.1.map I) x.1.2.1.length .shared) :: (I x.1.2.2.1) :: (I x.1.2.2.2) :: (.lst (x.2.1.flatMap pr) x.2.1.length .shared) :: (.lst (x.2.2.1.map I) x.2.2.1.length .shared) :: (x.2.2.2.map I)))] :: AObj.cells [(I (w (t1 + (ix x.2.1 (ix e1 (0 : Int))).2)))] :: Y70_1) ++ [AObj.loop .busy none 70 [u0, u1, (.ptr 0 0), u3, u4, (.ptr 1 0), u6, u7, u8, u9, u10, u11, u12, u13, u14, u15, u16, u17, u18, u19, u20, u21, u22, u23, u24, u25, u26, u27, u28, u29, u30] [16] (rngA Tryz.prog 70 0) (rngB Tryz.prog 70 0) ann70]) ++ Y)[((AObj.cells [(.lptr ((I x.1.1) :: (.lst (x.1.2.1.map I) x.1.2.1.length .shared) :: (I x.1.2.2.1) :: (I x.1.2.2.2) :: (.lst (x.2.1.flatMap pr) x.2.1.length .shared) :: (.lst (x.2.2.1.map I) x.2.2.1.length .shared) :: (x.2.2.2.map I)))] :: AObj.cells [(I (w (t1 + (ix x.2.1 (ix e1 (0 : Int))).2)))] :: Y70_1)).length]? = _ ∧ Fgt ((((AObj.cells [(.lptr ((I x.1.1) :: (.lst (x.1.2.1.map I) x.1.2.1.length .shared) :: (I x.1.2.2.1) :: (I x.1.2.2.2) :: (.lst (x.2.1.flatMap pr) x.2.1.length .shared) :: (.lst (x.2.2.1.map I) x.2.2.1.length .shared) :: (x.2.2.2.map I)))] :: AObj.cells [(I (w (t1 + (ix x.2.1 (ix e1 (0 : Int))).2)))] :: Y70_1) ++ [AObj.loop .busy none 70 [u0, u1, (.ptr 0 0), u3, u4, (.ptr 1 0), u6, u7, u8, u9, u10, u11, u12, u13, u14, u15, u16, u17, u18, u19, u20, u21, u22, u23, u24, u25, u26, u27, u28, u29, u30] [16] (rngA Tryz.prog 70 0) (rngB Tryz.prog 70 0) ann70]) ++ Y).set ((AObj.cells [(.lptr ((I x.1.1) :: (.lst (x.1.2.1.map I) x.1.2.1.length .shared) :: (I x.1.2.2.1) :: (I x.1.2.2.2) :: (.lst (x.2.1.flatMap pr) x.2.1.length .shared) :: (.lst (x.2.2.1.map I) x.2.2.1.length .shared) :: (x.2.2.2.map I)))] :: AObj.cells [(I (w (t1 + (ix x.2.1 (ix e1 (0 : Int))).2)))] :: Y70_1)).length _) _
  exact ⟨rfl, get_mid _ _ _, by rw [set_mid]; exact Fgt.refl _⟩
theorem x70_l1_ok {x : ((Int × (List Int) × Int × Int) × (List (Int × Int)) × (List Int) × (List Int))} {whole : Int} {kl1_0 : Int → Option Int} {s1 : Int} {s2 : Int} {v : Int} {Q : Ex → List AV → List AObj → Prop}   (hkl1_0 : ∀ (z1 : Int) (u0 : AV) (u1 : AV) (u2 : AV) (u4 : AV) (u6 : AV) (u7 : AV) (u8 : AV) (u9 : AV) (u10 : AV) (u11 : AV) (u12 : AV) (u13 : AV) (u14 : AV) (u15 : AV) (u16 : AV) (u17 : AV) (u18 : AV) (u19 : AV) (u20 : AV) (u21 : AV) (u22 : AV) (u23 : AV) (u24 : AV) (u25 : AV) (u26 : AV) (u27 : AV) (u28 : AV) (u29 : AV) (u30 : AV) (o1 : AObj) (Yq : List AObj), kl1_0 z1 = some v → Q (.exit 0) [u0, u1, u2, J, u4, (.ptr 1 0), u6, u7, u8, u9, u10, u11, u12, u13, u14, u15, u16, u17, u18, u19, u20, u21, u22, u23, u24, u25, u26, u27, u28, u29, u30] (o1 :: AObj.cells [(I z1)] :: Yq)) {T : List AV} (hT : zipKeep [o_,i_,i_,o_,o_,i_,o_,o_,i_,o_,o_,o_,o_,o_,o_,o_,o_,o_,o_,o_,o_,o_,o_,o_,o_,o_,o_,o_,o_,o_,o_] T = slots 31 [(1, (I whole)), (2, (.ptr 0 0)), (5, (.ptr 1 0)), (8, (I s1))]) (h : x70_l1 x whole kl1_0 FU s1 s2 = some v) :
    wpR Tryz.prog ann70 70 0 none xrc70_2 T [AObj.cells [(.lptr ((I x.1.1) :: (.lst (x.1.2.1.map I) x.1.2.1.length .shared) :: (I x.1.2.2.1) :: (I x.1.2.2.2) :: (.lst (x.2.1.flatMap pr) x.2.1.length .shared) :: (.lst (x.2.2.1.map I) x.2.2.1.length .shared) :: (x.2.2.2.map I)))], AObj.cells [(I s2)]] Q := by
  unfold xrc70_2
  obtain ⟨c_1, g_1⟩ : ∃ c, xrc70_1 = c := ⟨_, rfl⟩
  rw [g_1]
  refine wp_loop hT ?_
  refine .intro (fun m T H => ∃ (s1 : Int) (s2 : Int) (Y70_1 : List AObj), T = slots 31 [(1, (I whole)), (2, (.ptr 0 0)), (5, (.ptr 1 0)), (8, (I s1))] ∧ H = (AObj.cells [(.lptr ((I x.1.1) :: (.lst (x.1.2.1.map I) x.1.2.1.length .shared) :: (I x.1.2.2.1) :: (I x.1.2.2.2) :: (.lst (x.2.1.flatMap pr) x.2.1.length .shared) :: (.lst (x.2.2.1.map I) x.2.2.1.length .shared) :: (x.2.2.2.map I)))] :: AObj.cells [(I s2)] :: Y70_1) ∧ x70_l1 x whole kl1_0 m s1 s2 = some v) FU ⟨s1, s2, [], rfl, rfl, h⟩ ?_
  clear h hT
  rintro m T H ⟨s1, s2, Y70_1, rfl, rfl, h⟩
  cases m
  · exact none_ne h
  rename_i m
  rw [x70_l1.eq_2] at h
  conv => whnf
  rcases bt (decide (s1 < (21 : Int))) with hb1 | hb1
  · rw [hb1]
    conv => whnf
    replace h := it_t hb1 h
    obtain ⟨r1, hb2, h⟩ := bd_some h
    refine ⟨(allc (pu_lptr (allc rfl (allc (pu_map (fun _ => rfl) _ _ _) (allc rfl (allc rfl (allc (pu_flat (fun _ => (allc rfl (allc rfl rfl))) _ _ _) (allc (pu_map (fun _ => rfl) _ _ _) (pu_run (fun _ => rfl) _)))))))) (allc rfl rfl)), _, x76_ok hb2, ?_⟩
    conv => whnf
    obtain ⟨r2, hb3, h⟩ := bd_some h
    refine ⟨(allc (pu_map (fun _ => rfl) _ _ _) (allc rfl rfl)), _, x75_ok hb3, ?_⟩
    conv => whnf
    obtain ⟨l1, hb6, h⟩ := bd_some h
    obtain ⟨r3, hb7, h⟩ := bd_some h
    obtain ⟨F_, hF0, hFn, hF⟩ := foldO_states hb7
    subst g_1
    unfold xrc70_1
    refine rng_wp (f := fun (e1 : (List Int)) => (.lst (e1.map I) e1.length .full)) (s98_ok hb6) (fun i => (AObj.cells [(.lptr ((I x.1.1) :: (.lst (x.1.2.1.map I) x.1.2.1.length .shared) :: (I x.1.2.2.1) :: (I x.1.2.2.2) :: (.lst (x.2.1.flatMap pr) x.2.1.length .shared) :: (.lst (x.2.2.1.map I) x.2.2.1.length .shared) :: (x.2.2.2.map I)))] :: AObj.cells [(I (F_ i))] :: Y70_1)) (by exact rfl) (by show (AObj.cells [(.lptr ((I x.1.1) :: (.lst (x.1.2.1.map I) x.1.2.1.length .shared) :: (I x.1.2.2.1) :: (I x.1.2.2.2) :: (.lst (x.2.1.flatMap pr) x.2.1.length .shared) :: (.lst (x.2.2.1.map I) x.2.2.1.length .shared) :: (x.2.2.2.map I)))] :: AObj.cells [(I (F_ 0))] :: Y70_1) = _; first | (rw [hF0]; done) | (rw [hF0]; rfl)) (fun _ => rfl) ?_ (rl := none) (by exact rfl) (Hn := (AObj.cells [(.lptr ((I x.1.1) :: (.lst (x.1.2.1.map I) x.1.2.1.length .shared) :: (I x.1.2.2.1) :: (I x.1.2.2.2) :: (.lst (x.2.1.flatMap pr) x.2.1.length .shared) :: (.lst (x.2.2.1.map I) x.2.2.1.length .shared) :: (x.2.2.2.map I)))] :: AObj.cells [(I r3)] :: Y70_1)) (by show (AObj.cells [(.lptr ((I x.1.1) :: (.lst (x.1.2.1.map I) x.1.2.1.length .shared) :: (I x.1.2.2.1) :: (I x.1.2.2.2) :: (.lst (x.2.1.flatMap pr) x.2.1.length .shared) :: (.lst (x.2.2.1.map I) x.2.2.1.length .shared) :: (x.2.2.2.map I)))] :: AObj.cells [(I (F_ l1.length))] :: Y70_1) = _; first | (rw [hFn]; done) | (rw [hFn]; rfl)) (fun Yr3 => ?_)
    · intro i hi Y
      exact x70_r1_ok (hF i hi) Y
    conv => whnf
    exact ⟨m, Nat.lt_succ_self m, (w (s1 + (1 : Int))), r3, _, rfl, rfl, h⟩
  · rw [hb1]
    conv => whnf
    replace h := it_f hb1 h
    exact hkl1_0 _ _ _ _ _ _ _ _ _ _ _ _ _ _ _ _ _ _ _ _ _ _ _ _ _ _ _ _ _ _ _ _ h
theorem x70_ok {x : ((Int × (List Int) × Int × Int) × (List (Int × Int)) × (List Int) × (List Int))} {whole : Int} {v : Int} (h : x70 x whole = some v) : PO 70 [(.lptr ((I x.1.1) :: (.lst (x.1.2.1.map I) x.1.2.1.length .shared) :: (I x.1.2.2.1) :: (I x.1.2.2.2) :: (.lst (x.2.1.flatMap pr) x.2.1.length .shared) :: (.lst (x.2.2.1.map I) x.2.2.1.length .shared) :: (x.2.2.2.map I))), (I whole)] (I v) := by
  refine fn_pureW hmix lxx70 rfl rfl fun Q hQ => ?_
  have hR : ∀ T H, RetW [.tmp 4] (I v) .ret T H → Q .ret T H := fun T H hh => hQ _ T H hh
  unfold x70 at h
  unfold xrc70
  obtain ⟨c_2, g_2⟩ : ∃ c, xrc70_2 = c := ⟨_, rfl⟩
  rw [g_2]
  conv => whnf
  subst g_2
  refine x70_l1_ok ?_ (by exact rfl) h
  intro z1 u0 u1 u2 u4 u6 u7 u8 u9 u10 u11 u12 u13 u14 u15 u16 u17 u18 u19 u20 u21 u22 u23 u24 u25 u26 u27 u28 u29 u30 o1 Yq h
  conv => whnf
  obtain rfl := Option.some.inj h
  exact hR _ _ ⟨.inr rfl, _, rfl, _, frz_pure rfl, rfl⟩
end Go.Proofs.YtbnbjjgagikobaaGreat.Ab

/- MADE BY PROGRAM (ex.py): functions as plain Lean, with their walks. -/
namespace Go.Proofs.YtbnbjjgagikobaaGreat.Ab
open Go
set_option maxRecDepth 20000
set_option maxHeartbeats 4000000
noncomputable def xrc33 : RC :=
  .seq (.reg false [I_ 2 [.tk 0] .box, I_ 4 [.cv (.int .i64 0)] .mv, I_ 5 [.cv (.int .i64 0)] .mv]) (.seq (.reg false [I_ 9 [.tv 2] (.ld (.str 4)), I_ 10 [.tk 1] .mv, I_ 11 [.cv (.func 69 [] []), .sl 9, .sl 10] (.call 3), I_ 8 [.tk
  11] .mv, I_ 12 [.sl 8] (.ext 0), I_ 13 [.tv 8] (.ext 1), I_ 6 [.tk 12] .mv, I_ 7 [.tk 13] .mv]) (.seq (.seq (.reg false [I_ 14 [.sl 7] .mv, I_ 15 [.tv 14, .cv (.int .i64 0)] (.bin .neq)]) (.cond (.sl 15) (.seq (.reg false [I_
  16 [.tk 7] .mv, I_ 4 [.cv (.int .i64 0)] .mv, I_ 5 [.tk 16] .mv]) .ret) .skip)) (.seq (.reg false [I_ 17 [.sl 6] .mv, I_ 18 [.tk 6] .mv, I_ 19 [.tv 18] .nilc, I_ 20 [.tv 19] (.fa 5), I_ 21 [.tv 20] (.ld .one), I_ 22 [.tk 21]
  .lenS, I_ 23 [.cv (.func 70 [] []), .sl 17, .sl 22] (.call 3), I_ 4 [.tk 23] .mv, I_ 5 [.cv (.int .i64 0)] .mv]) .ret)))
theorem lxx33 : linkF Tryz.prog ann33 33 = some (xrc33, 24, [.tmp 4, .tmp 5]) := by kernel_rfl
/-- crossband/press.Hours -/
def x33 (b : (Int × (List Int) × Int × Int)) (panels : (List (Int × Int))) : Option (Int × Int) :=
  (x69 b panels).bind fun r1 =>
  match r1 with
  | (none, q1) =>
    if (decide (q1 ≠ (0 : Int))) = true then
      some ((0 : Int), q1)
    else
      none
  | (some p1, q1) =>
    if (decide (q1 ≠ (0 : Int))) = true then
      some ((0 : Int), q1)
    else
      (x70 p1 (p1.2.2.1.length : Int)).bind fun r2 =>
      some (r2, (0 : Int))
theorem x33_ok {b : (Int × (List Int) × Int × Int)} {panels : (List (Int × Int))} {v : (Int × Int)} (h : x33 b panels = some v) : PO 33 [(.agg [(I b.1), (.lst (b.2.1.map I) b.2.1.length .shared), (I b.2.2.1), (I b.2.2.2)]), (.lst (panels.flatMap pr) panels.length .shared)] (.tuple [(I v.1), (I v.2)]) := by
  refine fn_pureW hmix lxx33 rfl (pu_tup (allc rfl (allc rfl rfl))) fun Q hQ => ?_
  have hR : ∀ T H, RetW [.tmp 4, .tmp 5] (.tuple [(I v.1), (I v.2)]) .ret T H → Q .ret T H := fun T H hh => hQ _ T H hh
  unfold x33 at h
  unfold xrc33
  skip
  conv => whnf
  obtain ⟨r1, hb1, h⟩ := bd_some h
  rcases r1 with ⟨_ | p1, q1⟩
  · refine ⟨(allc (pu_agg (allc rfl (allc (pu_map (fun _ => rfl) _ _ _) (allc rfl (allc rfl rfl))))) (allc (pu_flat (fun _ => (allc rfl (allc rfl rfl))) _ _ _) rfl)), _, x69_ok hb1, ?_⟩
    conv => whnf
    rcases bt (decide (q1 ≠ (0 : Int))) with hb2 | hb2
    · rw [hb2]
      conv => whnf
      replace h := it_t hb2 h
      obtain rfl := Option.some.inj h
      exact hR _ _ ⟨.inr rfl, _, rfl, _, frz_pure (pu_tup (allc rfl (allc rfl rfl))), rfl⟩
    · rw [hb2]
      conv => whnf
      replace h := it_f hb2 h
      exact none_ne h
  · refine ⟨(allc (pu_agg (allc rfl (allc (pu_map (fun _ => rfl) _ _ _) (allc rfl (allc rfl rfl))))) (allc (pu_flat (fun _ => (allc rfl (allc rfl rfl))) _ _ _) rfl)), _, x69_ok hb1, ?_⟩
    conv => whnf
    rcases bt (decide (q1 ≠ (0 : Int))) with hb3 | hb3
    · rw [hb3]
      conv => whnf
      replace h := it_t hb3 h
      obtain rfl := Option.some.inj h
      exact hR _ _ ⟨.inr rfl, _, rfl, _, frz_pure (pu_tup (allc rfl (allc rfl rfl))), rfl⟩
    · rw [hb3]
      conv => whnf
      replace h := it_f hb3 h
      obtain ⟨r2, hb4, h⟩ := bd_some h
      refine ⟨(allc (pu_lptr (allc rfl (allc (pu_map (fun _ => rfl) _ _ _) (allc rfl (allc rfl (allc (pu_flat (fun _ => (allc rfl (allc rfl rfl))) _ _ _) (allc (pu_map (fun _ => rfl) _ _ _) (pu_run (fun _ => rfl) _)))))))) (allc rfl rfl)), _, x70_ok hb4, ?_⟩
      conv => whnf
      obtain rfl := Option.some.inj h
      exact hR _ _ ⟨.inr rfl, _, rfl, _, frz_pure (pu_tup (allc rfl (allc rfl rfl))), rfl⟩
end Go.Proofs.YtbnbjjgagikobaaGreat.Ab

/- MADE BY PROGRAM (ex.py): functions as plain Lean, with their walks. -/
namespace Go.Proofs.YtbnbjjgagikobaaGreat.Ab
open Go
set_option maxRecDepth 20000
set_option maxHeartbeats 4000000
noncomputable def xrc66 : RC :=
  .seq (.reg false [I_ 2 [.tk 0] .box, I_ 4 [.cv (.int .i64 0)] .mv]) (.seq (.seq (.reg false [I_ 5 [.sl 2] (.ld (.str 4)), I_ 6 [.cv (.func 21 [] []), .sl 5] (.call 3), I_ 7 [.tv 6, .cv (.int .i64 0)] (.bin .neq)]) (.cond (.sl 7)
  (.seq (.reg false [I_ 8 [.tv 2] (.ld (.str 4)), I_ 9 [.cv (.func 21 [] []), .sl 8] (.call 3), I_ 4 [.tk 9] .mv]) .ret) .skip)) (.seq (.reg false [I_ 10 [.tk 1] .mv, I_ 11 [.cv (.func 23 [] []), .sl 10] (.call 3), I_ 4 [.tk 11]
  .mv]) .ret))
theorem lxx66 : linkF Tryz.prog ann66 66 = some (xrc66, 12, [.tmp 4]) := by kernel_rfl
/-- crossband/crossbandref08.Both -/
def x66 (b : (Int × (List Int) × Int × Int)) (panels : (List (Int × Int))) : Option Int :=
  (x21 b).bind fun r1 =>
  if (decide (r1 ≠ (0 : Int))) = true then
    (x21 b).bind fun r2 =>
    some r2
  else
    (x23 panels).bind fun r3 =>
    some r3
theorem x66_ok {b : (Int × (List Int) × Int × Int)} {panels : (List (Int × Int))} {v : Int} (h : x66 b panels = some v) : PO 66 [(.agg [(I b.1), (.lst (b.2.1.map I) b.2.1.length .shared), (I b.2.2.1), (I b.2.2.2)]), (.lst (panels.flatMap pr) panels.length .shared)] (I v) := by
  refine fn_pureW hmix lxx66 rfl rfl fun Q hQ => ?_
  have hR : ∀ T H, RetW [.tmp 4] (I v) .ret T H → Q .ret T H := fun T H hh => hQ _ T H hh
  unfold x66 at h
  unfold xrc66
  skip
  conv => whnf
  obtain ⟨r1, hb1, h⟩ := bd_some h
  refine ⟨(allc (pu_agg (allc rfl (allc (pu_map (fun _ => rfl) _ _ _) (allc rfl (allc rfl rfl))))) rfl), _, x21_ok hb1, ?_⟩
  conv => whnf
  rcases bt (decide (r1 ≠ (0 : Int))) with hb2 | hb2
  · rw [hb2]
    conv => whnf
    replace h := it_t hb2 h
    obtain ⟨r2, hb3, h⟩ := bd_some h
    refine ⟨(allc (pu_agg (allc rfl (allc (pu_map (fun _ => rfl) _ _ _) (allc rfl (allc rfl rfl))))) rfl), _, x21_ok hb3, ?_⟩
    conv => whnf
    obtain rfl := Option.some.inj h
    exact hR _ _ ⟨.inr rfl, _, rfl, _, frz_pure rfl, rfl⟩
  · rw [hb2]
    conv => whnf
    replace h := it_f hb2 h
    obtain ⟨r3, hb4, h⟩ := bd_some h
    refine ⟨(allc (pu_flat (fun _ => (allc rfl (allc rfl rfl))) _ _ _) rfl), _, x23_ok hb4, ?_⟩
    conv => whnf
    obtain rfl := Option.some.inj h
    exact hR _ _ ⟨.inr rfl, _, rfl, _, frz_pure rfl, rfl⟩
end Go.Proofs.YtbnbjjgagikobaaGreat.Ab

/- MADE BY PROGRAM (ex.py): functions as plain Lean, with their walks. -/
namespace Go.Proofs.YtbnbjjgagikobaaGreat.Ab
open Go
set_option maxRecDepth 20000
set_option maxHeartbeats 4000000
noncomputable def xrc45 : RC :=
  .seq (.reg false [I_ 2 [.tk 0] .box, I_ 4 [.cv (.bool false)] .mv]) (.seq (.reg false [I_ 5 [.sl 2] (.ld (.str 4)), I_ 6 [.sl 1] .mv, I_ 7 [.cv (.func 16 [] []), .sl 5, .sl 6] (.call 3), I_ 8 [.tv 7] (.un .not), I_ 9 [.tk 8] .mv,
  ⟨some 10, [.tv 2], some (9, true), none, .ld (.str 4)⟩, ⟨some 11, [.tk 1], some (9, true), none, .mv⟩, ⟨some 12, [.cv (.func 66 [] []), .sl 10, .sl 11], some (9, true), none, .call 3⟩, ⟨some 13, [.tv 12, .cv (.int .i64 0)],
  some (9, true), none, .bin .eql⟩, I_ 14 [.tv 9, .tv 13, .cv (.bool false)] .pick, I_ 4 [.tk 14] .mv]) .ret)
theorem lxx45 : linkF Tryz.prog ann45 45 = some (xrc45, 15, [.tmp 4]) := by kernel_rfl
/-- crossband/crossbandlaw08.fine -/
def x45 (b : (Int × (List Int) × Int × Int)) (panels : (List (Int × Int))) : Option Bool :=
  (x16 b panels).bind fun r1 =>
  if r1 = true then
    some false
  else
    (x66 b panels).bind fun r2 =>
    some (decide (r2 = (0 : Int)))
theorem x45_ok {b : (Int × (List Int) × Int × Int)} {panels : (List (Int × Int))} {v : Bool} (h : x45 b panels = some v) : PO 45 [(.agg [(I b.1), (.lst (b.2.1.map I) b.2.1.length .shared), (I b.2.2.1), (I b.2.2.2)]), (.lst (panels.flatMap pr) panels.length .shared)] (B v) := by
  refine fn_pureW hmix lxx45 rfl rfl fun Q hQ => ?_
  have hR : ∀ T H, RetW [.tmp 4] (B v) .ret T H → Q .ret T H := fun T H hh => hQ _ T H hh
  unfold x45 at h
  unfold xrc45
  skip
  conv => whnf
  obtain ⟨r1, hb1, h⟩ := bd_some h
  refine ⟨(allc (pu_agg (allc rfl (allc (pu_map (fun _ => rfl) _ _ _) (allc rfl (allc rfl rfl))))) (allc (pu_flat (fun _ => (allc rfl (allc rfl rfl))) _ _ _) rfl)), _, x16_ok hb1, ?_⟩
  conv => whnf
  cases r1
  · conv => whnf
    replace h := it_f rfl h
    obtain ⟨r2, hb2, h⟩ := bd_some h
    refine ⟨(allc (pu_agg (allc rfl (allc (pu_map (fun _ => rfl) _ _ _) (allc rfl (allc rfl rfl))))) (allc (pu_flat (fun _ => (allc rfl (allc rfl rfl))) _ _ _) rfl)), _, x66_ok hb2, ?_⟩
    conv => whnf
    obtain rfl := Option.some.inj h
    exact hR _ _ ⟨.inr rfl, _, rfl, _, frz_pure rfl, rfl⟩
  · conv => whnf
    replace h := it_t rfl h
    obtain rfl := Option.some.inj h
    exact hR _ _ ⟨.inr rfl, _, rfl, _, frz_pure rfl, rfl⟩
end Go.Proofs.YtbnbjjgagikobaaGreat.Ab

/- MADE BY PROGRAM (ex.py): functions as plain Lean, with their walks. -/
namespace Go.Proofs.YtbnbjjgagikobaaGreat.Ab
open Go
set_option maxRecDepth 20000
set_option maxHeartbeats 4000000
noncomputable def xrc50 : RC :=
  .seq (.reg false [I_ 2 [.tk 0] .box, I_ 4 [.cv (.int .i64 0)] .mv, I_ 5 [.cv (.bool false)] .mv]) (.seq (.reg false [I_ 9 [.tv 2] (.ld (.str 4)), I_ 10 [.tk 1] .mv, I_ 11 [.cv (.func 33 [] []), .sl 9, .sl 10] (.call 3), I_ 8 [.tk
  11] .mv, I_ 12 [.sl 8] (.ext 0), I_ 13 [.tv 8] (.ext 1), I_ 6 [.tk 12] .mv, I_ 7 [.tk 13] .mv]) (.seq (.reg false [I_ 14 [.sl 6] .mv, I_ 15 [.tk 7] .mv, I_ 16 [.tv 15, .cv (.int .i64 0)] (.bin .eql), I_ 17 [.tk 16] .mv, ⟨some
  18, [.sl 6], some (17, true), none, .mv⟩, ⟨some 19, [.tv 18, .cv (.int .i64 0)], some (17, true), none, .bin .geq⟩, I_ 20 [.tv 17, .tv 19, .cv (.bool false)] .pick, I_ 21 [.tk 20] .mv, ⟨some 22, [.tk 6], some (21, true), none,
  .mv⟩, ⟨some 23, [.tv 22, .cv (.int .i64 288)], some (21, true), none, .bin .leq⟩, I_ 24 [.tv 21, .tv 23, .cv (.bool false)] .pick, I_ 4 [.tk 14] .mv, I_ 5 [.tk 24] .mv]) .ret))
theorem lxx50 : linkF Tryz.prog ann50 50 = some (xrc50, 25, [.tmp 4, .tmp 5]) := by kernel_rfl
/-- crossband/crossbandlaw08.hours -/
def x50 (b : (Int × (List Int) × Int × Int)) (panels : (List (Int × Int))) : Option (Int × Bool) :=
  (x33 b panels).bind fun r1 =>
  if (decide (r1.2 = (0 : Int))) = true then
    if (decide ((0 : Int) ≤ r1.1)) = true then
      some (r1.1, (decide (r1.1 ≤ (288 : Int))))
    else
      some (r1.1, false)
  else
    some (r1.1, false)
theorem x50_ok {b : (Int × (List Int) × Int × Int)} {panels : (List (Int × Int))} {v : (Int × Bool)} (h : x50 b panels = some v) : PO 50 [(.agg [(I b.1), (.lst (b.2.1.map I) b.2.1.length .shared), (I b.2.2.1), (I b.2.2.2)]), (.lst (panels.flatMap pr) panels.length .shared)] (.tuple [(I v.1), (B v.2)]) := by
  refine fn_pureW hmix lxx50 rfl (pu_tup (allc rfl (allc rfl rfl))) fun Q hQ => ?_
  have hR : ∀ T H, RetW [.tmp 4, .tmp 5] (.tuple [(I v.1), (B v.2)]) .ret T H → Q .ret T H := fun T H hh => hQ _ T H hh
  unfold x50 at h
  unfold xrc50
  skip
  conv => whnf
  obtain ⟨r1, hb1, h⟩ := bd_some h
  refine ⟨(allc (pu_agg (allc rfl (allc (pu_map (fun _ => rfl) _ _ _) (allc rfl (allc rfl rfl))))) (allc (pu_flat (fun _ => (allc rfl (allc rfl rfl))) _ _ _) rfl)), _, x33_ok hb1, ?_⟩
  conv => whnf
  rcases bt (decide (r1.2 = (0 : Int))) with hb2 | hb2
  · rw [hb2]
    conv => whnf
    replace h := it_t hb2 h
    rcases bt (decide ((0 : Int) ≤ r1.1)) with hb3 | hb3
    · rw [hb3]
      conv => whnf
      replace h := it_t hb3 h
      obtain rfl := Option.some.inj h
      exact hR _ _ ⟨.inr rfl, _, rfl, _, frz_pure (pu_tup (allc rfl (allc rfl rfl))), rfl⟩
    · rw [hb3]
      conv => whnf
      replace h := it_f hb3 h
      obtain rfl := Option.some.inj h
      exact hR _ _ ⟨.inr rfl, _, rfl, _, frz_pure (pu_tup (allc rfl (allc rfl rfl))), rfl⟩
  · rw [hb2]
    conv => whnf
    replace h := it_f hb2 h
    obtain rfl := Option.some.inj h
    exact hR _ _ ⟨.inr rfl, _, rfl, _, frz_pure (pu_tup (allc rfl (allc rfl rfl))), rfl⟩
end Go.Proofs.YtbnbjjgagikobaaGreat.Ab

/- MADE BY PROGRAM (ex.py): functions as plain Lean, with their walks. -/
namespace Go.Proofs.YtbnbjjgagikobaaGreat.Ab
open Go
set_option maxRecDepth 20000
set_option maxHeartbeats 4000000
end Go.Proofs.YtbnbjjgagikobaaGreat.Ab

/-
  The plain law of Hours, and PressHeats.
-/
namespace Go.Proofs.YtbnbjjgagikobaaGreat.Ab
open Go
set_option maxRecDepth 20000
set_option maxHeartbeats 4000000
theorem pig : ∀ (l br : List Int), l.Nodup → (∀ x ∈ l, x ∈ br) → l.length ≤ br.length
  | [], _, _, _ => Nat.zero_le _
  | x :: l, br, hn, h => by
    have hx := h x (by simp)
    have hn := List.nodup_cons.1 hn
    have h1 := pig l (br.erase x) hn.2 fun y hy => (List.mem_erase_of_ne (fun e => hn.1 (by rw [← e]; exact hy))).2 (h y (by simp [hy]))
    rw [List.length_erase_of_mem hx] at h1
    have := List.length_pos_of_mem hx
    simp only [List.length_cons]; omega
theorem nodup_cast (o : Nat) : ((List.range o).map fun (i : Nat) => (i : Int)).Nodup := by
  rw [List.nodup_iff_pairwise_ne, List.pairwise_map]
  exact List.nodup_range.imp fun h e => h (by omega)
theorem whole_pos {b : Bed} (hb : BedOk b) : 0 < (wholeL b.1.toNat b.2.1).length := by
  rcases Nat.eq_zero_or_pos (wholeL b.1.toNat b.2.1).length with h0 | h0
  · exfalso
    have h1 : ∀ x ∈ (List.range b.1.toNat).map (fun (i : Nat) => (i : Int)), x ∈ b.2.1 := by
      intro x hx
      obtain ⟨i, hi, rfl⟩ := List.mem_map.1 hx
      rcases Classical.em ((i : Int) ∈ b.2.1) with h | h
      · exact h
      · exfalso
        have : (i : Int) ∈ wholeL b.1.toNat b.2.1 := by
          unfold wholeL wholeN
          exact List.mem_map.2 ⟨i, List.mem_filter.2 ⟨hi, by simp [h]⟩, rfl⟩
        rw [List.length_eq_zero_iff.1 h0] at this
        cases this
    have h2 := pig _ _ (nodup_cast b.1.toNat) h1
    have h3 := hb.lt
    have h4 := hb.o1
    simp at h2
    omega
  · exact h0
/-- What panels without an error are like. -/
structure PsOk (ps : List (Int × Int)) : Prop where
  len : ps.length ≤ 12
  heat : ∀ p ∈ ps, 0 ≤ p.1 ∧ p.1 ≤ 20
  hour : ∀ p ∈ ps, 1 ≤ p.2 ∧ p.2 ≤ 24
theorem badP_false {p : Int × Int} : badP p = false ↔ (0 ≤ p.1 ∧ p.1 ≤ 20) ∧ (1 ≤ p.2 ∧ p.2 ≤ 24) := by
  unfold badP; rw [Bool.or_eq_false_iff, outOf_false, outOf_false]
theorem pErr_iff (ps : List (Int × Int)) : pErr ps = 0 ↔ PsOk ps := by
  unfold pErr
  constructor
  · intro h
    split at h
    · cases h
    · split at h
      · cases h
      · rename_i h1 h2
        rw [Bool.not_eq_true, List.any_eq_false] at h2
        exact ⟨by omega, fun p hp => (badP_false.1 (by simpa using h2 p hp)).1, fun p hp => (badP_false.1 (by simpa using h2 p hp)).2⟩
  · intro h
    rw [if_neg (by have := h.len; omega), if_neg]
    rw [Bool.not_eq_true, List.any_eq_false]
    exact fun p hp => by simp [badP_false.2 ⟨h.heat p hp, h.hour p hp⟩]
theorem PsOk.hrs {ps : List (Int × Int)} (h : PsOk ps) : hrsOk ps := fun p hp => by have := h.hour p hp; omega
theorem PsOk.sub {ps : List (Int × Int)} (h : PsOk ps) (f : Int × Int → Bool) : PsOk (ps.filter f) :=
  ⟨Nat.le_trans (List.length_filter_le _ _) h.len, fun p hp => h.heat p (List.mem_filter.1 hp).1, fun p hp => h.hour p (List.mem_filter.1 hp).1⟩
theorem ofL_range (ps : List (Int × Int)) (heat : Int) : ∀ i ∈ ofL ps heat, 0 ≤ i ∧ i < (ps.length : Int) := by
  intro x hx
  obtain ⟨i, hi, rfl⟩ := List.mem_iff_getElem.1 hx
  have hi' : i < (idxs ps heat).length := by rw [ofL_len] at hi; exact hi
  have := ins_pr (lt := longer ps) (d := (idxs ps heat).toArray) (a := 0) (b := (idxs ps heat).length) (Pr := fun i => 0 ≤ i ∧ i < (ps.length : Int)) (fun y hy => by rw [getElem!_pos _ y hy]; exact idxs_range ps heat _ (by simp)) (by simp) i (by simpa using hi')
  rw [getElem!_pos _ i (by rw [ins_size]; simpa using hi')] at this
  exact this
theorem r70_eq {x : Bench} (ho : hrsOk x.2.1) {e : List Int} {t : Int} (he : e ≠ []) (hr : ∀ i ∈ e, 0 ≤ i ∧ i < (x.2.1.length : Int)) (ht : 0 ≤ t ∧ t ≤ 1000000) : x70_r1 x t e = some (t + (ix x.2.1 (e.headD 0)).2) ∧ 0 ≤ (ix x.2.1 (e.headD 0)).2 ∧ (ix x.2.1 (e.headD 0)).2 ≤ 24 := by
  cases e with
  | nil => exact absurd rfl he
  | cons a e =>
    have e0 : ix (a :: e) (0 : Int) = a := ix_nat (k := 0) (l := a :: e) (by simp)
    have ha := hr a (by simp)
    have h1 := ho _ (show ix x.2.1 a ∈ x.2.1 by rw [ix_of ha]; exact List.getElem_mem _)
    refine ⟨?_, h1⟩
    unfold x70_r1
    rw [e0, gd_pos ⟨by omega, by simp only [List.length_cons]; omega⟩, gd_pos ha, w_id (by omega)]
    rfl
theorem fold70 {x : Bench} (ho : hrsOk x.2.1) : ∀ (L : List (List Int)) (t : Int), (∀ e ∈ L, e ≠ [] ∧ ∀ i ∈ e, 0 ≤ i ∧ i < (x.2.1.length : Int)) → 0 ≤ t → t + 24 * L.length ≤ 1000000 → foldO (x70_r1 x) L t = some (t + (L.map fun e => (ix x.2.1 (e.headD 0)).2).sum)
  | [], t, _, _, _ => by simp [foldO]
  | e :: L, t, h, h0, h1 => by
    have h2 := h e (by simp)
    simp only [List.length_cons] at h1
    obtain ⟨h3, h4, h5⟩ := r70_eq ho h2.1 h2.2 (t := t) (by omega)
    rw [foldO, h3, Option.bind_some, fold70 ho L _ (fun e he => h e (by simp [he])) (by omega) (by omega), List.map_cons, List.sum_cons, Int.add_assoc]
theorem sum_heads (n : Nat) (hn : 0 < n) (ps : List (Int × Int)) (heat : Int) : ((chunks n (ofL ps heat)).map fun e => (ix ps (e.headD 0)).2).sum = hH n (hrs ps heat) := by
  unfold hH heads
  rw [← ofL_hrs, chunks_map, List.map_map]
  congr 1
  apply List.map_congr_left
  intro e he
  cases e with
  | nil => exact absurd rfl (chunk_ne hn he)
  | cons a e => rfl
theorem x70_l1_eq {x : Bench} {N : Nat} (hN : 1 ≤ N ∧ N ≤ 1000) (ho : PsOk x.2.1) {k : Int → Option Int} : ∀ (m i : Nat) (z : Int), z = i → i ≤ 21 → 21 - i < m → x70_l1 x (N : Int) k m z (hSum N x.2.1 i) = k (hSum N x.2.1 21)
  | 0, i, _, _, _, h => absurd h (by omega)
  | m + 1, i, _, rfl, hi, hm => by
    rw [x70_l1]
    by_cases h : i < 21
    · have hl := ho.len
      have hi2 := idxs_len x.2.1 (i : Int)
      have hs := hSum_le (n := N) (by omega) ho.hrs i
      have hc := cnt_le (fun p hp => (ho.heat p hp).1) i (ps := x.2.1)
      have hk := chunks_cnt (n := N) (by omega) (ofL x.2.1 (i : Int))
      rw [ofL_len] at hk
      have e1 : x76 x (i : Int) = some (ofL x.2.1 (i : Int)) := if_pos (by omega)
      have e2 : x75 (ofL x.2.1 (i : Int)) (N : Int) = some () := if_neg (by rw [decide_eq_true_eq]; omega)
      have e3 : s98 (ofL x.2.1 (i : Int)) (N : Int) = some (chunks N (ofL x.2.1 (i : Int))) := by
        unfold s98; rw [if_pos ⟨by omega, by omega, by rw [ofL_len]; omega⟩, Int.toNat_natCast]
      have e4 := fold70 (x := x) ho.hrs (chunks N (ofL x.2.1 (i : Int))) (hSum N x.2.1 i) (fun e he => ⟨chunk_ne (by omega) he, fun j hj => ofL_range _ _ j (chunk_mem he j hj)⟩) (by omega) (by omega)
      rw [sum_heads N (by omega), ← hSum_succ] at e4
      rw [if_pos (decide_eq_true (by omega)), e1, Option.bind_some, e2, Option.bind_some, e3, Option.bind_some, e4, Option.bind_some, w_succ i (by omega)]
      exact x70_l1_eq hN ho m (i + 1) _ rfl (by omega) (by omega)
    · obtain rfl : i = 21 := by omega
      rw [if_neg (by decide)]
theorem x70_eq {x : Bench} {N : Nat} (hN : 1 ≤ N ∧ N ≤ 1000) (ho : PsOk x.2.1) : x70 x (N : Int) = some (hSum N x.2.1 21) := by
  have := x70_l1_eq (x := x) hN ho (k := fun z => some z) FU 0 0 rfl (by omega) (FU_lt (by omega))
  rw [x70]
  exact this
/-- How many openings are whole. -/
def wn (b : Bed) : Nat := (wholeL b.1.toNat b.2.1).length
theorem wn_pos {b : Bed} (hb : BedOk b) : 1 ≤ wn b ∧ wn b ≤ 10 := ⟨whole_pos hb, Nat.le_trans (wholeL_len _ _) (by have := hb.o10; omega)⟩
theorem x69_eq {b : Bed} (hb : bErr b = 0) (hl : b.2.1.length ≤ 20) {ps : List (Int × Int)} (hp : PsOk ps) : x69 b ps = some (some (b, ps, wholeL b.1.toNat b.2.1, wantL ps), 0) := by
  rw [x69, x20_eq b (by omega), Option.bind_some, hb, if_neg (by decide), x22_eq, Option.bind_some, (pErr_iff ps).2 hp, if_neg (by decide), x59_eq (bedOk hb) hp.heat (by have := hp.len; omega), Option.bind_some]
theorem x33_eq {b : Bed} (hb : bErr b = 0) (hl : b.2.1.length ≤ 20) {ps : List (Int × Int)} (hp : PsOk ps) : x33 b ps = some (hSum (wn b) ps 21, 0) := by
  have hw := wn_pos (bedOk hb)
  rw [x33, x69_eq hb hl hp, Option.bind_some]
  show (if (decide ((0 : Int) ≠ (0 : Int))) = true then _ else _) = _
  rw [if_neg (by decide)]
  have := x70_eq (x := (b, ps, wholeL b.1.toNat b.2.1, wantL ps)) (N := wn b) ⟨by omega, by omega⟩ hp
  show (x70 (b, ps, wholeL b.1.toNat b.2.1, wantL ps) ((wholeL b.1.toNat b.2.1).length : Int)).bind _ = _
  rw [show (wholeL b.1.toNat b.2.1).length = wn b from rfl, this]; rfl
theorem hSum_in {n : Nat} (hn : 0 < n) {ps : List (Int × Int)} (hp : PsOk ps) (i : Nat) : 0 ≤ hSum n ps i ∧ hSum n ps i ≤ 288 := by
  have hs := hSum_le hn hp.hrs i
  have hc := cnt_le (fun p h => (hp.heat p h).1) i (ps := ps)
  have := hp.len
  omega
theorem x50_eq {b : Bed} (hb : bErr b = 0) (hl : b.2.1.length ≤ 20) {ps : List (Int × Int)} (hp : PsOk ps) : x50 b ps = some (hSum (wn b) ps 21, true) := by
  have hw := wn_pos (bedOk hb)
  have hh := hSum_in (n := wn b) (by omega) hp 21
  rw [x50, x33_eq hb hl hp, Option.bind_some]
  show (if decide ((0 : Int) = 0) = true then if decide ((0 : Int) ≤ hSum (wn b) ps 21) = true then some (hSum (wn b) ps 21, decide (hSum (wn b) ps 21 ≤ 288)) else _ else _) = _
  rw [if_pos (by decide), if_pos (decide_eq_true hh.1), decide_eq_true hh.2]
theorem x66_eq {b : Bed} (hl : b.2.1.length ≤ 20) (ps : List (Int × Int)) : x66 b ps = some (if bErr b = 0 then pErr ps else bErr b) := by
  rw [x66, x21_eq b (by omega), Option.bind_some]
  by_cases h : bErr b = 0
  · rw [if_pos h, h, if_neg (by decide), x23_eq]; rfl
  · rw [if_neg h, if_pos (decide_eq_true h)]; rfl
/-- Are a bed and panels such as the laws are about? -/
def FineOk (b : Bed) (ps : List (Int × Int)) : Prop := b.2.1.length ≤ 20 ∧ bErr b = 0 ∧ PsOk ps
theorem x45_eq (b : Bed) (ps : List (Int × Int)) : ∃ r, x45 b ps = some r ∧ (r = true → FineOk b ps) := by
  rw [x45, x16_eq, Option.bind_some]
  by_cases h : 20 < b.2.1.length ∨ 20 < ps.length
  · rw [if_pos (by simpa using h)]; exact ⟨_, rfl, fun h => by cases h⟩
  · rw [if_neg (by simpa using h), x66_eq (by omega), Option.bind_some]
    refine ⟨_, rfl, fun h2 => ?_⟩
    have h3 := of_decide_eq_true h2
    by_cases hb : bErr b = 0
    · rw [if_pos hb] at h3; exact ⟨by omega, hb, (pErr_iff ps).1 h3⟩
    · rw [if_neg hb] at h3; exact absurd h3 hb
end Go.Proofs.YtbnbjjgagikobaaGreat.Ab

/- MADE BY PROGRAM (ex.py): functions as plain Lean, with their walks. -/
namespace Go.Proofs.YtbnbjjgagikobaaGreat.Ab
open Go
set_option maxRecDepth 20000
set_option maxHeartbeats 4000000
end Go.Proofs.YtbnbjjgagikobaaGreat.Ab

/- MADE BY PROGRAM (ex.py): functions as plain Lean, with their walks. -/
namespace Go.Proofs.YtbnbjjgagikobaaGreat.Ab
open Go
set_option maxRecDepth 20000
set_option maxHeartbeats 4000000
end Go.Proofs.YtbnbjjgagikobaaGreat.Ab

/- MADE BY PROGRAM (ex.py): functions as plain Lean, with their walks. -/
namespace Go.Proofs.YtbnbjjgagikobaaGreat.Ab
open Go
set_option maxRecDepth 20000
set_option maxHeartbeats 4000000
end Go.Proofs.YtbnbjjgagikobaaGreat.Ab

/-
  The plain law of PressOpenings.
-/
namespace Go.Proofs.YtbnbjjgagikobaaGreat.Ab
open Go
set_option maxRecDepth 20000
set_option maxHeartbeats 4000000
theorem swo_down : Sort.SWO (fun x y : Int => decide (y < x)) := by
  constructor <;> intros <;> simp_all <;> omega
theorem down_perm (l : List Int) : (down l).Perm l := by
  obtain ⟨⟨h1, _, h3⟩, _⟩ := Sort.insertionSort_holds (lt := fun x y : Int => decide (y < x)) swo_down l.toArray 0 l.length (Nat.zero_le _) (by simp)
  unfold down
  generalize Sort.insertionSort (fun x y : Int => decide (y < x)) l.toArray 0 l.length = d at h1 h3
  have e1 : (d.extract 0 l.length).toList = d.toList := by
    have : l.length = d.size := by rw [h1]; simp
    rw [this]; simp
  have e2 : (l.toArray.extract 0 l.length).toList = l := by simp
  rwa [e1, e2] at h3
/-- The one at this place, or none. -/
def dn (l : List Int) (i : Nat) : Int := (down l).getD i 0
theorem dn_get {l : List Int} {i : Nat} (h : i < l.length) : dn l i = (down l)[i]'(by rw [down_len]; exact h) := by
  unfold dn; rw [List.getD_eq_getElem?_getD, List.getElem?_eq_getElem (by rw [down_len]; exact h)]; rfl
theorem dn_out {l : List Int} {i : Nat} (h : l.length ≤ i) : dn l i = 0 := by
  unfold dn; rw [List.getD_eq_getElem?_getD, List.getElem?_eq_none (by rw [down_len]; exact h)]; rfl
theorem dn_mono {l : List Int} (h0 : ∀ x ∈ l, 0 ≤ x) {i j : Nat} (hij : i ≤ j) : dn l j ≤ dn l i ∧ 0 ≤ dn l j := by
  have hin : ∀ k, 0 ≤ dn l k := fun k => by
    by_cases h : k < l.length
    · rw [dn_get h]; exact h0 _ ((down_perm l).mem_iff.1 (List.getElem_mem _))
    · rw [dn_out (by omega)]; exact Int.le_refl _
  refine ⟨?_, hin j⟩
  by_cases hj : j < l.length
  · by_cases e : i = j
    · subst e; exact Int.le_refl _
    · obtain ⟨⟨h1, _, _⟩, h4⟩ := Sort.insertionSort_holds (lt := fun x y : Int => decide (y < x)) swo_down l.toArray 0 l.length (Nat.zero_le _) (by simp)
      have h5 := h4 i j (Nat.zero_le _) (by omega) hj
      have hs : (Sort.insertionSort (fun x y : Int => decide (y < x)) l.toArray 0 l.length).size = l.length := by rw [ins_size]; simp
      rw [getElem!_pos _ i (by omega), getElem!_pos _ j (by omega)] at h5
      rw [dn_get hj, dn_get (by omega : i < l.length)]
      unfold down
      simp only [Array.getElem_toList]
      simpa using h5
  · rw [dn_out (by omega)]; exact hin i
theorem head_dn {n : Nat} (hn : 0 < n) (l : List Int) (j : Nat) : ((l.drop (j * n)).take n).headD 0 = l.getD (j * n) 0 := by
  obtain ⟨k, rfl⟩ : ∃ k, n = k + 1 := ⟨n - 1, by omega⟩
  rw [List.getD_eq_getElem?_getD]
  have : l[j * (k + 1)]? = (l.drop (j * (k + 1)))[0]? := by rw [List.getElem?_drop]; rfl
  rw [this]
  cases l.drop (j * (k + 1)) with
  | nil => rfl
  | cons a r => rfl
theorem hH_dn {n : Nat} (hn : 0 < n) (l : List Int) : hH n l = ((List.range ((l.length + n - 1) / n)).map fun j => dn l (j * n)).sum := by
  unfold hH heads chunks
  rw [List.map_map, down_len]
  congr 1
  apply List.map_congr_left
  intro j _
  exact head_dn hn _ j
end Go.Proofs.YtbnbjjgagikobaaGreat.Ab

/-
  PressOpenings.
-/
namespace Go.Proofs.YtbnbjjgagikobaaGreat.Ab
open Go
set_option maxRecDepth 20000
set_option maxHeartbeats 4000000
end Go.Proofs.YtbnbjjgagikobaaGreat.Ab

/-
  PressOpenings, the last step of the plain law.
-/
namespace Go.Proofs.YtbnbjjgagikobaaGreat.Ab
open Go
set_option maxRecDepth 20000
set_option maxHeartbeats 4000000
end Go.Proofs.YtbnbjjgagikobaaGreat.Ab

/-
  Words for rows of structs that are objects; rows that are settled.
-/
namespace Go.Proofs.YtbnbjjgagikobaaGreat.Ab
open Go
theorem flat_get {α : Type} [Inhabited α] (f : α → List AV) (s : Nat) (hs : ∀ x, (f x).length = s) (l : List α) (n : Int) (h : 0 ≤ n ∧ n < (l.length : Int)) (j : Nat) (hj : j < s) : (l.flatMap f)[n.toNat * s + j]? = (f (ix l n))[j]? := by
  have e := dropS f s hs l n h
  have : (l.flatMap f)[n.toNat * s + j]? = ((l.flatMap f).drop (n.toNat * s))[j]? := by rw [List.getElem?_drop]
  rw [this, e, List.getElem?_append_left (by rw [hs]; exact hj)]
theorem rdS {α : Type} [Inhabited α] (f : α → List AV) (s : Nat) (hs : ∀ x, (f x).length = s) (l : List α) (n : Int) (h : 0 ≤ n ∧ n < (l.length : Int)) (j : Nat) {v : AV} (hj : (f (ix l n))[j]? = some v) {K : AV → Prop} (k : K v) : nthK (l.flatMap f) (0 + n.toNat * s + j) K := by
  refine nthK_of (x := v) ?_ k
  rw [Nat.zero_add, flat_get f s hs l n h j (by have := (List.getElem?_eq_some_iff.1 hj).1; rw [hs] at this; exact this), hj]
theorem flat_set {α : Type} (f : α → List AV) (s : Nat) (hs : ∀ x, (f x).length = s) (j : Nat) (hj : j < s) (v : AV) : ∀ (l : List α) (k : Nat) (hk : k < l.length) (x : α), (f l[k]).set j v = f x → (l.flatMap f).set (k * s + j) v = (l.set k x).flatMap f
  | [], k, hk, x, _ => absurd hk (by simp)
  | y :: l, 0, hk, x, h => by
    rw [Nat.zero_mul, Nat.zero_add, List.flatMap_cons, List.set_append_left _ _ (by rw [hs]; exact hj), List.set_cons_zero, List.flatMap_cons]
    exact congrArg (· ++ _) h
  | y :: l, k + 1, hk, x, h => by
    rw [List.flatMap_cons, List.set_append_right _ _ (by rw [hs, Nat.add_mul]; omega), List.set_cons_succ, List.flatMap_cons]
    have e : (k + 1) * s + j - (f y).length = k * s + j := by rw [hs, Nat.add_mul]; omega
    rw [e, flat_set f s hs j hj v l k (by simpa using hk) x h]
theorem updS {α : Type} [Inhabited α] (f : α → List AV) (s : Nat) (hs : ∀ x, (f x).length = s) (l : List α) (n : Int) (h : 0 ≤ n ∧ n < (l.length : Int)) (j : Nat) {v : AV} {x : α} (hj : j < s) (hx : (f (ix l n)).set j v = f x) {K : List AV → Prop} (k : K ((l.set n.toNat x).flatMap f)) : updK (l.flatMap f) (0 + n.toNat * s + j) v K := by
  have h' : n.toNat < l.length := by omega
  have hm : n.toNat * s + s ≤ l.length * s := by
    have := Nat.mul_le_mul_right s (show n.toNat + 1 ≤ l.length from h'); rw [Nat.add_mul] at this; omega
  refine updK_of (by rw [flatLen f s hs]; omega) ?_
  rw [Nat.zero_add, flat_set f s hs j hj v l n.toNat h' x (by rw [← ix_of h]; exact hx)]; exact k
/-- A row that is settled. -/
theorem frz_mv {P : Program} {C : CallFn} {lo id n : Nat} {cap : Option Nat} {o : Oper} {x : Operand} {H : List AObj} {cs : List AV} {sz : Nat} (ho : o.op = .move x) (hlo : lo ≤ id) (hH : H[id]? = some (.cells cs)) (hn : cs.length = n * sz) (hv : ∀ u ∈ cs, u.view = u) :
    opAll P C lo o 2 [.ref id 0 n cap sz] H = some (.lst cs n (frzCap cap n), H.set id .dead) := by
  unfold opAll; rw [ho]
  show opMove P lo 2 o.type x H [.ref id 0 n cap sz] = _
  unfold opMove
  simp only [hlo, if_true, rowOf, hH, lenOf, Nat.zero_add]
  have e : cs.map AV.view = cs := (List.map_congr_left (g := fun u => u) hv).trans (List.map_id' cs)
  rw [if_pos (by omega), List.drop_zero, List.take_of_length_le (by omega), e]; rfl
theorem frz_mv2 {P : Program} {C : CallFn} {lo id n m : Nat} {cap : Option Nat} {o : Oper} {x : Operand} {H : List AObj} {cs : List AV} {sz : Nat} (ho : o.op = .move x) (hlo : lo ≤ id) (hH : H[id]? = some (.cells cs)) (hnm : n = m) (hn : cs.length = m * sz) (hv : ∀ u ∈ cs, u.view = u) :
    opAll P C lo o 2 [.ref id 0 n cap sz] H = some (.lst cs m (frzCap cap m), H.set id .dead) := by
  subst hnm; exact frz_mv ho hlo hH hn hv
theorem view_flat {α : Type} {f : α → List AV} (h : ∀ x, ∀ u ∈ f x, u.view = u) (l : List α) : ∀ u ∈ l.flatMap f, u.view = u := fun u hu => by
  obtain ⟨x, _, hx⟩ := List.mem_flatMap.1 hu; exact h x u hx
theorem view_nil : ∀ u ∈ ([] : List AV), u.view = u := fun u h => absurd h (by simp)
theorem view_cons {v : AV} {l : List AV} (h : v.view = v) (k : ∀ u ∈ l, u.view = u) : ∀ u ∈ v :: l, u.view = u := fun u hu => by
  rcases List.mem_cons.1 hu with rfl | hu
  · exact h
  · exact k u hu
end Go.Proofs.YtbnbjjgagikobaaGreat.Ab

/- MADE BY PROGRAM (ex.py): functions as plain Lean, with their walks. -/
namespace Go.Proofs.YtbnbjjgagikobaaGreat.Ab
open Go
set_option maxRecDepth 20000
set_option maxHeartbeats 4000000
noncomputable def xrc10_3 : RC :=
  .cond (.sl 22) (.seq (.reg false [I_ 23 [.cv (.func 17 [] [])] (.call 3), I_ 10 [.tk 23] .mv]) .ret) .skip
noncomputable def xrc10_6 : RC :=
  .cond (.sl 31) (.seq (.reg false [I_ 10 [.cv (.bool false)] .mv]) .ret) .skip
noncomputable def xrc10_10 : RC :=
  .cond (.sl 61) (.seq (.reg false [I_ 10 [.cv (.bool false)] .mv]) .ret) .skip
noncomputable def xrc10_9 : RC :=
  .seq (.reg false [I_ 47 [.tk 15] .mv, I_ 48 [.tv 47] (.un .not), I_ 49 [.tk 48] .mv, ⟨some 50, [.sl 14], some (49, false), none, .mv⟩, ⟨some 51, [.sl 11], some (49, false), none, .mv⟩, ⟨some 52, [.tv 50, .tv 51], some (49,
  false), none, .bin .lss⟩, I_ 53 [.tv 49, .cv (.bool true), .tv 52] .pick, I_ 54 [.tk 53] .mv, ⟨some 55, [.tk 14], some (54, false), none, .mv⟩, ⟨some 56, [.sl 11], some (54, false), none, .mv⟩, ⟨some 57, [.tv 7], some (54,
  false), none, .fa 1⟩, ⟨some 58, [.tv 57], some (54, false), none, .ld .one⟩, ⟨some 59, [.tv 56, .tv 58], some (54, false), none, .bin .add⟩, ⟨some 60, [.tv 55, .tv 59], some (54, false), none, .bin .gtr⟩, I_ 61 [.tv 54, .cv
  (.bool true), .tv 60] .pick]) xrc10_10
noncomputable def xrc10_8 : RC :=
  .cond (.sl 40) (.seq (.reg false [I_ 42 [.sl 5] (.ld (.str 4)), I_ 43 [.tk 13] .mv, I_ 44 [.cv (.func 50 [] []), .sl 42, .sl 43] (.call 3), I_ 41 [.tk 44] .mv, I_ 45 [.sl 41] (.ext 0), I_ 46 [.tv 41] (.ext 1), I_ 14 [.tk 45] .mv,
  I_ 15 [.tk 46] .mv]) xrc10_9) .skip
noncomputable def xrc10_12 : RC :=
  .cond (.sl 64) (.seq (.reg false [I_ 65 [.tk 11] .mv, I_ 66 [.tv 65, .cv (.int .i64 0)] (.bin .eql), I_ 67 [.tk 66] .mv, ⟨some 68, [.cv (.func 17 [] [])], some (67, true), none, .call 3⟩, I_ 69 [.tv 67, .tv 68, .cv (.bool false)]
  .pick, I_ 10 [.tk 69] .mv]) .ret) .skip
noncomputable def xrc10_16 : RC :=
  .seq (.reg true [I_ 97 [.tk 12] .mv, I_ 98 [.tk 97] .mv, ⟨some 99, [.sl 18], some (98, true), none, .mv⟩, ⟨some 100, [.sl 11], some (98, true), none, .mv⟩, ⟨some 101, [.tv 99, .tv 100], some (98, true), none, .bin .geq⟩, I_ 102
  [.sl 98, .tv 101, .cv (.bool false)] .pick, I_ 103 [.tk 102] .mv, ⟨some 104, [.sl 18], some (103, true), none, .mv⟩, ⟨some 105, [.sl 11], some (103, true), none, .mv⟩, ⟨some 106, [.tk 16], some (103, true), none, .mv⟩, ⟨some
  107, [.sl 17], some (103, true), none, .mv⟩, ⟨some 108, [.tv 106, .tv 107], some (103, true), none, .ia 2⟩, ⟨some 109, [.tv 108], some (103, true), none, .fa 1⟩, ⟨some 110, [.tv 109], some (103, true), none, .ld .one⟩, ⟨some
  111, [.tv 105, .tv 110], some (103, true), none, .bin .add⟩, ⟨some 112, [.tk 1], some (103, true), none, .mv⟩, ⟨some 113, [.sl 17], some (103, true), none, .mv⟩, ⟨some 114, [.tv 112, .tv 113], some (103, true), none, .ia 2⟩,
  ⟨some 115, [.tv 114], some (103, true), none, .fa 1⟩, ⟨some 116, [.tv 115], some (103, true), none, .ld .one⟩, ⟨some 117, [.tv 111, .tv 116], some (103, true), none, .bin .sub⟩, ⟨some 118, [.tv 104, .tv 117], some (103, true),
  none, .bin .leq⟩, I_ 119 [.sl 103, .tv 118, .cv (.bool false)] .pick, I_ 120 [.tk 119] .mv, ⟨some 121, [.cv (.func 17 [] [])], some (120, true), none, .call 3⟩, I_ 122 [.sl 120, .tv 121, .cv (.bool false)] .pick, I_ 10 [.tk
  122] .mv]) .ret
noncomputable def xrc10_15 : RC :=
  .seq (.reg false [I_ 92 [.tv 5] (.ld (.str 4)), ⟨some 93, [.sl 16], none, some 16, .other (Oper.mk (some 93) (Op.move (Operand.tmp 16)) 25 "outright.go:161" (Array.mk []) none) 2⟩, I_ 94 [.cv (.func 50 [] []), .sl 92, .sl 93]
  (.call 3), I_ 91 [.tk 94] .mv, I_ 95 [.sl 91] (.ext 0), I_ 96 [.tv 91] (.ext 1), I_ 18 [.tk 95] .mv, I_ 12 [.tk 96] .mv]) xrc10_16
noncomputable def xrc10_14 : RC :=
  .seq (.reg false [I_ 78 [.sl 16] .mv, I_ 79 [.sl 17] .mv, I_ 80 [.sl 16] .mv, I_ 81 [.sl 17] .mv, I_ 82 [.tv 80, .tv 81] (.ia 2), I_ 83 [.tv 82] (.fa 1), I_ 84 [.tv 83] (.ld .one), I_ 85 [.tk 4] .mv, I_ 86 [.tv 85] (.conv .i64),
  I_ 87 [.tv 84, .tv 86] (.bin .add), I_ 88 [.cv (.int .i64 24), .tk 87] .min, I_ 89 [.tv 78, .tv 79] (.ia 2), I_ 90 [.tv 89] (.fa 1), ⟨none, [.tk 90, .tk 88], none, none, .st 1⟩]) xrc10_15
noncomputable def xrc10_13 : RC :=
  .seq (.reg false [I_ 73 [.tk 3] .mv, I_ 74 [.tv 73] (.conv .i64), I_ 75 [.sl 16] .mv, I_ 76 [.tk 75] .lenS, I_ 77 [.tv 74, .tv 76] (.bin .rem), I_ 17 [.tk 77] .mv]) xrc10_14
noncomputable def xrc10_11 : RC :=
  .seq (.reg false [I_ 70 [] (.buildS 0 2 [.int .i64 0, .int .i64 0] []), I_ 71 [.sl 1] .mv, I_ 72 [.tk 70, .tk 71] (.app 2 16), ⟨some 16, [.tk 72], none, some 72, .thaw⟩]) xrc10_13
noncomputable def xrc10_17 : RC :=
  .seq (.seq (.reg false [I_ 62 [.sl 1] .mv, I_ 63 [.tk 62] .lenS, I_ 64 [.tv 63, .cv (.int .i64 0)] (.bin .eql)]) xrc10_12) xrc10_11
noncomputable def xrc10_7 : RC :=
  .seq (.seq (.reg false [I_ 38 [.sl 5] (.ld (.str 4)), I_ 39 [.sl 13] .mv, I_ 40 [.cv (.func 45 [] []), .sl 38, .sl 39] (.call 3)]) xrc10_8) xrc10_17
noncomputable def xrc10_5 : RC :=
  .seq (.reg true [I_ 32 [] (.buildS 0 2 [.int .i64 0, .int .i64 0] []), I_ 33 [.sl 1] .mv, I_ 34 [.tk 32, .tk 33] (.app 2 16), I_ 35 [.sl 7] (.ld (.str 2)), I_ 36 [.tv 35] (.buildS 1 2 [.int .i64 0, .int .i64 0] [0]), I_ 37 [.tk
  34, .tk 36] (.app 2 16), I_ 13 [.tk 37] .mv]) xrc10_7
noncomputable def xrc10_4 : RC :=
  .seq (.seq (.reg false [I_ 30 [.tk 12] .mv, I_ 31 [.tv 30] (.un .not)]) xrc10_6) xrc10_5
noncomputable def xrc10_2 : RC :=
  .seq (.reg false [I_ 25 [.sl 5] (.ld (.str 4)), I_ 26 [.sl 1] .mv, I_ 27 [.cv (.func 50 [] []), .sl 25, .sl 26] (.call 3), I_ 24 [.tk 27] .mv, I_ 28 [.sl 24] (.ext 0), I_ 29 [.tv 24] (.ext 1), I_ 11 [.tk 28] .mv, I_ 12 [.tk 29]
  .mv]) xrc10_4
noncomputable def xrc10_1 : RC :=
  .seq (.seq (.reg false [I_ 19 [.sl 5] (.ld (.str 4)), I_ 20 [.sl 1] .mv, I_ 21 [.cv (.func 45 [] []), .sl 19, .sl 20] (.call 3), I_ 22 [.tv 21] (.un .not)]) xrc10_3) xrc10_2
noncomputable def xrc10 : RC :=
  .seq (.reg false [I_ 5 [.tk 0] .box, I_ 7 [.tk 2] .box, I_ 10 [.cv (.bool false)] .mv]) xrc10_1
theorem lxx10 : linkF Tryz.prog ann10 10 = some (xrc10, 123, [.tmp 10]) := by kernel_rfl
def x10_j1 (b : (Int × (List Int) × Int × Int)) (panels : (List (Int × Int))) (which : Int) (more : Int) (r2 : (Int × Bool))  : Option Bool :=
  if (decide ((panels.length : Int) = (0 : Int))) = true then
    if (decide (r2.1 = (0 : Int))) = true then
      (x17).bind fun r5 =>
      some r5
    else
      some false
  else
    gd ((([] : List (Int × Int)).length + panels.length) * 16 ≤ 140737488355328) <|
    gd ((([] : List (Int × Int)) ++ panels).length ≠ 0) <|
    gd ((((([] : List (Int × Int)) ++ panels).length : Nat) : Int) ≠ 0) <|
    gd (0 ≤ ((w which).tmod (((([] : List (Int × Int)) ++ panels).length : Nat) : Int)) ∧ ((w which).tmod (((([] : List (Int × Int)) ++ panels).length : Nat) : Int)) < (((([] : List (Int × Int)) ++ panels).length : Nat) : Int) ∧ (([] : List (Int × Int)) ++ panels).length = (([] : List (Int × Int)) ++ panels).length) <|
    gd (0 ≤ ((w which).tmod (((([] : List (Int × Int)) ++ panels).length : Nat) : Int)) ∧ ((w which).tmod (((([] : List (Int × Int)) ++ panels).length : Nat) : Int)) < (((([] : List (Int × Int)) ++ panels).length : Nat) : Int) ∧ (([] : List (Int × Int)) ++ panels).length = (([] : List (Int × Int)) ++ panels).length) <|
    gd ((([] : List (Int × Int)) ++ panels).length = ((([] : List (Int × Int)) ++ panels).set ((w which).tmod (((([] : List (Int × Int)) ++ panels).length : Nat) : Int)).toNat ((ix (([] : List (Int × Int)) ++ panels) ((w which).tmod (((([] : List (Int × Int)) ++ panels).length : Nat) : Int))).1, (min (24 : Int) (w ((ix (([] : List (Int × Int)) ++ panels) ((w which).tmod (((([] : List (Int × Int)) ++ panels).length : Nat) : Int))).2 + (w more)))))).length) <|
    (x50 b ((([] : List (Int × Int)) ++ panels).set ((w which).tmod (((([] : List (Int × Int)) ++ panels).length : Nat) : Int)).toNat ((ix (([] : List (Int × Int)) ++ panels) ((w which).tmod (((([] : List (Int × Int)) ++ panels).length : Nat) : Int))).1, (min (24 : Int) (w ((ix (([] : List (Int × Int)) ++ panels) ((w which).tmod (((([] : List (Int × Int)) ++ panels).length : Nat) : Int))).2 + (w more))))))).bind fun r6 =>
    if r6.2 = true then
      if (decide (r2.1 ≤ r6.1)) = true then
        gd (0 ≤ ((w which).tmod (((([] : List (Int × Int)) ++ panels).length : Nat) : Int)) ∧ ((w which).tmod (((([] : List (Int × Int)) ++ panels).length : Nat) : Int)) < (((([] : List (Int × Int)) ++ panels).set ((w which).tmod (((([] : List (Int × Int)) ++ panels).length : Nat) : Int)).toNat ((ix (([] : List (Int × Int)) ++ panels) ((w which).tmod (((([] : List (Int × Int)) ++ panels).length : Nat) : Int))).1, (min (24 : Int) (w ((ix (([] : List (Int × Int)) ++ panels) ((w which).tmod (((([] : List (Int × Int)) ++ panels).length : Nat) : Int))).2 + (w more)))))).length : Int)) <|
        gd (0 ≤ ((w which).tmod (((([] : List (Int × Int)) ++ panels).length : Nat) : Int)) ∧ ((w which).tmod (((([] : List (Int × Int)) ++ panels).length : Nat) : Int)) < (panels.length : Int)) <|
        if (decide (r6.1 ≤ (w ((w (r2.1 + (ix ((([] : List (Int × Int)) ++ panels).set ((w which).tmod (((([] : List (Int × Int)) ++ panels).length : Nat) : Int)).toNat ((ix (([] : List (Int × Int)) ++ panels) ((w which).tmod (((([] : List (Int × Int)) ++ panels).length : Nat) : Int))).1, (min (24 : Int) (w ((ix (([] : List (Int × Int)) ++ panels) ((w which).tmod (((([] : List (Int × Int)) ++ panels).length : Nat) : Int))).2 + (w more)))))) ((w which).tmod (((([] : List (Int × Int)) ++ panels).length : Nat) : Int))).2)) - (ix panels ((w which).tmod (((([] : List (Int × Int)) ++ panels).length : Nat) : Int))).2)))) = true then
          (x17).bind fun r7 =>
          some r7
        else
          some false
      else
        some false
    else
      some false
/-- crossband/crossbandlaw08.PressMore -/
def x10 (b : (Int × (List Int) × Int × Int)) (panels : (List (Int × Int))) (p : (Int × Int)) (which : Int) (more : Int) : Option Bool :=
  (x45 b panels).bind fun r1 =>
  if r1 = true then
    (x50 b panels).bind fun r2 =>
    if r2.2 = true then
      gd ((([] : List (Int × Int)).length + panels.length) * 16 ≤ 140737488355328) <|
      gd (((([] : List (Int × Int)) ++ panels).length + 1) * 16 ≤ 140737488355328) <|
      (x45 b ((([] : List (Int × Int)) ++ panels) ++ [p])).bind fun r3 =>
      if r3 = true then
        (x50 b ((([] : List (Int × Int)) ++ panels) ++ [p])).bind fun r4 =>
        if r4.2 = true then
          if (decide (r4.1 < r2.1)) = true then
            some false
          else
            if (decide ((w (r2.1 + p.2)) < r4.1)) = true then
              some false
            else
              x10_j1 b panels which more r2
        else
          some false
      else
        x10_j1 b panels which more r2
    else
      some false
  else
    (x17).bind fun r8 =>
    some r8
theorem x10_j1_ok {b : (Int × (List Int) × Int × Int)} {panels : (List (Int × Int))} {which : Int} {more : Int} {r2 : (Int × Bool)} {v : Bool} {Q : Ex → List AV → List AObj → Prop} {u0 : AV} {u2 : AV} {u7 : AV} {u10 : AV} {u12 : AV} {u13 : AV} {u14 : AV} {u15 : AV} {u16 : AV} {u17 : AV} {u18 : AV} {u19 : AV} {u20 : AV} {u21 : AV} {u22 : AV} {u23 : AV} {u24 : AV} {u25 : AV} {u26 : AV} {u27 : AV} {u28 : AV} {u29 : AV} {u30 : AV} {u31 : AV} {u32 : AV} {u33 : AV} {u34 : AV} {u35 : AV} {u36 : AV} {u37 : AV} {u38 : AV} {u39 : AV} {u40 : AV} {u41 : AV} {u42 : AV} {u43 : AV} {u44 : AV} {u45 : AV} {u46 : AV} {u47 : AV} {u48 : AV} {u49 : AV} {u50 : AV} {u51 : AV} {u52 : AV} {u53 : AV} {u54 : AV} {u55 : AV} {u56 : AV} {u57 : AV} {u58 : AV} {u59 : AV} {u60 : AV} {u61 : AV} {u62 : AV} {u63 : AV} {u64 : AV} {u65 : AV} {u66 : AV} {u67 : AV} {u68 : AV} {u69 : AV} {u70 : AV} {u71 : AV} {u72 : AV} {u73 : AV} {u74 : AV} {u75 : AV} {u76 : AV} {u77 : AV} {u78 : AV} {u79 : AV} {u80 : AV} {u81 : AV} {u82 : AV} {u83 : AV} {u84 : AV} {u85 : AV} {u86 : AV} {u87 : AV} {u88 : AV} {u89 : AV} {u90 : AV} {u91 : AV} {u92 : AV} {u93 : AV} {u94 : AV} {u95 : AV} {u96 : AV} {u97 : AV} {u98 : AV} {u99 : AV} {u100 : AV} {u101 : AV} {u102 : AV} {u103 : AV} {u104 : AV} {u105 : AV} {u106 : AV} {u107 : AV} {u108 : AV} {u109 : AV} {u110 : AV} {u111 : AV} {u112 : AV} {u113 : AV} {u114 : AV} {u115 : AV} {u116 : AV} {u117 : AV} {u118 : AV} {u119 : AV} {u120 : AV} {u121 : AV} {u122 : AV} {o2 : AObj}  (hR : ∀ T H, RetW [.tmp 10] (B v) .ret T H → Q .ret T H) (h : x10_j1 b panels which more r2  = some v) :
    wpR Tryz.prog ann10 10 0 none xrc10_17 [u0, (.lst (panels.flatMap pr) panels.length .shared), u2, (U8 which), (U8 more), (.ptr 0 0), J, u7, J, J, u10, (I r2.1), u12, u13, u14, u15, u16, u17, u18, u19, u20, u21, u22, u23, u24, u25, u26, u27, u28, u29, u30, u31, u32, u33, u34, u35, u36, u37, u38, u39, u40, u41, u42, u43, u44, u45, u46, u47, u48, u49, u50, u51, u52, u53, u54, u55, u56, u57, u58, u59, u60, u61, u62, u63, u64, u65, u66, u67, u68, u69, u70, u71, u72, u73, u74, u75, u76, u77, u78, u79, u80, u81, u82, u83, u84, u85, u86, u87, u88, u89, u90, u91, u92, u93, u94, u95, u96, u97, u98, u99, u100, u101, u102, u103, u104, u105, u106, u107, u108, u109, u110, u111, u112, u113, u114, u115, u116, u117, u118, u119, u120, u121, u122] [AObj.cells [(I b.1), (.lst (b.2.1.map I) b.2.1.length .shared), (I b.2.2.1), (I b.2.2.2)], o2] Q := by
  unfold x10_j1 at h
  unfold xrc10_17
  obtain ⟨c_11, g_11⟩ : ∃ c, xrc10_11 = c := ⟨_, rfl⟩
  rw [g_11]
  obtain ⟨c_12, g_12⟩ : ∃ c, xrc10_12 = c := ⟨_, rfl⟩
  rw [g_12]
  conv => whnf
  subst g_12
  unfold xrc10_12
  skip
  conv => whnf
  rcases bt (decide ((panels.length : Int) = (0 : Int))) with hb11 | hb11
  · rw [hb11]
    conv => whnf
    replace h := it_t hb11 h
    rcases bt (decide (r2.1 = (0 : Int))) with hb12 | hb12
    · rw [hb12]
      conv => whnf
      replace h := it_t hb12 h
      obtain ⟨r5, hb13, h⟩ := bd_some h
      refine ⟨rfl, _, x17_ok hb13, ?_⟩
      conv => whnf
      obtain rfl := Option.some.inj h
      exact hR _ _ ⟨.inr rfl, _, rfl, _, frz_pure rfl, rfl⟩
    · rw [hb12]
      conv => whnf
      replace h := it_f hb12 h
      obtain rfl := Option.some.inj h
      exact hR _ _ ⟨.inr rfl, _, rfl, _, frz_pure rfl, rfl⟩
  · rw [hb11]
    conv => whnf
    replace h := it_f hb11 h
    subst g_11
    unfold xrc10_11
    obtain ⟨c_13, g_13⟩ : ∃ c, xrc10_13 = c := ⟨_, rfl⟩
    rw [g_13]
    conv => whnf
    obtain ⟨hb14, h⟩ := gd_some h
    refine ⟨by first | rfl | (simp; done) | exact flatLen pr _ pr_len _, by have := hb14; omega, rfl, hb14, ?_⟩
    erw [apndSS pr ([] : List (Int × Int)) panels]
    conv => whnf
    obtain ⟨hb15, h⟩ := gd_some h
    refine .inl ⟨hb15, ?_⟩
    conv => whnf
    subst g_13
    unfold xrc10_13
    obtain ⟨c_14, g_14⟩ : ∃ c, xrc10_14 = c := ⟨_, rfl⟩
    rw [g_14]
    conv => whnf
    obtain ⟨hb16, h⟩ := gd_some h
    refine ⟨hb16, ?_⟩
    conv => whnf
    subst g_14
    unfold xrc10_14
    obtain ⟨c_15, g_15⟩ : ∃ c, xrc10_15 = c := ⟨_, rfl⟩
    rw [g_15]
    conv => whnf
    obtain ⟨hb17, h⟩ := gd_some h
    refine ⟨⟨hb17.1, hb17.2.1⟩, ?_⟩
    replace hb17 : 0 ≤ ((w which).tmod (((([] : List (Int × Int)) ++ panels).length : Nat) : Int)) ∧ ((w which).tmod (((([] : List (Int × Int)) ++ panels).length : Nat) : Int)) < ((([] : List (Int × Int)) ++ panels).length : Int) := ⟨hb17.1, by have := hb17.2; omega⟩
    conv => whnf
    refine rdS pr 2 pr_len (([] : List (Int × Int)) ++ panels) ((w which).tmod (((([] : List (Int × Int)) ++ panels).length : Nat) : Int)) hb17 1 rfl ?_
    conv => whnf
    obtain ⟨hb18, h⟩ := gd_some h
    refine ⟨⟨hb18.1, hb18.2.1⟩, ?_⟩
    replace hb18 : 0 ≤ ((w which).tmod (((([] : List (Int × Int)) ++ panels).length : Nat) : Int)) ∧ ((w which).tmod (((([] : List (Int × Int)) ++ panels).length : Nat) : Int)) < ((([] : List (Int × Int)) ++ panels).length : Int) := ⟨hb18.1, by have := hb18.2; omega⟩
    conv => whnf
    refine updS pr 2 pr_len (([] : List (Int × Int)) ++ panels) ((w which).tmod (((([] : List (Int × Int)) ++ panels).length : Nat) : Int)) hb18 1 (x := ((ix (([] : List (Int × Int)) ++ panels) ((w which).tmod (((([] : List (Int × Int)) ++ panels).length : Nat) : Int))).1, (min (24 : Int) (w ((ix (([] : List (Int × Int)) ++ panels) ((w which).tmod (((([] : List (Int × Int)) ++ panels).length : Nat) : Int))).2 + (w more)))))) (by decide) rfl ?_
    conv => whnf
    subst g_15
    unfold xrc10_15
    obtain ⟨c_16, g_16⟩ : ∃ c, xrc10_16 = c := ⟨_, rfl⟩
    rw [g_16]
    conv => whnf
    obtain ⟨hb19, h⟩ := gd_some h
    refine ⟨_, _, fun C => frz_mv2 (cs := ((([] : List (Int × Int)) ++ panels).set ((w which).tmod (((([] : List (Int × Int)) ++ panels).length : Nat) : Int)).toNat ((ix (([] : List (Int × Int)) ++ panels) ((w which).tmod (((([] : List (Int × Int)) ++ panels).length : Nat) : Int))).1, (min (24 : Int) (w ((ix (([] : List (Int × Int)) ++ panels) ((w which).tmod (((([] : List (Int × Int)) ++ panels).length : Nat) : Int))).2 + (w more)))))).flatMap pr) (sz := 2) rfl (Nat.zero_le _) (by first | with_reducible exact get_concat _ _ | exact get_concat _ _ | exact ga (get_concat _ _) | rfl | (simp [List.getElem?_append, AV.settle]; done)) hb19 (flatLen pr 2 pr_len _) (view_flat (fun _ => (view_cons rfl (view_cons rfl view_nil))) _), ?_⟩
    conv => whnf
    obtain ⟨r6, hb20, h⟩ := bd_some h
    refine ⟨(allc (pu_agg (allc rfl (allc (pu_map (fun _ => rfl) _ _ _) (allc rfl (allc rfl rfl))))) (allc (pu_flat (fun _ => (allc rfl (allc rfl rfl))) _ _ _) rfl)), _, x50_ok hb20, ?_⟩
    conv => whnf
    subst g_16
    unfold xrc10_16
    skip
    conv => whnf
    rcases bt r6.2 with hb21 | hb21
    · rw [hb21]
      conv => whnf
      replace h := it_t hb21 h
      rcases bt (decide (r2.1 ≤ r6.1)) with hb22 | hb22
      · rw [hb22]
        conv => whnf
        replace h := it_t hb22 h
        obtain ⟨hb23, h⟩ := gd_some h
        refine ⟨hb23, ?_⟩
        rw [dropS pr 2 pr_len ((([] : List (Int × Int)) ++ panels).set ((w which).tmod (((([] : List (Int × Int)) ++ panels).length : Nat) : Int)).toNat ((ix (([] : List (Int × Int)) ++ panels) ((w which).tmod (((([] : List (Int × Int)) ++ panels).length : Nat) : Int))).1, (min (24 : Int) (w ((ix (([] : List (Int × Int)) ++ panels) ((w which).tmod (((([] : List (Int × Int)) ++ panels).length : Nat) : Int))).2 + (w more)))))) ((w which).tmod (((([] : List (Int × Int)) ++ panels).length : Nat) : Int)) hb23]
        conv => whnf
        obtain ⟨hb24, h⟩ := gd_some h
        refine ⟨hb24, ?_⟩
        rw [dropS pr 2 pr_len panels ((w which).tmod (((([] : List (Int × Int)) ++ panels).length : Nat) : Int)) hb24]
        conv => whnf
        rcases bt (decide (r6.1 ≤ (w ((w (r2.1 + (ix ((([] : List (Int × Int)) ++ panels).set ((w which).tmod (((([] : List (Int × Int)) ++ panels).length : Nat) : Int)).toNat ((ix (([] : List (Int × Int)) ++ panels) ((w which).tmod (((([] : List (Int × Int)) ++ panels).length : Nat) : Int))).1, (min (24 : Int) (w ((ix (([] : List (Int × Int)) ++ panels) ((w which).tmod (((([] : List (Int × Int)) ++ panels).length : Nat) : Int))).2 + (w more)))))) ((w which).tmod (((([] : List (Int × Int)) ++ panels).length : Nat) : Int))).2)) - (ix panels ((w which).tmod (((([] : List (Int × Int)) ++ panels).length : Nat) : Int))).2)))) with hb25 | hb25
        · rw [hb25]
          conv => whnf
          replace h := it_t hb25 h
          obtain ⟨r7, hb26, h⟩ := bd_some h
          refine ⟨rfl, _, x17_ok hb26, acc0, ?_⟩
          conv => whnf
          obtain rfl := Option.some.inj h
          exact hR _ _ ⟨.inr rfl, _, rfl, _, frz_pure rfl, rfl⟩
        · rw [hb25]
          conv => whnf
          replace h := it_f hb25 h
          obtain rfl := Option.some.inj h
          exact hR _ _ ⟨.inr rfl, _, rfl, _, frz_pure rfl, rfl⟩
      · rw [hb22]
        conv => whnf
        replace h := it_f hb22 h
        obtain rfl := Option.some.inj h
        exact hR _ _ ⟨.inr rfl, _, rfl, _, frz_pure rfl, rfl⟩
    · rw [hb21]
      conv => whnf
      replace h := it_f hb21 h
      obtain rfl := Option.some.inj h
      exact hR _ _ ⟨.inr rfl, _, rfl, _, frz_pure rfl, rfl⟩
theorem x10_ok {b : (Int × (List Int) × Int × Int)} {panels : (List (Int × Int))} {p : (Int × Int)} {which : Int} {more : Int} {v : Bool} (h : x10 b panels p which more = some v) : PO 10 [(.agg [(I b.1), (.lst (b.2.1.map I) b.2.1.length .shared), (I b.2.2.1), (I b.2.2.2)]), (.lst (panels.flatMap pr) panels.length .shared), (.agg [(I p.1), (I p.2)]), (U8 which), (U8 more)] (B v) := by
  refine fn_pureW hmix lxx10 rfl rfl fun Q hQ => ?_
  have hR : ∀ T H, RetW [.tmp 10] (B v) .ret T H → Q .ret T H := fun T H hh => hQ _ T H hh
  unfold x10 at h
  unfold xrc10
  obtain ⟨c_1, g_1⟩ : ∃ c, xrc10_1 = c := ⟨_, rfl⟩
  rw [g_1]
  conv => whnf
  subst g_1
  unfold xrc10_1
  obtain ⟨c_2, g_2⟩ : ∃ c, xrc10_2 = c := ⟨_, rfl⟩
  rw [g_2]
  obtain ⟨c_3, g_3⟩ : ∃ c, xrc10_3 = c := ⟨_, rfl⟩
  rw [g_3]
  conv => whnf
  obtain ⟨r1, hb1, h⟩ := bd_some h
  refine ⟨(allc (pu_agg (allc rfl (allc (pu_map (fun _ => rfl) _ _ _) (allc rfl (allc rfl rfl))))) (allc (pu_flat (fun _ => (allc rfl (allc rfl rfl))) _ _ _) rfl)), _, x45_ok hb1, ?_⟩
  conv => whnf
  subst g_3
  unfold xrc10_3
  skip
  conv => whnf
  cases r1
  · conv => whnf
    replace h := it_f rfl h
    obtain ⟨r8, hb27, h⟩ := bd_some h
    refine ⟨rfl, _, x17_ok hb27, ?_⟩
    conv => whnf
    obtain rfl := Option.some.inj h
    exact hR _ _ ⟨.inr rfl, _, rfl, _, frz_pure rfl, rfl⟩
  · conv => whnf
    replace h := it_t rfl h
    subst g_2
    unfold xrc10_2
    obtain ⟨c_4, g_4⟩ : ∃ c, xrc10_4 = c := ⟨_, rfl⟩
    rw [g_4]
    conv => whnf
    obtain ⟨r2, hb2, h⟩ := bd_some h
    refine ⟨(allc (pu_agg (allc rfl (allc (pu_map (fun _ => rfl) _ _ _) (allc rfl (allc rfl rfl))))) (allc (pu_flat (fun _ => (allc rfl (allc rfl rfl))) _ _ _) rfl)), _, x50_ok hb2, ?_⟩
    conv => whnf
    subst g_4
    unfold xrc10_4
    obtain ⟨c_5, g_5⟩ : ∃ c, xrc10_5 = c := ⟨_, rfl⟩
    rw [g_5]
    obtain ⟨c_6, g_6⟩ : ∃ c, xrc10_6 = c := ⟨_, rfl⟩
    rw [g_6]
    conv => whnf
    subst g_6
    unfold xrc10_6
    skip
    conv => whnf
    rcases bt r2.2 with hb3 | hb3
    · rw [hb3]
      conv => whnf
      replace h := it_t hb3 h
      subst g_5
      unfold xrc10_5
      obtain ⟨c_7, g_7⟩ : ∃ c, xrc10_7 = c := ⟨_, rfl⟩
      rw [g_7]
      conv => whnf
      obtain ⟨hb4, h⟩ := gd_some h
      refine ⟨by first | rfl | (simp; done) | exact flatLen pr _ pr_len _, by have := hb4; omega, rfl, hb4, ?_⟩
      erw [apndSS pr ([] : List (Int × Int)) panels]
      conv => whnf
      obtain ⟨hb5, h⟩ := gd_some h
      refine ⟨by first | rfl | (simp; done) | exact flatLen pr _ pr_len _, by have := hb5; omega, rfl, hb5, ?_⟩
      erw [apndS pr (([] : List (Int × Int)) ++ panels) p]
      conv => whnf
      subst g_7
      unfold xrc10_7
      obtain ⟨c_8, g_8⟩ : ∃ c, xrc10_8 = c := ⟨_, rfl⟩
      rw [g_8]
      obtain ⟨c_17, g_17⟩ : ∃ c, xrc10_17 = c := ⟨_, rfl⟩
      rw [g_17]
      conv => whnf
      obtain ⟨r3, hb6, h⟩ := bd_some h
      refine ⟨(allc (pu_agg (allc rfl (allc (pu_map (fun _ => rfl) _ _ _) (allc rfl (allc rfl rfl))))) (allc (pu_flat (fun _ => (allc rfl (allc rfl rfl))) _ _ _) rfl)), _, x45_ok hb6, ?_⟩
      conv => whnf
      subst g_8
      unfold xrc10_8
      obtain ⟨c_9, g_9⟩ : ∃ c, xrc10_9 = c := ⟨_, rfl⟩
      rw [g_9]
      conv => whnf
      cases r3
      · conv => whnf
        replace h := it_f rfl h
        subst g_17
        refine x10_j1_ok ?_ h
        exact fun T H hh => hR T H hh
      · conv => whnf
        replace h := it_t rfl h
        obtain ⟨r4, hb7, h⟩ := bd_some h
        refine ⟨(allc (pu_agg (allc rfl (allc (pu_map (fun _ => rfl) _ _ _) (allc rfl (allc rfl rfl))))) (allc (pu_flat (fun _ => (allc rfl (allc rfl rfl))) _ _ _) rfl)), _, x50_ok hb7, ?_⟩
        conv => whnf
        subst g_9
        unfold xrc10_9
        obtain ⟨c_10, g_10⟩ : ∃ c, xrc10_10 = c := ⟨_, rfl⟩
        rw [g_10]
        conv => whnf
        rcases bt r4.2 with hb8 | hb8
        · rw [hb8]
          conv => whnf
          replace h := it_t hb8 h
          rcases bt (decide (r4.1 < r2.1)) with hb9 | hb9
          · rw [hb9]
            conv => whnf
            replace h := it_t hb9 h
            subst g_10
            unfold xrc10_10
            skip
            conv => whnf
            obtain rfl := Option.some.inj h
            exact hR _ _ ⟨.inr rfl, _, rfl, _, frz_pure rfl, rfl⟩
          · rw [hb9]
            conv => whnf
            replace h := it_f hb9 h
            subst g_10
            unfold xrc10_10
            skip
            conv => whnf
            rcases bt (decide ((w (r2.1 + p.2)) < r4.1)) with hb10 | hb10
            · rw [hb10]
              conv => whnf
              replace h := it_t hb10 h
              obtain rfl := Option.some.inj h
              exact hR _ _ ⟨.inr rfl, _, rfl, _, frz_pure rfl, rfl⟩
            · rw [hb10]
              conv => whnf
              replace h := it_f hb10 h
              subst g_17
              refine x10_j1_ok ?_ h
              exact fun T H hh => hR T H hh
        · rw [hb8]
          conv => whnf
          replace h := it_f hb8 h
          subst g_10
          unfold xrc10_10
          skip
          conv => whnf
          obtain rfl := Option.some.inj h
          exact hR _ _ ⟨.inr rfl, _, rfl, _, frz_pure rfl, rfl⟩
    · rw [hb3]
      conv => whnf
      replace h := it_f hb3 h
      obtain rfl := Option.some.inj h
      exact hR _ _ ⟨.inr rfl, _, rfl, _, frz_pure rfl, rfl⟩
end Go.Proofs.YtbnbjjgagikobaaGreat.Ab

/-
  Sums over ranges; how many hours turns of one heat need, by counting; PressMore.
-/
namespace Go.Proofs.YtbnbjjgagikobaaGreat.Ab
open Go
set_option maxRecDepth 20000
set_option maxHeartbeats 4000000
def sumR (n : Nat) (f : Nat → Int) : Int := ((List.range n).map f).sum
theorem sumR_zero (f : Nat → Int) : sumR 0 f = 0 := rfl
theorem sumR_succ (n : Nat) (f : Nat → Int) : sumR (n + 1) f = sumR n f + f n := by
  unfold sumR; rw [List.range_succ, List.map_append, List.sum_append]; simp
theorem sumR_congr {f g : Nat → Int} : ∀ {n : Nat}, (∀ i, i < n → f i = g i) → sumR n f = sumR n g
  | 0, _ => rfl
  | n + 1, h => by rw [sumR_succ, sumR_succ, sumR_congr fun i hi => h i (by omega), h n (by omega)]
theorem sumR_le {f g : Nat → Int} : ∀ {n : Nat}, (∀ i, i < n → f i ≤ g i) → sumR n f ≤ sumR n g
  | 0, _ => Int.le_refl _
  | n + 1, h => by
    rw [sumR_succ, sumR_succ]
    have := sumR_le (n := n) fun i hi => h i (by omega)
    have := h n (by omega)
    omega
theorem sumR_add (f g : Nat → Int) : ∀ n, sumR n (fun i => f i + g i) = sumR n f + sumR n g
  | 0 => rfl
  | n + 1 => by rw [sumR_succ, sumR_succ, sumR_succ, sumR_add f g n]; omega
theorem sumR_const0 : ∀ n, sumR n (fun _ => 0) = 0
  | 0 => rfl
  | n + 1 => by rw [sumR_succ, sumR_const0 n]; rfl
theorem sumR_swap (f : Nat → Nat → Int) (m : Nat) : ∀ n, sumR n (fun i => sumR m (f i)) = sumR m (fun j => sumR n fun i => f i j)
  | 0 => (sumR_const0 m).symm
  | n + 1 => by
    rw [sumR_succ, sumR_swap f m n, ← sumR_add]
    exact sumR_congr fun j _ => by rw [sumR_succ]
theorem sumR_lt (c : Nat) : ∀ n, c ≤ n → sumR n (fun i => if i < c then 1 else 0) = c
  | 0, h => by obtain rfl : c = 0 := by omega
               rfl
  | n + 1, h => by
    rw [sumR_succ]
    by_cases hc : c = n + 1
    · subst hc
      have : sumR n (fun i => if i < n + 1 then (1 : Int) else 0) = sumR n (fun i => if i < n then 1 else 0) := sumR_congr fun i hi => by rw [if_pos (by omega), if_pos hi]
      rw [this, sumR_lt n n (Nat.le_refl _), if_pos (by omega)]; omega
    · rw [sumR_lt c n (by omega), if_neg (by omega)]; omega
theorem sumR_one (k : Nat) (v : Int) : ∀ n, sumR n (fun i => if i = k then v else 0) = if k < n then v else 0
  | 0 => by rw [sumR_zero, if_neg (by omega)]
  | n + 1 => by
    rw [sumR_succ, sumR_one k v n]
    split <;> split <;> split <;> omega
/-- A number, as many ones. -/
theorem ones {x : Int} (h : 0 ≤ x ∧ x ≤ 24) : sumR 24 (fun t => if (t : Int) + 1 ≤ x then 1 else 0) = x := by
  have := sumR_lt x.toNat 24 (by omega)
  rw [show ((x.toNat : Nat) : Int) = x by omega] at this
  rw [← this]
  exact sumR_congr fun t _ => by
    by_cases h1 : t < x.toNat
    · rw [if_pos h1, if_pos (by omega)]
    · rw [if_neg h1, if_neg (by omega)]
theorem sorted_ge (t : Int) : ∀ (s : List Int), s.Pairwise (fun a b => b ≤ a) → ∀ (i : Nat) (hi : i < s.length), t ≤ s[i] ↔ i < s.countP (fun x => decide (t ≤ x))
  | [], _, i, hi => absurd hi (by simp)
  | a :: r, hp, i, hi => by
    obtain ⟨h1, h2⟩ := List.pairwise_cons.1 hp
    by_cases ha : t ≤ a
    · rw [List.countP_cons_of_pos (by simpa using ha)]
      cases i with
      | zero => simp [ha]
      | succ i =>
        have := sorted_ge t r h2 i (by simpa using hi)
        rw [List.getElem_cons_succ, this]; omega
    · rw [List.countP_cons_of_neg (by simpa using ha)]
      have h0 : r.countP (fun x => decide (t ≤ x)) = 0 := by
        rw [List.countP_eq_zero]; intro x hx; have := h1 x hx; simp; omega
      rw [h0]
      cases i with
      | zero => simp [ha]
      | succ i =>
        have := h1 _ (List.getElem_mem (l := r) (n := i) (by simpa using hi))
        rw [List.getElem_cons_succ]; omega
theorem down_sorted {l : List Int} (h0 : ∀ x ∈ l, 0 ≤ x) : (down l).Pairwise (fun a b => b ≤ a) := by
  rw [List.pairwise_iff_getElem]
  intro i j hi hj hij
  have := (dn_mono h0 (Nat.le_of_lt hij)).1
  rw [dn_get (i := i) (by rw [down_len] at hi; exact hi), dn_get (i := j) (by rw [down_len] at hj; exact hj)] at this
  exact this
/-- The i-th of the greatest is at least so great just if more than i are. -/
theorem dn_ge {l : List Int} (h0 : ∀ x ∈ l, 0 ≤ x) {t : Int} (ht : 1 ≤ t) (i : Nat) : t ≤ dn l i ↔ i < l.countP (fun x => decide (t ≤ x)) := by
  rw [← (down_perm l).countP_eq]
  by_cases hi : i < l.length
  · rw [dn_get hi]
    exact sorted_ge t (down l) (down_sorted h0) i (by rw [down_len]; exact hi)
  · rw [dn_out (by omega)]
    have := List.countP_le_length (l := down l) (p := fun x => decide (t ≤ x))
    rw [down_len] at this
    omega
def ceil (n c : Nat) : Nat := (c + n - 1) / n
/-- Hours by counting: for each hour as many turns as are needed for those that last so long. -/
theorem hH_cnt {n : Nat} (hn : 0 < n) {l : List Int} (h : ∀ x ∈ l, 0 ≤ x ∧ x ≤ 24) : hH n l = sumR 24 (fun t => (ceil n (l.countP fun x => decide ((t : Int) + 1 ≤ x)) : Int)) := by
  have h0 : ∀ x ∈ l, 0 ≤ x := fun x hx => (h x hx).1
  have hd : ∀ i, 0 ≤ dn l i ∧ dn l i ≤ 24 := fun i => by
    by_cases hi : i < l.length
    · rw [dn_get hi]; exact h _ ((down_perm l).mem_iff.1 (List.getElem_mem _))
    · rw [dn_out (by omega)]; omega
  rw [hH_dn hn]
  show sumR (ceil n l.length) (fun j => dn l (j * n)) = _
  have e1 : sumR (ceil n l.length) (fun j => dn l (j * n)) = sumR (ceil n l.length) (fun j => sumR 24 fun t => if (t : Int) + 1 ≤ dn l (j * n) then 1 else 0) := sumR_congr fun j _ => (ones (hd _)).symm
  rw [e1, sumR_swap]
  refine sumR_congr fun t _ => ?_
  have hc : l.countP (fun x => decide ((t : Int) + 1 ≤ x)) ≤ l.length := List.countP_le_length
  have e2 : sumR (ceil n l.length) (fun j => if (t : Int) + 1 ≤ dn l (j * n) then (1 : Int) else 0) = sumR (ceil n l.length) (fun j => if j < ceil n (l.countP fun x => decide ((t : Int) + 1 ≤ x)) then 1 else 0) := sumR_congr fun j _ => by
    have h1 := dn_ge h0 (t := (t : Int) + 1) (by omega) (j * n)
    have h2 := chunks_lt (k := l.countP fun x => decide ((t : Int) + 1 ≤ x)) hn (j := j)
    unfold ceil
    by_cases hh : (t : Int) + 1 ≤ dn l (j * n)
    · rw [if_pos hh, if_pos (h2.2 (h1.1 hh))]
    · rw [if_neg hh, if_neg fun hx => hh (h1.2 (h2.1 hx))]
  rw [e2]
  refine sumR_lt _ _ ?_
  unfold ceil
  exact Nat.div_le_div_right (by omega)
def cP (ps : List (Int × Int)) (h t : Int) : Nat := ps.countP fun p => decide (p.1 = h) && decide (t ≤ p.2)
theorem hrs_cnt (ps : List (Int × Int)) (h t : Int) : (hrs ps h).countP (fun x => decide (t ≤ x)) = cP ps h t := by
  unfold hrs cP
  rw [List.countP_map, List.countP_filter]
  exact List.countP_congr fun p _ => by simp [and_comm]
theorem hSum_cnt {n : Nat} (hn : 0 < n) {ps : List (Int × Int)} (hp : hrsOk ps) (i : Nat) : hSum n ps i = sumR i (fun h => sumR 24 fun t => (ceil n (cP ps h ((t : Int) + 1)) : Int)) := by
  show sumR i (fun h => hH n (hrs ps (h : Int))) = _
  exact sumR_congr fun h _ => by
    rw [hH_cnt hn (hrs_in hp _)]
    exact sumR_congr fun t _ => by rw [hrs_cnt]
theorem ceil_mono (n : Nat) {a b : Nat} (h : a ≤ b) : ceil n a ≤ ceil n b := Nat.div_le_div_right (by omega)
theorem ceil_succ {n : Nat} (hn : 0 < n) (a : Nat) : ceil n (a + 1) ≤ ceil n a + 1 := by
  unfold ceil
  have : (a + 1 + n - 1) / n ≤ (a + n - 1 + n) / n := Nat.div_le_div_right (by omega)
  rw [Nat.add_div_right _ hn] at this
  exact this
/-- If of each heat, and each hour, no fewer panels last so long, and at most one more where it is said, so it is with hours. -/
theorem hSum_more {n : Nat} (hn : 0 < n) {ps qs : List (Int × Int)} (hp : hrsOk ps) (hq : hrsOk qs) {k : Nat} {lo hi : Int} (hk : k < 21) (hlo : 0 ≤ lo ∧ lo ≤ hi ∧ hi ≤ 24)
    (h : ∀ (h : Nat) (t : Int), 1 ≤ t → cP qs h t = cP ps h t + if h = k ∧ lo < t ∧ t ≤ hi then 1 else 0) : hSum n ps 21 ≤ hSum n qs 21 ∧ hSum n qs 21 ≤ hSum n ps 21 + (hi - lo) := by
  rw [hSum_cnt hn hp, hSum_cnt hn hq]
  refine ⟨sumR_le fun h' _ => sumR_le fun t _ => Int.ofNat_le.2 (ceil_mono n (by rw [h _ _ (by omega)]; omega)), ?_⟩
  have e : sumR 21 (fun h => if h = k then hi - lo else 0) = hi - lo := by rw [sumR_one, if_pos hk]
  rw [← e, ← sumR_add]
  refine sumR_le fun h' _ => ?_
  by_cases hh : h' = k
  · rw [if_pos hh]
    have e2 : sumR 24 (fun t => if lo < (t : Int) + 1 ∧ (t : Int) + 1 ≤ hi then (1 : Int) else 0) = hi - lo := by
      have h1 := ones (x := hi) (by omega)
      have h2 := ones (x := lo) (by omega)
      have h3 := sumR_add (fun t => if (t : Int) + 1 ≤ lo then (1 : Int) else 0) (fun t => if lo < (t : Int) + 1 ∧ (t : Int) + 1 ≤ hi then (1 : Int) else 0) 24
      have h4 : sumR 24 (fun t => (if (t : Int) + 1 ≤ lo then (1 : Int) else 0) + if lo < (t : Int) + 1 ∧ (t : Int) + 1 ≤ hi then (1 : Int) else 0) = sumR 24 (fun t => if (t : Int) + 1 ≤ hi then (1 : Int) else 0) := sumR_congr fun t _ => by
        by_cases a : (t : Int) + 1 ≤ lo
        · rw [if_pos a, if_neg (by omega), if_pos (by omega)]; rfl
        · by_cases b : (t : Int) + 1 ≤ hi
          · rw [if_neg a, if_pos (by omega), if_pos b]; rfl
          · rw [if_neg a, if_neg (by omega), if_neg b]; rfl
      omega
    rw [← e2, ← sumR_add]
    refine sumR_le fun t _ => ?_
    rw [h _ _ (by omega)]
    by_cases ht : lo < (t : Int) + 1 ∧ (t : Int) + 1 ≤ hi
    · rw [if_pos ⟨hh, ht⟩, if_pos ht]
      have := ceil_succ hn (cP ps h' ((t : Int) + 1)); omega
    · rw [if_neg (fun x => ht x.2), if_neg ht, Nat.add_zero]; omega
  · rw [if_neg hh, Int.add_zero]
    exact sumR_le fun t _ => by rw [h _ _ (by omega), if_neg (fun x => hh x.1), Nat.add_zero]; exact Int.le_refl _
theorem cP_snoc (ps : List (Int × Int)) (p : Int × Int) (h t : Int) : cP (ps ++ [p]) h t = cP ps h t + if p.1 = h ∧ t ≤ p.2 then 1 else 0 := by
  unfold cP
  rw [List.countP_append, List.countP_cons]
  by_cases h1 : p.1 = h ∧ t ≤ p.2
  · rw [if_pos h1]; simp [h1.1, h1.2]
  · rw [if_neg h1, if_neg (by simpa using h1)]; rfl
end Go.Proofs.YtbnbjjgagikobaaGreat.Ab

/-
  PressMore, the plain law.
-/
namespace Go.Proofs.YtbnbjjgagikobaaGreat.Ab
open Go
set_option maxRecDepth 20000
set_option maxHeartbeats 4000000
theorem cP_set (ps : List (Int × Int)) {i : Nat} (hi : i < ps.length) {x : Int} (hx : ps[i].2 ≤ x) (h t : Int) : cP (ps.set i (ps[i].1, x)) h t = cP ps h t + if ps[i].1 = h ∧ ps[i].2 < t ∧ t ≤ x then 1 else 0 := by
  unfold cP
  rw [List.countP_set hi]
  have hle : (if (decide (ps[i].1 = h) && decide (t ≤ ps[i].2)) = true then 1 else 0) ≤ ps.countP fun p => decide (p.1 = h) && decide (t ≤ p.2) := by
    split
    · rename_i hh
      exact List.countP_pos_iff.2 ⟨ps[i], List.getElem_mem _, hh⟩
    · exact Nat.zero_le _
  by_cases h1 : ps[i].1 = h
  · by_cases h2 : t ≤ ps[i].2
    · rw [if_pos (by simp [h1, h2])] at hle ⊢
      rw [if_pos (by simp [h1]; omega), if_neg (by omega)]; omega
    · rw [if_neg (by simp [h1]; omega)] at hle ⊢
      by_cases h3 : t ≤ x
      · rw [if_pos (by simp [h1, h3]), if_pos (by omega)]; omega
      · rw [if_neg (by simp [h1]; omega), if_neg (by omega)]; omega
  · rw [if_neg (by simp [h1]), if_neg (by simp [h1]), if_neg (by simp [h1])]; rfl
theorem x10_j1_eq {b : Bed} {ps : List (Int × Int)} (hf : FineOk b ps) {which more : Int} (hw : 0 ≤ which ∧ which ≤ 255) (hm : 0 ≤ more ∧ more ≤ 255) : x10_j1 b ps which more (hSum (wn b) ps 21, true) = some true := by
  obtain ⟨hl, hb, hp⟩ := hf
  have hB := bedOk hb
  have hwn := wn_pos hB
  rw [x10_j1]
  by_cases h0 : ps.length = 0
  · have e0 : ps = [] := List.eq_nil_of_length_eq_zero h0
    subst e0
    rw [if_pos (by simp), if_pos (decide_eq_true (by
      show hSum (wn b) [] 21 = 0
      rw [hSum_cnt (by omega) (by intro p hp; simp at hp)]
      have : ∀ h : Nat, sumR 24 (fun t => (ceil (wn b) (cP [] h ((t : Int) + 1)) : Int)) = 0 := fun h => by
        rw [sumR_congr (g := fun _ => 0) fun t _ => by simp only [cP, List.countP_nil, ceil, Nat.zero_add]; rw [Nat.div_eq_of_lt (by omega)]; rfl, sumR_const0]
      rw [sumR_congr (g := fun _ => 0) fun h _ => this h, sumR_const0]))]
    rfl
  · have hl2 := hp.len
    rw [if_neg (by simp; intro e; exact h0 (by rw [e]; rfl))]
    simp only [List.nil_append]
    obtain ⟨i, hi⟩ : ∃ i : Nat, i = which.toNat % ps.length := ⟨_, rfl⟩
    have hil : i < ps.length := by rw [hi]; exact Nat.mod_lt _ (by omega)
    have e1 : (w which).tmod (ps.length : Int) = (i : Int) := by
      rw [w_id (by omega), hi, Int.ofNat_tmod, show ((which.toNat : Nat) : Int) = which by omega]
    simp only [e1]
    have hq := hp.hour _ (List.getElem_mem hil)
    have hqh := hp.heat _ (List.getElem_mem hil)
    have eix : ix ps (i : Int) = ps[i] := ix_nat hil
    obtain ⟨y, hy⟩ : ∃ y, y = min (24 : Int) (ps[i].2 + more) := ⟨_, rfl⟩
    have hy1 : ps[i].2 ≤ y ∧ y ≤ 24 := by rw [hy]; omega
    have ey : min (24 : Int) (w ((ix ps (i : Int)).2 + w more)) = y := by rw [eix, w_id (n := more) (by omega), w_id (by omega), hy]
    simp only [ey]
    simp only [eix, Int.toNat_natCast]
    obtain ⟨qs, hqs⟩ : ∃ qs, qs = ps.set i (ps[i].1, y) := ⟨_, rfl⟩
    have hql : qs.length = ps.length := by rw [hqs, List.length_set]
    have hqo : PsOk qs := by
      refine ⟨by rw [hql]; exact hl2, fun p hp' => ?_, fun p hp' => ?_⟩
      · rw [hqs] at hp'
        rcases List.mem_or_eq_of_mem_set hp' with h | h
        · exact hp.heat p h
        · rw [h]; exact hqh
      · rw [hqs] at hp'
        rcases List.mem_or_eq_of_mem_set hp' with h | h
        · exact hp.hour p h
        · rw [h]; dsimp only; omega
    have hmo := hSum_more (n := wn b) (by omega) hp.hrs hqo.hrs (k := ps[i].1.toNat) (lo := ps[i].2) (hi := y) (by omega) (by omega) fun h t _ => by
      rw [hqs, cP_set ps hil hy1.1]
      congr 1
      by_cases hh : ps[i].1 = (h : Int)
      · by_cases ht : ps[i].2 < t ∧ t ≤ y
        · rw [if_pos ⟨hh, ht⟩, if_pos ⟨by omega, ht⟩]
        · rw [if_neg (fun x => ht x.2), if_neg (fun x => ht x.2)]
      · rw [if_neg (fun x => hh x.1), if_neg (fun x => hh (by omega))]
    have hin := hSum_in (n := wn b) (by omega) hp 21
    rw [gd_pos (by simp; omega), gd_pos h0, gd_pos (by omega), gd_pos ⟨by omega, by omega, trivial⟩, gd_pos ⟨by omega, by omega, trivial⟩]
    simp only [← hqs]
    rw [gd_pos hql.symm, x50_eq hb hl hqo, Option.bind_some, if_pos rfl, if_pos (decide_eq_true hmo.1), gd_pos ⟨by omega, by rw [hql]; omega⟩, gd_pos ⟨by omega, by omega⟩]
    have e3 : ix qs (i : Int) = (ps[i].1, y) := by rw [ix_nat (by rw [hql]; exact hil)]; simp [hqs]
    rw [e3]
    dsimp only
    rw [w_id (n := hSum (wn b) ps 21 + y) (by omega), w_id (by omega), if_pos (decide_eq_true (by omega))]
    rfl
theorem x10_eq (b : Bed) (ps : List (Int × Int)) (p : Int × Int) {which more : Int} (hw : 0 ≤ which ∧ which ≤ 255) (hm : 0 ≤ more ∧ more ≤ 255) : x10 b ps p which more = some true := by
  rw [x10]
  obtain ⟨r, hr, hf⟩ := x45_eq b ps
  rw [hr, Option.bind_some]
  cases r with
  | false => rw [if_neg (by decide)]; rfl
  | true =>
    have hF := hf rfl
    obtain ⟨hl, hb, hp⟩ := hf rfl
    have hwn := wn_pos (bedOk hb)
    have hl2 := hp.len
    rw [if_pos rfl, x50_eq hb hl hp, Option.bind_some, if_pos rfl, gd_pos (by simp; omega), gd_pos (by simp; omega)]
    simp only [List.nil_append]
    obtain ⟨r3, hr3, hf3⟩ := x45_eq b (ps ++ [p])
    rw [hr3, Option.bind_some]
    cases r3 with
    | false => rw [if_neg (by decide)]; exact x10_j1_eq hF hw hm
    | true =>
      obtain ⟨_, _, hq⟩ := hf3 rfl
      have h1 := hq.heat p (by simp)
      have h2 := hq.hour p (by simp)
      have hmo := hSum_more (n := wn b) (by omega) hp.hrs hq.hrs (k := p.1.toNat) (lo := 0) (hi := p.2) (by omega) (by omega) fun h t ht => by
        rw [cP_snoc]
        congr 1
        by_cases hh : p.1 = (h : Int)
        · by_cases ht2 : t ≤ p.2
          · rw [if_pos ⟨hh, ht2⟩, if_pos ⟨by omega, by omega, ht2⟩]
          · rw [if_neg (fun x => ht2 x.2), if_neg (fun x => ht2 x.2.2)]
        · rw [if_neg (fun x => hh x.1), if_neg (fun x => hh (by omega))]
      have hin := hSum_in (n := wn b) (by omega) hp 21
      rw [if_pos rfl, x50_eq hb hl hq, Option.bind_some, if_pos rfl]
      dsimp only
      rw [if_neg (by simp only [decide_eq_true_eq]; omega), w_id (by omega), if_neg (by simp only [decide_eq_true_eq]; omega)]
      exact x10_j1_eq hF hw hm
theorem pressMore_ok (b : Bed) (ps : List (Int × Int)) (p : Int × Int) (which more : Int) {P1 P2 P3 : Prop} (_ : P1) (_ : P2) (_ : P3) (hw : 0 ≤ which ∧ which ≤ 255) (hm : 0 ≤ more ∧ more ≤ 255) :
    PO 10 [.agg [I b.1, L1 b.2.1, I b.2.2.1, I b.2.2.2], PL ps, .agg (pr p), U8 which, U8 more] (B true) := x10_ok (x10_eq b ps p hw hm)
end Go.Proofs.YtbnbjjgagikobaaGreat.Ab
