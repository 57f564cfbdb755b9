/- MADE BY PROGRAM (rc.py): functions, looked up. -/
import Derived.Test.YtlcebaejlnpdeaaJa3
import Derived.Test.YtlcebaejlnpdeaaJa4
import Derived.Test.YtlcebaejlnpdeaaProg
import Derived.KernelRfl
set_option linter.unusedSimpArgs false
set_option linter.unusedVariables false
namespace Go.Proofs.Ytlcebaejlnpdeaa.Ab
open Go
noncomputable def rc3 : RC :=
  .seq (.reg false [I_ 2 [.tk 0] .box, I_ 4 [.cv (.bool false)] .mv]) (.seq (.seq (.reg false [I_ 13 [.sl 2] (.ld (.str 1)), I_ 14 [.cv (.func 18 [] []), .sl 13] (.call 3), I_ 15 [.tk 14] .mv, ⟨some 16, [.sl 1], some (15, false),
  none, .mv⟩, ⟨some 17, [.cv (.func 19 [] []), .sl 16], some (15, false), none, .call 3⟩, I_ 18 [.tv 15, .cv (.bool true), .tv 17] .pick]) (.cond (.sl 18) (.seq (.reg false [I_ 19 [.cv (.func 20 [] [])] (.call 3), I_ 4 [.tk 19]
  .mv]) .ret) .skip)) (.seq (.reg false [I_ 21 [.sl 2] (.ld (.str 1)), I_ 22 [.sl 1] .mv, I_ 23 [.cv (.func 21 [] []), .sl 21, .sl 22] (.call 3), I_ 20 [.tk 23] .mv, I_ 24 [.sl 20] (.ext 0), I_ 25 [.tv 20] (.ext 1), I_ 5 [.tk 24]
  .mv, I_ 6 [.tk 25] .mv]) (.seq (.reg false [I_ 27 [.sl 2] (.ld (.str 1)), I_ 28 [.sl 1] .mv, I_ 29 [.cv (.func 22 [] []), .sl 27, .sl 28] (.call 3), I_ 26 [.tk 29] .mv, I_ 30 [.sl 26] (.ext 0), I_ 31 [.tv 26] (.ext 1), I_ 7
  [.tk 30] .mv, I_ 8 [.tk 31] .mv]) (.seq (.reg false [I_ 33 [.sl 2] (.ld (.str 1)), I_ 34 [.sl 1] .mv, I_ 35 [.cv (.func 23 [] []), .sl 33, .sl 34] (.call 3), I_ 32 [.tk 35] .mv, I_ 36 [.sl 32] (.ext 0), I_ 37 [.tv 32] (.ext 1),
  I_ 9 [.tk 36] .mv, I_ 10 [.tk 37] .mv]) (.seq (.reg false [I_ 39 [.sl 2] (.ld (.str 1)), I_ 40 [.tk 1] .mv, I_ 41 [.cv (.func 24 [] []), .sl 39, .sl 40] (.call 3), I_ 38 [.tk 41] .mv, I_ 42 [.sl 38] (.ext 0), I_ 43 [.tv 38]
  (.ext 1), I_ 11 [.tk 42] .mv, I_ 12 [.tk 43] .mv]) (.seq (.reg true [I_ 44 [.sl 2] (.ld (.str 1)), I_ 45 [.cv (.func 25 [] []), .sl 44] (.call 3), I_ 46 [.sl 2] (.ld (.str 1)), I_ 47 [.cv (.func 26 [] []), .sl 46] (.call 3), I_
  48 [.tv 45, .tv 47] (.bin .eql), I_ 49 [.tk 48] .mv, ⟨some 50, [.tk 5], some (49, true), none, .mv⟩, ⟨some 51, [.tk 7], some (49, true), none, .mv⟩, ⟨some 52, [.tv 50, .tv 51], some (49, true), none, .bin .eql⟩, I_ 53 [.sl 49,
  .tv 52, .cv (.bool false)] .pick, I_ 54 [.tk 53] .mv, ⟨some 55, [.tk 6], some (54, true), none, .mv⟩, ⟨some 56, [.tk 8], some (54, true), none, .mv⟩, ⟨some 57, [.tv 55, .tv 56], some (54, true), none, .bin .eql⟩, I_ 58 [.sl 54,
  .tv 57, .cv (.bool false)] .pick, I_ 59 [.tk 58] .mv, ⟨some 60, [.tk 9], some (59, true), none, .mv⟩, ⟨some 61, [.tk 11], some (59, true), none, .mv⟩, ⟨some 62, [.cv (.func 27 [] []), .sl 60, .sl 61], some (59, true), none,
  .call 3⟩, I_ 63 [.sl 59, .tv 62, .cv (.bool false)] .pick, I_ 64 [.tk 63] .mv, ⟨some 65, [.tk 10], some (64, true), none, .mv⟩, ⟨some 66, [.tk 12], some (64, true), none, .mv⟩, ⟨some 67, [.tv 65, .tv 66], some (64, true), none,
  .bin .eql⟩, I_ 68 [.sl 64, .tv 67, .cv (.bool false)] .pick, I_ 69 [.tk 68] .mv, ⟨some 70, [.cv (.func 20 [] [])], some (69, true), none, .call 3⟩, I_ 71 [.sl 69, .tv 70, .cv (.bool false)] .pick, I_ 4 [.tk 71] .mv]) .ret))))))
theorem lk3 : linkF Go.Proofs.Try.prog ann3 3 = some (rc3, 72, [.tmp 4]) := by kernel_rfl
noncomputable def rc4 : RC :=
  .seq (.reg false [I_ 2 [.tk 0] .box, I_ 4 [.cv (.bool false)] .mv]) (.seq (.seq (.reg false [I_ 13 [.sl 2] (.ld (.str 1)), I_ 14 [.cv (.func 18 [] []), .sl 13] (.call 3), I_ 15 [.tk 14] .mv, ⟨some 16, [.sl 1], some (15, false),
  none, .mv⟩, ⟨some 17, [.cv (.func 19 [] []), .sl 16], some (15, false), none, .call 3⟩, I_ 18 [.tv 15, .cv (.bool true), .tv 17] .pick]) (.cond (.sl 18) (.seq (.reg false [I_ 19 [.cv (.func 20 [] [])] (.call 3), I_ 4 [.tk 19]
  .mv]) .ret) .skip)) (.seq (.reg false [I_ 21 [.sl 2] (.ld (.str 1)), I_ 22 [.sl 1] .mv, I_ 23 [.cv (.func 28 [] []), .sl 21, .sl 22] (.call 3), I_ 20 [.tk 23] .mv, I_ 24 [.sl 20] (.ext 0), I_ 25 [.tv 20] (.ext 1), I_ 5 [.tk 24]
  .mv, I_ 6 [.tk 25] .mv]) (.seq (.reg false [I_ 27 [.sl 2] (.ld (.str 1)), I_ 28 [.sl 1] .mv, I_ 29 [.cv (.func 29 [] []), .sl 27, .sl 28] (.call 3), I_ 26 [.tk 29] .mv, I_ 30 [.sl 26] (.ext 0), I_ 31 [.tv 26] (.ext 1), I_ 7
  [.tk 30] .mv, I_ 8 [.tk 31] .mv]) (.seq (.reg false [I_ 33 [.sl 2] (.ld (.str 1)), I_ 34 [.sl 1] .mv, I_ 35 [.cv (.func 30 [] []), .sl 33, .sl 34] (.call 3), I_ 32 [.tk 35] .mv, I_ 36 [.sl 32] (.ext 0), I_ 37 [.tv 32] (.ext 1),
  I_ 9 [.tk 36] .mv, I_ 10 [.tk 37] .mv]) (.seq (.reg false [I_ 39 [.tv 2] (.ld (.str 1)), I_ 40 [.tk 1] .mv, I_ 41 [.cv (.func 31 [] []), .sl 39, .sl 40] (.call 3), I_ 38 [.tk 41] .mv, I_ 42 [.sl 38] (.ext 0), I_ 43 [.tv 38]
  (.ext 1), I_ 11 [.tk 42] .mv, I_ 12 [.tk 43] .mv]) (.seq (.reg false [I_ 44 [.tk 5] .mv, I_ 45 [.tk 7] .mv, I_ 46 [.cv (.func 32 [] []), .sl 44, .sl 45] (.call 3), I_ 47 [.tk 46] .mv, ⟨some 48, [.tk 6], some (47, true), none,
  .mv⟩, ⟨some 49, [.tk 8], some (47, true), none, .mv⟩, ⟨some 50, [.tv 48, .tv 49], some (47, true), none, .bin .eql⟩, I_ 51 [.tv 47, .tv 50, .cv (.bool false)] .pick, I_ 52 [.tk 51] .mv, ⟨some 53, [.tk 9], some (52, true), none,
  .mv⟩, ⟨some 54, [.tk 11], some (52, true), none, .mv⟩, ⟨some 55, [.tv 53, .tv 54], some (52, true), none, .bin .eql⟩, I_ 56 [.tv 52, .tv 55, .cv (.bool false)] .pick, I_ 57 [.tk 56] .mv, ⟨some 58, [.tk 10], some (57, true),
  none, .mv⟩, ⟨some 59, [.tk 12], some (57, true), none, .mv⟩, ⟨some 60, [.tv 58, .tv 59], some (57, true), none, .bin .eql⟩, I_ 61 [.tv 57, .tv 60, .cv (.bool false)] .pick, I_ 62 [.tk 61] .mv, ⟨some 63, [.cv (.func 20 [] [])],
  some (62, true), none, .call 3⟩, I_ 64 [.tv 62, .tv 63, .cv (.bool false)] .pick, I_ 4 [.tk 64] .mv]) .ret))))))
theorem lk4 : linkF Go.Proofs.Try.prog ann4 4 = some (rc4, 65, [.tmp 4]) := by kernel_rfl
noncomputable def rc5 : RC :=
  .seq (.reg false [I_ 2 [.tk 0] .box, I_ 4 [.cv (.bool false)] .mv]) (.seq (.seq (.reg false [I_ 17 [.sl 2] (.ld (.str 1)), I_ 18 [.cv (.func 18 [] []), .sl 17] (.call 3)]) (.cond (.sl 18) (.seq (.reg false [I_ 19 [.cv (.func 20
  [] [])] (.call 3), I_ 4 [.tk 19] .mv]) .ret) .skip)) (.seq (.reg false [I_ 21 [.sl 2] (.ld (.str 1)), I_ 22 [.cv (.func 33 [] []), .sl 21] (.call 3), I_ 20 [.tk 22] .mv, I_ 23 [.sl 20] (.ext 0), I_ 24 [.tv 20] (.ext 1), I_ 5
  [.tk 23] .mv, I_ 6 [.tk 24] .mv]) (.seq (.reg false [I_ 26 [.sl 2] (.ld (.str 1)), I_ 27 [.cv (.func 34 [] []), .sl 26] (.call 3), I_ 25 [.tk 27] .mv, I_ 28 [.sl 25] (.ext 0), I_ 29 [.tv 25] (.ext 1), I_ 7 [.tk 28] .mv, I_ 8
  [.tk 29] .mv]) (.seq (.reg false [I_ 31 [.sl 2] (.ld (.str 1)), I_ 32 [.cv (.func 35 [] []), .sl 31] (.call 3), I_ 30 [.tk 32] .mv, I_ 33 [.sl 30] (.ext 0), I_ 34 [.tv 30] (.ext 1), I_ 9 [.tk 33] .mv, I_ 10 [.tk 34] .mv]) (.seq
  (.reg false [I_ 36 [.sl 2] (.ld (.str 1)), I_ 37 [.cv (.func 36 [] []), .sl 36] (.call 3), I_ 35 [.tk 37] .mv, I_ 38 [.sl 35] (.ext 0), I_ 39 [.tv 35] (.ext 1), I_ 11 [.tk 38] .mv, I_ 12 [.tk 39] .mv]) (.seq (.reg false [I_ 41
  [.sl 2] (.ld (.str 1)), I_ 42 [.sl 1] .mv, I_ 43 [.cv (.func 37 [] []), .sl 41, .sl 42] (.call 3), I_ 40 [.tk 43] .mv, I_ 44 [.sl 40] (.ext 0), I_ 45 [.tv 40] (.ext 1), I_ 13 [.tk 44] .mv, I_ 14 [.tk 45] .mv]) (.seq (.reg false
  [I_ 47 [.tv 2] (.ld (.str 1)), I_ 48 [.tk 1] .mv, I_ 49 [.cv (.func 38 [] []), .sl 47, .sl 48] (.call 3), I_ 46 [.tk 49] .mv, I_ 50 [.sl 46] (.ext 0), I_ 51 [.tv 46] (.ext 1), I_ 15 [.tk 50] .mv, I_ 16 [.tk 51] .mv]) (.seq
  (.reg false [I_ 52 [.tk 5] .mv, I_ 53 [.tk 7] .mv, I_ 54 [.tv 52, .tv 53] (.bin .eql), I_ 55 [.tk 54] .mv, ⟨some 56, [.tk 6], some (55, true), none, .mv⟩, ⟨some 57, [.tk 8], some (55, true), none, .mv⟩, ⟨some 58, [.tv 56, .tv
  57], some (55, true), none, .bin .eql⟩, I_ 59 [.tv 55, .tv 58, .cv (.bool false)] .pick, I_ 60 [.tk 59] .mv, ⟨some 61, [.tk 9], some (60, true), none, .mv⟩, ⟨some 62, [.tk 11], some (60, true), none, .mv⟩, ⟨some 63, [.cv (.func
  39 [] []), .sl 61, .sl 62], some (60, true), none, .call 3⟩, I_ 64 [.tv 60, .tv 63, .cv (.bool false)] .pick, I_ 65 [.tk 64] .mv, ⟨some 66, [.tk 10], some (65, true), none, .mv⟩, ⟨some 67, [.tk 12], some (65, true), none, .mv⟩,
  ⟨some 68, [.tv 66, .tv 67], some (65, true), none, .bin .eql⟩, I_ 69 [.tv 65, .tv 68, .cv (.bool false)] .pick, I_ 70 [.tk 69] .mv, ⟨some 71, [.tk 13], some (70, true), none, .mv⟩, ⟨some 72, [.tk 15], some (70, true), none,
  .mv⟩, ⟨some 73, [.tv 71, .tv 72], some (70, true), none, .bin .eql⟩, I_ 74 [.tv 70, .tv 73, .cv (.bool false)] .pick, I_ 75 [.tk 74] .mv, ⟨some 76, [.tk 14], some (75, true), none, .mv⟩, ⟨some 77, [.tk 16], some (75, true),
  none, .mv⟩, ⟨some 78, [.tv 76, .tv 77], some (75, true), none, .bin .eql⟩, I_ 79 [.tv 75, .tv 78, .cv (.bool false)] .pick, I_ 80 [.tk 79] .mv, ⟨some 81, [.cv (.func 20 [] [])], some (80, true), none, .call 3⟩, I_ 82 [.tv 80,
  .tv 81, .cv (.bool false)] .pick, I_ 4 [.tk 82] .mv]) .ret))))))))
theorem lk5 : linkF Go.Proofs.Try.prog ann5 5 = some (rc5, 83, [.tmp 4]) := by kernel_rfl
noncomputable def rc6 : RC :=
  .seq (.reg false [I_ 2 [.tk 0] .box, I_ 4 [.cv (.bool false)] .mv]) (.seq (.seq (.reg false [I_ 13 [.sl 2] (.ld (.str 1)), I_ 14 [.cv (.func 18 [] []), .sl 13] (.call 3)]) (.cond (.sl 14) (.seq (.reg false [I_ 15 [.cv (.func 20
  [] [])] (.call 3), I_ 4 [.tk 15] .mv]) .ret) .skip)) (.seq (.reg false [I_ 17 [.sl 2] (.ld (.str 1)), I_ 18 [.sl 1] .mv, I_ 19 [.cv (.func 40 [] []), .sl 17, .sl 18] (.call 3), I_ 16 [.tk 19] .mv, I_ 20 [.sl 16] (.ext 0), I_ 21
  [.tv 16] (.ext 1), I_ 5 [.tk 20] .mv, I_ 6 [.tk 21] .mv]) (.seq (.reg false [I_ 23 [.sl 2] (.ld (.str 1)), I_ 24 [.sl 1] .mv, I_ 25 [.cv (.func 41 [] []), .sl 23, .sl 24] (.call 3), I_ 22 [.tk 25] .mv, I_ 26 [.sl 22] (.ext 0),
  I_ 27 [.tv 22] (.ext 1), I_ 7 [.tk 26] .mv, I_ 8 [.tk 27] .mv]) (.seq (.reg false [I_ 29 [.sl 2] (.ld (.str 1)), I_ 30 [.sl 1] .mv, I_ 31 [.cv (.func 42 [] []), .sl 29, .sl 30] (.call 3), I_ 28 [.tk 31] .mv, I_ 32 [.sl 28]
  (.ext 0), I_ 33 [.tv 28] (.ext 1), I_ 9 [.tk 32] .mv, I_ 10 [.tk 33] .mv]) (.seq (.reg false [I_ 35 [.tv 2] (.ld (.str 1)), I_ 36 [.tk 1] .mv, I_ 37 [.cv (.func 43 [] []), .sl 35, .sl 36] (.call 3), I_ 34 [.tk 37] .mv, I_ 38
  [.sl 34] (.ext 0), I_ 39 [.tv 34] (.ext 1), I_ 11 [.tk 38] .mv, I_ 12 [.tk 39] .mv]) (.seq (.reg false [I_ 40 [.tk 5] .mv, I_ 41 [.tk 7] .mv, I_ 42 [.cv (.func 32 [] []), .sl 40, .sl 41] (.call 3), I_ 43 [.tk 42] .mv, ⟨some 44,
  [.tk 6], some (43, true), none, .mv⟩, ⟨some 45, [.tk 8], some (43, true), none, .mv⟩, ⟨some 46, [.tv 44, .tv 45], some (43, true), none, .bin .eql⟩, I_ 47 [.tv 43, .tv 46, .cv (.bool false)] .pick, I_ 48 [.tk 47] .mv, ⟨some 49,
  [.tk 9], some (48, true), none, .mv⟩, ⟨some 50, [.tk 11], some (48, true), none, .mv⟩, ⟨some 51, [.cv (.func 32 [] []), .sl 49, .sl 50], some (48, true), none, .call 3⟩, I_ 52 [.tv 48, .tv 51, .cv (.bool false)] .pick, I_ 53
  [.tk 52] .mv, ⟨some 54, [.tk 10], some (53, true), none, .mv⟩, ⟨some 55, [.tk 12], some (53, true), none, .mv⟩, ⟨some 56, [.tv 54, .tv 55], some (53, true), none, .bin .eql⟩, I_ 57 [.tv 53, .tv 56, .cv (.bool false)] .pick, I_
  58 [.tk 57] .mv, ⟨some 59, [.cv (.func 20 [] [])], some (58, true), none, .call 3⟩, I_ 60 [.tv 58, .tv 59, .cv (.bool false)] .pick, I_ 4 [.tk 60] .mv]) .ret))))))
theorem lk6 : linkF Go.Proofs.Try.prog ann6 6 = some (rc6, 61, [.tmp 4]) := by kernel_rfl
noncomputable def rc7 : RC :=
  .seq (.reg false [I_ 2 [.tk 0] .box, I_ 4 [.cv (.bool false)] .mv]) (.seq (.seq (.reg false [I_ 13 [.sl 2] (.ld (.str 1)), I_ 14 [.cv (.func 18 [] []), .sl 13] (.call 3)]) (.cond (.sl 14) (.seq (.reg false [I_ 15 [.cv (.func 20
  [] [])] (.call 3), I_ 4 [.tk 15] .mv]) .ret) .skip)) (.seq (.reg false [I_ 17 [.sl 2] (.ld (.str 1)), I_ 18 [.cv (.func 44 [] []), .sl 17] (.call 3), I_ 16 [.tk 18] .mv, I_ 19 [.sl 16] (.ext 0), I_ 20 [.tv 16] (.ext 1), I_ 5
  [.tk 19] .mv, I_ 6 [.tk 20] .mv]) (.seq (.reg false [I_ 22 [.sl 2] (.ld (.str 1)), I_ 23 [.cv (.func 45 [] []), .sl 22] (.call 3), I_ 21 [.tk 23] .mv, I_ 24 [.sl 21] (.ext 0), I_ 25 [.tv 21] (.ext 1), I_ 7 [.tk 24] .mv, I_ 8
  [.tk 25] .mv]) (.seq (.reg false [I_ 27 [.sl 2] (.ld (.str 1)), I_ 28 [.sl 1] .mv, I_ 29 [.cv (.func 46 [] []), .sl 27, .sl 28] (.call 3), I_ 26 [.tk 29] .mv, I_ 30 [.sl 26] (.ext 0), I_ 31 [.tv 26] (.ext 1), I_ 9 [.tk 30] .mv,
  I_ 10 [.tk 31] .mv]) (.seq (.reg false [I_ 32 [.sl 2] (.ld (.str 1)), I_ 33 [.sl 1] .mv, I_ 34 [.cv (.func 47 [] []), .sl 32, .sl 33] (.call 3), I_ 11 [.tk 34] .mv]) (.seq (.seq (.reg false [I_ 35 [.tk 5] .mv, I_ 36 [.tk 7]
  .mv, I_ 37 [.tv 35, .tv 36] (.bin .neq), I_ 38 [.tk 37] .mv, ⟨some 39, [.tk 6], some (38, false), none, .mv⟩, ⟨some 40, [.tk 8], some (38, false), none, .mv⟩, ⟨some 41, [.tv 39, .tv 40], some (38, false), none, .bin .neq⟩, I_
  42 [.tv 38, .cv (.bool true), .tv 41] .pick, I_ 43 [.tk 42] .mv, ⟨some 44, [.tk 10], some (43, false), none, .mv⟩, ⟨some 45, [.sl 11], some (43, false), none, .mv⟩, ⟨some 46, [.tv 44, .tv 45], some (43, false), none, .bin
  .neq⟩, I_ 47 [.tv 43, .cv (.bool true), .tv 46] .pick]) (.cond (.sl 47) (.seq (.reg false [I_ 4 [.cv (.bool false)] .mv]) .ret) .skip)) (.seq (.seq (.reg false [I_ 48 [.tk 11] .mv, I_ 49 [.tv 48, .cv (.int .i64 0)] (.bin
  .neq)]) (.cond (.sl 49) (.seq (.reg false [I_ 50 [.tk 9] .mv, I_ 51 [.tk 50] .lenS, I_ 52 [.tv 51, .cv (.int .i64 0)] (.bin .eql), I_ 53 [.tk 52] .mv, ⟨some 54, [.cv (.func 20 [] [])], some (53, true), none, .call 3⟩, I_ 55
  [.tv 53, .tv 54, .cv (.bool false)] .pick, I_ 4 [.tk 55] .mv]) .ret) .skip)) (.seq (.seq (.reg false [I_ 56 [.sl 9] .mv, I_ 57 [.cv (.func 19 [] []), .sl 56] (.call 3)]) (.cond (.sl 57) (.seq (.reg false [I_ 4 [.cv (.bool
  false)] .mv]) .ret) .skip)) (.seq (.reg false [I_ 59 [.tv 2] (.ld (.str 1)), I_ 60 [.tk 9] .mv, I_ 61 [.cv (.func 31 [] []), .sl 59, .sl 60] (.call 3), I_ 58 [.tk 61] .mv, I_ 62 [.sl 58] (.ext 0), I_ 63 [.tv 58] (.ext 1), I_ 12
  [.tk 62] .mv, I_ 10 [.tk 63] .mv]) (.seq (.reg false [I_ 64 [.tk 10] .mv, I_ 65 [.tv 64, .cv (.int .i64 0)] (.bin .eql), I_ 66 [.tk 65] .mv, ⟨some 67, [.tk 12], some (66, true), none, .mv⟩, ⟨some 68, [.tk 1], some (66, true),
  none, .mv⟩, ⟨some 69, [.tv 67, .tv 68], some (66, true), none, .bin .geq⟩, I_ 70 [.tv 66, .tv 69, .cv (.bool false)] .pick, I_ 71 [.tk 70] .mv, ⟨some 72, [.cv (.func 20 [] [])], some (71, true), none, .call 3⟩, I_ 73 [.tv 71,
  .tv 72, .cv (.bool false)] .pick, I_ 4 [.tk 73] .mv]) .ret))))))))))
theorem lk7 : linkF Go.Proofs.Try.prog ann7 7 = some (rc7, 74, [.tmp 4]) := by kernel_rfl
noncomputable def rc8 : RC :=
  .seq (.reg false [I_ 2 [.tk 0] .box, I_ 4 [.cv (.bool false)] .mv]) (.seq (.seq (.reg false [I_ 22 [.sl 2] (.ld (.str 1)), I_ 23 [.cv (.func 48 [] []), .sl 22] (.call 3), I_ 24 [.tv 23] (.un .not), I_ 25 [.tk 24] .mv, ⟨some 26,
  [.sl 1], some (25, false), none, .mv⟩, ⟨some 27, [.tk 26], some (25, false), none, .lenS⟩, ⟨some 28, [.tv 27, .cv (.int .i64 30)], some (25, false), none, .bin .gtr⟩, I_ 29 [.tv 25, .cv (.bool true), .tv 28] .pick]) (.cond (.sl
  29) (.seq (.reg false [I_ 30 [.cv (.func 20 [] [])] (.call 3), I_ 4 [.tk 30] .mv]) .ret) .skip)) (.seq (.reg false [I_ 32 [.sl 2] (.ld (.str 1)), I_ 33 [.cv (.func 49 [] []), .sl 32] (.call 3), I_ 31 [.tk 33] .mv, I_ 34 [.sl
  31] (.ext 0), I_ 35 [.tv 31] (.ext 1), I_ 5 [.tk 34] .mv, I_ 6 [.tk 35] .mv]) (.seq (.reg false [I_ 36 [.sl 2] (.ld (.str 1)), I_ 37 [.tk 1] .mv, I_ 38 [.cv (.func 50 [] []), .sl 36, .sl 37] (.call 3), I_ 7 [.tk 38] .mv]) (.seq
  (.reg false [I_ 40 [.sl 2] (.ld (.str 1)), I_ 41 [.sl 7] .mv, I_ 42 [.cv (.func 21 [] []), .sl 40, .sl 41] (.call 3), I_ 39 [.tk 42] .mv, I_ 43 [.sl 39] (.ext 0), I_ 44 [.tv 39] (.ext 1), I_ 8 [.tk 43] .mv, I_ 9 [.tk 44] .mv])
  (.seq (.reg false [I_ 46 [.sl 2] (.ld (.str 1)), I_ 47 [.tk 7] .mv, I_ 48 [.cv (.func 23 [] []), .sl 46, .sl 47] (.call 3), I_ 45 [.tk 48] .mv, I_ 49 [.sl 45] (.ext 0), I_ 50 [.tv 45] (.ext 1), I_ 10 [.tk 49] .mv, I_ 11 [.tk
  50] .mv]) (.seq (.seq (.reg false [I_ 51 [.tk 6] .mv, I_ 52 [.tv 51] (.un .not), I_ 53 [.tk 52] .mv, ⟨some 54, [.tk 9], some (53, false), none, .mv⟩, ⟨some 55, [.tv 54, .cv (.int .i64 0)], some (53, false), none, .bin .neq⟩, I_
  56 [.tv 53, .cv (.bool true), .tv 55] .pick, I_ 57 [.tk 56] .mv, ⟨some 58, [.tk 8], some (57, false), none, .mv⟩, ⟨some 59, [.sl 5], some (57, false), none, .mv⟩, ⟨some 60, [.tv 58, .tv 59], some (57, false), none, .bin .lss⟩,
  I_ 61 [.tv 57, .cv (.bool true), .tv 60] .pick, I_ 62 [.tk 61] .mv, ⟨some 63, [.tk 11], some (62, false), none, .mv⟩, ⟨some 64, [.tv 63, .cv (.int .i64 0)], some (62, false), none, .bin .neq⟩, I_ 65 [.tv 62, .cv (.bool true),
  .tv 64] .pick, I_ 66 [.tk 65] .mv, ⟨some 67, [.sl 10], some (66, false), none, .mv⟩, ⟨some 68, [.tk 67], some (66, false), none, .lenS⟩, ⟨some 69, [.sl 2], some (66, false), none, .fa 0⟩, ⟨some 70, [.tv 69], some (66, false),
  none, .ld .one⟩, ⟨some 71, [.tk 70], some (66, false), none, .lenS⟩, ⟨some 72, [.tv 68, .tv 71], some (66, false), none, .bin .neq⟩, I_ 73 [.tv 66, .cv (.bool true), .tv 72] .pick]) (.cond (.sl 73) (.seq (.reg false [I_ 4 [.cv
  (.bool false)] .mv]) .ret) .skip)) (.seq (.reg false [I_ 12 [.cv (.int .i64 0)] .mv, I_ 13 [.cv (.int .i64 0)] .mv]) (.seq (.seq (.reg false [I_ 14 [.cv (.int .i64 0)] .mv]) (.block 0 (.loop (some [false, false, true, false,
  false, true, false, false, false, false, true, false, true, true, true, false, false, false, false, false, false, false, false, false, false, false, false, false, false, false, false, false, false, false, false, false, false,
  false, false, false, false, false, false, false, false, false, false, false, false, false, false, false, false, false, false, false, false, false, false, false, false, false, false, false, false, false, false, false, false,
  false, false, false, false, false, false, false, false, false, false, false, false, false, false, false, false, false, false, false, false, false, false, false, false, false, false, false, false, false, false, false, false,
  false, false, false, false, false, false, false, false, false, false, false, false, false, false, false, false, false, false, false, false, false, false, false, false, false, false, false, false, false, false, false, false,
  false, false, false, false, false, false, false, false, false, false, false, false, false, false, false, false, false, false, false, false, false, false, false, false, false, false, false, false, false, false, false, false,
  false, false, false, false, false, false, false, false, false, false, false, false, false, false, false, false, false, false, false, false]) (.seq (.seq (.reg false [I_ 74 [.sl 14] .mv, I_ 75 [.tv 74, .cv (.int .i64 1)] (.bin
  .add), I_ 76 [.sl 2] (.fa 0), I_ 77 [.tv 76] (.ld .one), I_ 78 [.tk 77] .lenS, I_ 79 [.tv 75, .tv 78] (.bin .lss)]) (.cond (.sl 79) .skip (.exit 0))) (.seq (.block 1 (.seq (.reg false [I_ 83 [.sl 2] (.ld (.str 1)), I_ 84 [.sl
  14] .mv, I_ 85 [.cv (.func 37 [] []), .sl 83, .sl 84] (.call 3), I_ 82 [.tk 85] .mv, I_ 86 [.sl 82] (.ext 0), I_ 87 [.tv 82] (.ext 1), I_ 15 [.tk 86] .mv, I_ 16 [.tk 87] .mv]) (.seq (.reg false [I_ 89 [.sl 2] (.ld (.str 1)), I_
  90 [.sl 14] .mv, I_ 91 [.cv (.func 42 [] []), .sl 89, .sl 90] (.call 3), I_ 88 [.tk 91] .mv, I_ 92 [.sl 88] (.ext 0), I_ 93 [.tv 88] (.ext 1), I_ 17 [.tk 92] .mv, I_ 18 [.tk 93] .mv]) (.seq (.reg false [I_ 95 [.sl 2] (.ld (.str
  1)), I_ 96 [.sl 14] .mv, I_ 97 [.tv 96, .cv (.int .i64 1)] (.bin .add), I_ 98 [.cv (.func 42 [] []), .sl 95, .sl 97] (.call 3), I_ 94 [.tk 98] .mv, I_ 99 [.sl 94] (.ext 0), I_ 100 [.tv 94] (.ext 1), I_ 19 [.tk 99] .mv, I_ 20
  [.tk 100] .mv]) (.seq (.seq (.reg true [I_ 101 [.tk 16] .mv, I_ 102 [.tv 101, .cv (.int .i64 0)] (.bin .neq), I_ 103 [.tk 102] .mv, ⟨some 104, [.tk 18], some (103, false), none, .mv⟩, ⟨some 105, [.tv 104, .cv (.int .i64 0)],
  some (103, false), none, .bin .neq⟩, I_ 106 [.sl 103, .cv (.bool true), .tv 105] .pick, I_ 107 [.tk 106] .mv, ⟨some 108, [.tk 20], some (107, false), none, .mv⟩, ⟨some 109, [.tv 108, .cv (.int .i64 0)], some (107, false), none,
  .bin .neq⟩, I_ 110 [.sl 107, .cv (.bool true), .tv 109] .pick, I_ 111 [.tk 110] .mv, ⟨some 112, [.sl 15], some (111, false), none, .mv⟩, ⟨some 113, [.tv 112, .cv (.int .i64 0)], some (111, false), none, .bin .lss⟩, I_ 114 [.sl
  111, .cv (.bool true), .tv 113] .pick, I_ 115 [.tk 114] .mv, ⟨some 116, [.sl 15], some (115, false), none, .mv⟩, ⟨some 117, [.sl 10], some (115, false), none, .mv⟩, ⟨some 118, [.sl 14], some (115, false), none, .mv⟩, ⟨some 119,
  [.tv 117, .tv 118], some (115, false), none, .ia 1⟩, ⟨some 120, [.tv 119], some (115, false), none, .ld .one⟩, ⟨some 121, [.sl 10], some (115, false), none, .mv⟩, ⟨some 122, [.sl 14], some (115, false), none, .mv⟩, ⟨some 123,
  [.tv 122, .cv (.int .i64 1)], some (115, false), none, .bin .add⟩, ⟨some 124, [.tv 121, .tv 123], some (115, false), none, .ia 1⟩, ⟨some 125, [.tv 124], some (115, false), none, .ld .one⟩, ⟨some 126, [.cv (.func 51 [] []), .sl
  120, .sl 125], some (115, false), none, .call 3⟩, ⟨some 127, [.tv 116, .tv 126], some (115, false), none, .bin .gtr⟩, I_ 128 [.sl 115, .cv (.bool true), .tv 127] .pick]) (.cond (.sl 128) (.seq (.reg false [I_ 4 [.cv (.bool
  false)] .mv]) .ret) .skip)) (.seq (.seq (.reg false [I_ 21 [.cv (.int .i64 0)] .mv]) (.block 2 (.loop (some [false, false, true, false, false, true, false, false, false, false, true, false, true, true, true, true, false, true,
  false, true, false, true, false, false, false, false, false, false, false, false, false, false, false, false, false, false, false, false, false, false, false, false, false, false, false, false, false, false, false, false,
  false, false, false, false, false, false, false, false, false, false, false, false, false, false, false, false, false, false, false, false, false, false, false, false, false, false, false, false, false, false, false, false,
  false, false, false, false, false, false, false, false, false, false, false, false, false, false, false, false, false, false, false, false, false, false, false, false, false, false, false, false, false, false, false, false,
  false, false, false, false, false, false, false, false, false, false, false, false, false, false, false, false, false, false, false, false, false, false, false, false, false, false, false, false, false, false, false, false,
  false, false, false, false, false, false, false, false, false, false, false, false, false, false, false, false, false, false, false, false, false, false, false, false, false, false, false, false, false, false, false, false,
  false, false, false, false, false, false, false]) (.seq (.seq (.reg false [I_ 129 [.sl 21] .mv, I_ 130 [.sl 17] .mv, I_ 131 [.tk 130] .lenS, I_ 132 [.tv 129, .tv 131] (.bin .lss)]) (.cond (.sl 132) .skip (.exit 2))) (.seq
  (.block 3 (.seq (.reg true [I_ 135 [.sl 19] .mv, I_ 136 [.sl 17] .mv, I_ 137 [.sl 21] .mv, I_ 138 [.tv 136, .tv 137] (.ia 1), I_ 139 [.tv 138] (.ld .one), I_ 140 [.cv (.func 52 [] []), .sl 135, .sl 139] (.call 3), I_ 141 [.tk
  140] .mv, ⟨some 142, [.sl 10], some (141, true), none, .mv⟩, ⟨some 143, [.sl 14], some (141, true), none, .mv⟩, ⟨some 144, [.tv 142, .tv 143], some (141, true), none, .ia 1⟩, ⟨some 145, [.tv 144], some (141, true), none, .ld
  .one⟩, ⟨some 146, [.sl 17], some (141, true), none, .mv⟩, ⟨some 147, [.sl 21], some (141, true), none, .mv⟩, ⟨some 148, [.tv 146, .tv 147], some (141, true), none, .ia 1⟩, ⟨some 149, [.tv 148], some (141, true), none, .ld
  .one⟩, ⟨some 150, [.cv (.func 52 [] []), .sl 145, .sl 149], some (141, true), none, .call 3⟩, ⟨some 151, [.tv 150], some (141, true), none, .un .not⟩, ⟨some 152, [.tk 151], some (141, true), none, .mv⟩, ⟨some 153, [.sl 10],
  some (152, false), none, .mv⟩, ⟨some 154, [.sl 14], some (152, false), none, .mv⟩, ⟨some 155, [.tv 154, .cv (.int .i64 1)], some (152, false), none, .bin .add⟩, ⟨some 156, [.tv 153, .tv 155], some (152, false), none, .ia 1⟩,
  ⟨some 157, [.tv 156], some (152, false), none, .ld .one⟩, ⟨some 158, [.sl 17], some (152, false), none, .mv⟩, ⟨some 159, [.sl 21], some (152, false), none, .mv⟩, ⟨some 160, [.tv 158, .tv 159], some (152, false), none, .ia 1⟩,
  ⟨some 161, [.tv 160], some (152, false), none, .ld .one⟩, ⟨some 162, [.cv (.func 52 [] []), .sl 157, .sl 161], some (152, false), none, .call 3⟩, ⟨some 163, [.tv 162], some (152, false), none, .un .not⟩, ⟨some 164, [.sl 152,
  .cv (.bool true), .tv 163], some (141, true), none, .pick⟩, I_ 165 [.sl 141, .tv 164, .cv (.bool false)] .pick]) (.cond (.sl 165) (.seq (.reg false [I_ 4 [.cv (.bool false)] .mv]) .ret) .skip))) (.reg false [I_ 133 [.tk 21]
  .mv, I_ 134 [.tv 133, .cv (.int .i64 1)] (.bin .add), I_ 21 [.tk 134] .mv])))))) (.reg false [I_ 166 [.tk 12] .mv, I_ 167 [.tk 15] .mv, I_ 168 [.tv 166, .tv 167] (.bin .add), I_ 169 [.tk 13] .mv, I_ 170 [.tk 17] .mv, I_ 171
  [.tk 19] .mv, I_ 172 [.cv (.func 51 [] []), .sl 170, .sl 171] (.call 3), I_ 173 [.tv 169, .tv 172] (.bin .add), I_ 12 [.tk 168] .mv, I_ 13 [.tk 173] .mv]))))))) (.reg false [I_ 80 [.tk 14] .mv, I_ 81 [.tv 80, .cv (.int .i64 1)]
  (.bin .add), I_ 14 [.tk 81] .mv])))))) (.seq (.reg false [I_ 174 [.tk 5] .mv, I_ 175 [.sl 12] .mv, I_ 176 [.tv 174, .tv 175] (.bin .geq), I_ 177 [.tk 176] .mv, ⟨some 178, [.tk 12], some (177, true), none, .mv⟩, ⟨some 179, [.tk
  13], some (177, true), none, .mv⟩, ⟨some 180, [.tv 178, .tv 179], some (177, true), none, .bin .geq⟩, I_ 181 [.tv 177, .tv 180, .cv (.bool false)] .pick, I_ 182 [.tk 181] .mv, ⟨some 183, [.cv (.func 20 [] [])], some (182,
  true), none, .call 3⟩, I_ 184 [.tv 182, .tv 183, .cv (.bool false)] .pick, I_ 4 [.tk 184] .mv]) .ret)))))))))
theorem lk8 : linkF Go.Proofs.Try.prog ann8 8 = some (rc8, 185, [.tmp 4]) := by kernel_rfl
noncomputable def rc9 : RC :=
  .seq (.reg false [I_ 3 [.tk 0] .box, I_ 6 [.cv (.bool false)] .mv]) (.seq (.seq (.reg false [I_ 18 [.sl 3] (.ld (.str 1)), I_ 19 [.cv (.func 48 [] []), .sl 18] (.call 3), I_ 20 [.tv 19] (.un .not), I_ 21 [.tk 20] .mv, ⟨some 22,
  [.sl 1], some (21, false), none, .mv⟩, ⟨some 23, [.tk 22], some (21, false), none, .lenS⟩, ⟨some 24, [.tv 23, .cv (.int .i64 30)], some (21, false), none, .bin .gtr⟩, I_ 25 [.tv 21, .cv (.bool true), .tv 24] .pick]) (.cond (.sl
  25) (.seq (.reg false [I_ 26 [.cv (.func 20 [] [])] (.call 3), I_ 6 [.tk 26] .mv]) .ret) .skip)) (.seq (.reg false [I_ 27 [.tk 2] .mv, I_ 28 [.tv 27] (.conv .i64), I_ 29 [.sl 3] (.fa 0), I_ 30 [.tv 29] (.ld .one), I_ 31 [.tk
  30] .lenS, I_ 32 [.tv 28, .tv 31] (.bin .rem), I_ 7 [.tk 32] .mv]) (.seq (.reg false [I_ 33 [.sl 3] (.fa 0), I_ 34 [.tv 33] (.ld .one), I_ 35 [.sl 7] .mv, I_ 36 [.tv 34, .tv 35] (.ia 1), I_ 37 [.tv 36] (.ld .one), I_ 38 [.cv
  (.func 53 [] []), .sl 37] (.call 3), I_ 8 [.tk 38] .mv]) (.seq (.reg true [I_ 40 [.sl 3] (.ld (.str 1)), I_ 41 [.sl 3] (.ld (.str 1)), I_ 42 [.tk 1] .mv, I_ 43 [.cv (.func 50 [] []), .sl 41, .sl 42] (.call 3), I_ 44 [.cv (.func
  23 [] []), .sl 40, .sl 43] (.call 3), I_ 39 [.tk 44] .mv, I_ 45 [.sl 39] (.ext 0), I_ 46 [.sl 39] (.ext 1), I_ 9 [.tk 45] .mv, I_ 10 [.tk 46] .mv]) (.seq (.reg false [I_ 48 [.sl 3] (.ld (.str 1)), I_ 49 [.sl 7] .mv, I_ 50 [.cv
  (.func 40 [] []), .sl 48, .sl 49] (.call 3), I_ 47 [.tk 50] .mv, I_ 51 [.sl 47] (.ext 0), I_ 52 [.tv 47] (.ext 1), I_ 11 [.tk 51] .mv, I_ 12 [.tk 52] .mv]) (.seq (.reg false [I_ 54 [.sl 3] (.ld (.str 1)), I_ 55 [.sl 7] .mv, I_
  56 [.cv (.func 42 [] []), .sl 54, .sl 55] (.call 3), I_ 53 [.tk 56] .mv, I_ 57 [.sl 53] (.ext 0), I_ 58 [.tv 53] (.ext 1), I_ 13 [.tk 57] .mv, I_ 14 [.tk 58] .mv]) (.seq (.seq (.reg true [I_ 59 [.tk 10] .mv, I_ 60 [.tv 59, .cv
  (.int .i64 0)] (.bin .neq), I_ 61 [.tk 60] .mv, ⟨some 62, [.tk 12], some (61, false), none, .mv⟩, ⟨some 63, [.tv 62, .cv (.int .i64 0)], some (61, false), none, .bin .neq⟩, I_ 64 [.sl 61, .cv (.bool true), .tv 63] .pick, I_ 65
  [.tk 64] .mv, ⟨some 66, [.tk 14], some (65, false), none, .mv⟩, ⟨some 67, [.tv 66, .cv (.int .i64 0)], some (65, false), none, .bin .neq⟩, I_ 68 [.sl 65, .cv (.bool true), .tv 67] .pick, I_ 69 [.tk 68] .mv, ⟨some 70, [.sl 9],
  some (69, false), none, .mv⟩, ⟨some 71, [.tk 70], some (69, false), none, .lenS⟩, ⟨some 72, [.sl 3], some (69, false), none, .fa 0⟩, ⟨some 73, [.tv 72], some (69, false), none, .ld .one⟩, ⟨some 74, [.tk 73], some (69, false),
  none, .lenS⟩, ⟨some 75, [.tv 71, .tv 74], some (69, false), none, .bin .neq⟩, I_ 76 [.sl 69, .cv (.bool true), .tv 75] .pick, I_ 77 [.tk 76] .mv, ⟨some 78, [.sl 9], some (77, false), none, .mv⟩, ⟨some 79, [.sl 7], some (77,
  false), none, .mv⟩, ⟨some 80, [.tv 78, .tv 79], some (77, false), none, .ia 1⟩, ⟨some 81, [.tv 80], some (77, false), none, .ld .one⟩, ⟨some 82, [.tk 81], some (77, false), none, .lenS⟩, ⟨some 83, [.sl 3], some (77, false),
  none, .fa 0⟩, ⟨some 84, [.tv 83], some (77, false), none, .ld .one⟩, ⟨some 85, [.sl 7], some (77, false), none, .mv⟩, ⟨some 86, [.tv 84, .tv 85], some (77, false), none, .ia 1⟩, ⟨some 87, [.tv 86], some (77, false), none, .ld
  .one⟩, ⟨some 88, [.tk 87], some (77, false), none, .lenS⟩, ⟨some 89, [.tv 88, .cv (.int .i64 1)], some (77, false), none, .bin .sub⟩, ⟨some 90, [.tv 82, .tv 89], some (77, false), none, .bin .neq⟩, I_ 91 [.sl 77, .cv (.bool
  true), .tv 90] .pick, I_ 92 [.tk 91] .mv, ⟨some 93, [.sl 11], some (92, false), none, .mv⟩, ⟨some 94, [.tk 93], some (92, false), none, .lenS⟩, ⟨some 95, [.tv 94, .cv (.int .i64 30)], some (92, false), none, .bin .gtr⟩, I_ 96
  [.sl 92, .cv (.bool true), .tv 95] .pick, I_ 97 [.tk 96] .mv, ⟨some 98, [.sl 13], some (97, false), none, .mv⟩, ⟨some 99, [.tk 98], some (97, false), none, .lenS⟩, ⟨some 100, [.tv 99, .cv (.int .i64 4)], some (97, false), none,
  .bin .gtr⟩, I_ 101 [.sl 97, .cv (.bool true), .tv 100] .pick]) (.cond (.sl 101) (.seq (.reg false [I_ 6 [.cv (.bool false)] .mv]) .ret) .skip)) (.seq (.seq (.reg false [I_ 15 [.cv (.int .i64 0)] .mv]) (.block 0 (.loop (some
  [false, false, false, false, false, false, false, true, true, true, false, true, false, true, false, true, false, false, false, false, false, false, false, false, false, false, false, false, false, false, false, false, false,
  false, false, false, false, false, false, false, false, false, false, false, false, false, false, false, false, false, false, false, false, false, false, false, false, false, false, false, false, false, false, false, false,
  false, false, false, false, false, false, false, false, false, false, false, false, false, false, false, false, false, false, false, false, false, false, false, false, false, false, false, false, false, false, false, false,
  false, false, false, false, false, false, false, false, false, false, false, false, false, false, false, false, false, false, false, false, false, false, false, false, false, false, false, false, false, false, false, false,
  false, false, false, false, false, false, false, false, false, false, false, false, false, false, false, false, false, false, false, false, false, false, false, false, false, false, false, false, false, false, false, false,
  false, false, false, false, false, false, false, false, false, false, false, false, false, false, false, false, false, false, false, false, false, false, false, false, false, false, false, false, false, false, false, false,
  false, false, false, false, false, false, false, false, false, false, false, false, false, false, false, false, false, false, false, false, false, false, false]) (.seq (.seq (.reg false [I_ 102 [.sl 15] .mv, I_ 103 [.sl 9] .mv,
  I_ 104 [.sl 7] .mv, I_ 105 [.tv 103, .tv 104] (.ia 1), I_ 106 [.tv 105] (.ld .one), I_ 107 [.tk 106] .lenS, I_ 108 [.tv 102, .tv 107] (.bin .lss)]) (.cond (.sl 108) .skip (.exit 0))) (.seq (.block 1 (.seq (.reg true [I_ 111
  [.sl 11] .mv, I_ 112 [.sl 9] .mv, I_ 113 [.sl 7] .mv, I_ 114 [.tv 112, .tv 113] (.ia 1), I_ 115 [.tv 114] (.ld .one), I_ 116 [.sl 15] .mv, I_ 117 [.tv 115, .tv 116] (.ia 1), I_ 118 [.tv 117] (.ld .one), I_ 119 [.cv (.func 52 []
  []), .sl 111, .sl 118] (.call 3), I_ 120 [.tv 119] (.un .not), I_ 121 [.tk 120] .mv, ⟨some 122, [.sl 15], some (121, false), none, .mv⟩, ⟨some 123, [.tv 122, .cv (.int .i64 0)], some (121, false), none, .bin .gtr⟩, ⟨some 124,
  [.tk 123], some (121, false), none, .mv⟩, ⟨some 125, [.sl 9], some (124, true), none, .mv⟩, ⟨some 126, [.sl 7], some (124, true), none, .mv⟩, ⟨some 127, [.tv 125, .tv 126], some (124, true), none, .ia 1⟩, ⟨some 128, [.tv 127],
  some (124, true), none, .ld .one⟩, ⟨some 129, [.sl 15], some (124, true), none, .mv⟩, ⟨some 130, [.tv 128, .tv 129], some (124, true), none, .ia 1⟩, ⟨some 131, [.tv 130], some (124, true), none, .ld .one⟩, ⟨some 132, [.sl 9],
  some (124, true), none, .mv⟩, ⟨some 133, [.sl 7], some (124, true), none, .mv⟩, ⟨some 134, [.tv 132, .tv 133], some (124, true), none, .ia 1⟩, ⟨some 135, [.tv 134], some (124, true), none, .ld .one⟩, ⟨some 136, [.sl 15], some
  (124, true), none, .mv⟩, ⟨some 137, [.tv 136, .cv (.int .i64 1)], some (124, true), none, .bin .sub⟩, ⟨some 138, [.tv 135, .tv 137], some (124, true), none, .ia 1⟩, ⟨some 139, [.tv 138], some (124, true), none, .ld .one⟩, ⟨some
  140, [.tv 131, .tv 139], some (124, true), none, .bin .leq⟩, ⟨some 141, [.sl 124, .tv 140, .cv (.bool false)], some (121, false), none, .pick⟩, I_ 142 [.sl 121, .cv (.bool true), .tv 141] .pick]) (.cond (.sl 142) (.seq (.reg
  false [I_ 6 [.cv (.bool false)] .mv]) .ret) .skip))) (.reg false [I_ 109 [.tk 15] .mv, I_ 110 [.tv 109, .cv (.int .i64 1)] (.bin .add), I_ 15 [.tk 110] .mv])))))) (.seq (.seq (.reg false [I_ 16 [.cv (.int .i64 0)] .mv]) (.block
  2 (.loop (some [false, false, false, false, false, false, false, true, true, true, false, true, false, true, false, false, true, false, false, false, false, false, false, false, false, false, false, false, false, false, false,
  false, false, false, false, false, false, false, false, false, false, false, false, false, false, false, false, false, false, false, false, false, false, false, false, false, false, false, false, false, false, false, false,
  false, false, false, false, false, false, false, false, false, false, false, false, false, false, false, false, false, false, false, false, false, false, false, false, false, false, false, false, false, false, false, false,
  false, false, false, false, false, false, false, false, false, false, false, false, false, false, false, false, false, false, false, false, false, false, false, false, false, false, false, false, false, false, false, false,
  false, false, false, false, false, false, false, false, false, false, false, false, false, false, false, false, false, false, false, false, false, false, false, false, false, false, false, false, false, false, false, false,
  false, false, false, false, false, false, false, false, false, false, false, false, false, false, false, false, false, false, false, false, false, false, false, false, false, false, false, false, false, false, false, false,
  false, false, false, false, false, false, false, false, false, false, false, false, false, false, false, false, false, false, false, false, false, false, false, false, false]) (.seq (.seq (.reg false [I_ 143 [.sl 16] .mv, I_
  144 [.sl 11] .mv, I_ 145 [.tk 144] .lenS, I_ 146 [.tv 143, .tv 145] (.bin .lss)]) (.cond (.sl 146) .skip (.exit 2))) (.seq (.block 3 (.seq (.reg false [I_ 149 [.sl 11] .mv, I_ 150 [.sl 16] .mv, I_ 151 [.tv 149, .tv 150] (.ia
  1), I_ 152 [.tv 151] (.ld .one), I_ 153 [.tv 152, .cv (.int .i64 1)] (.bin .lss), I_ 154 [.tk 153] .mv, ⟨some 155, [.sl 11], some (154, false), none, .mv⟩, ⟨some 156, [.sl 16], some (154, false), none, .mv⟩, ⟨some 157, [.tv
  155, .tv 156], some (154, false), none, .ia 1⟩, ⟨some 158, [.tv 157], some (154, false), none, .ld .one⟩, ⟨some 159, [.sl 8], some (154, false), none, .mv⟩, ⟨some 160, [.tv 158, .tv 159], some (154, false), none, .bin .geq⟩, I_
  161 [.tv 154, .cv (.bool true), .tv 160] .pick, I_ 162 [.tk 161] .mv, ⟨some 163, [.sl 11], some (162, false), none, .mv⟩, ⟨some 164, [.sl 8], some (162, false), none, .mv⟩, ⟨some 165, [.sl 11], some (162, false), none, .mv⟩,
  ⟨some 166, [.sl 16], some (162, false), none, .mv⟩, ⟨some 167, [.tv 165, .tv 166], some (162, false), none, .ia 1⟩, ⟨some 168, [.tv 167], some (162, false), none, .ld .one⟩, ⟨some 169, [.tv 164, .tv 168], some (162, false),
  none, .bin .sub⟩, ⟨some 170, [.cv (.func 52 [] []), .sl 163, .sl 169], some (162, false), none, .call 3⟩, ⟨some 171, [.tv 170], some (162, false), none, .un .not⟩, I_ 172 [.tv 162, .cv (.bool true), .tv 171] .pick]) (.cond (.sl
  172) (.seq (.reg false [I_ 6 [.cv (.bool false)] .mv]) .ret) .skip))) (.reg false [I_ 147 [.tk 16] .mv, I_ 148 [.tv 147, .cv (.int .i64 1)] (.bin .add), I_ 16 [.tk 148] .mv])))))) (.seq (.seq (.reg false [I_ 17 [.cv (.int .i64
  0)] .mv]) (.block 4 (.loop (some [false, false, false, false, false, false, false, true, true, true, false, false, false, true, false, false, false, true, false, false, false, false, false, false, false, false, false, false,
  false, false, false, false, false, false, false, false, false, false, false, false, false, false, false, false, false, false, false, false, false, false, false, false, false, false, false, false, false, false, false, false,
  false, false, false, false, false, false, false, false, false, false, false, false, false, false, false, false, false, false, false, false, false, false, false, false, false, false, false, false, false, false, false, false,
  false, false, false, false, false, false, false, false, false, false, false, false, false, false, false, false, false, false, false, false, false, false, false, false, false, false, false, false, false, false, false, false,
  false, false, false, false, false, false, false, false, false, false, false, false, false, false, false, false, false, false, false, false, false, false, false, false, false, false, false, false, false, false, false, false,
  false, false, false, false, false, false, false, false, false, false, false, false, false, false, false, false, false, false, false, false, false, false, false, false, false, false, false, false, false, false, false, false,
  false, false, false, false, false, false, false, false, false, false, false, false, false, false, false, false, false, false, false, false, false, false, false, false, false, false, false, false]) (.seq (.seq (.reg false [I_
  173 [.sl 17] .mv, I_ 174 [.sl 13] .mv, I_ 175 [.tk 174] .lenS, I_ 176 [.tv 173, .tv 175] (.bin .lss)]) (.cond (.sl 176) .skip (.exit 4))) (.seq (.block 5 (.seq (.reg true [I_ 179 [.sl 9] .mv, I_ 180 [.sl 7] .mv, I_ 181 [.tv
  179, .tv 180] (.ia 1), I_ 182 [.tv 181] (.ld .one), I_ 183 [.sl 13] .mv, I_ 184 [.sl 17] .mv, I_ 185 [.tv 183, .tv 184] (.ia 1), I_ 186 [.tv 185] (.ld .one), I_ 187 [.cv (.func 52 [] []), .sl 182, .sl 186] (.call 3), I_ 188
  [.tv 187] (.un .not), I_ 189 [.tk 188] .mv, ⟨some 190, [.sl 13], some (189, false), none, .mv⟩, ⟨some 191, [.sl 17], some (189, false), none, .mv⟩, ⟨some 192, [.tv 190, .tv 191], some (189, false), none, .ia 1⟩, ⟨some 193, [.tv
  192], some (189, false), none, .ld .one⟩, ⟨some 194, [.tv 193, .cv (.int .i64 1)], some (189, false), none, .bin .lss⟩, I_ 195 [.sl 189, .cv (.bool true), .tv 194] .pick, I_ 196 [.tk 195] .mv, ⟨some 197, [.sl 13], some (196,
  false), none, .mv⟩, ⟨some 198, [.sl 17], some (196, false), none, .mv⟩, ⟨some 199, [.tv 197, .tv 198], some (196, false), none, .ia 1⟩, ⟨some 200, [.tv 199], some (196, false), none, .ld .one⟩, ⟨some 201, [.sl 8], some (196,
  false), none, .mv⟩, ⟨some 202, [.tv 200, .tv 201], some (196, false), none, .bin .geq⟩, I_ 203 [.sl 196, .cv (.bool true), .tv 202] .pick, I_ 204 [.tk 203] .mv, ⟨some 205, [.sl 13], some (204, false), none, .mv⟩, ⟨some 206,
  [.sl 8], some (204, false), none, .mv⟩, ⟨some 207, [.sl 13], some (204, false), none, .mv⟩, ⟨some 208, [.sl 17], some (204, false), none, .mv⟩, ⟨some 209, [.tv 207, .tv 208], some (204, false), none, .ia 1⟩, ⟨some 210, [.tv
  209], some (204, false), none, .ld .one⟩, ⟨some 211, [.tv 206, .tv 210], some (204, false), none, .bin .sub⟩, ⟨some 212, [.cv (.func 52 [] []), .sl 205, .sl 211], some (204, false), none, .call 3⟩, ⟨some 213, [.tv 212], some
  (204, false), none, .un .not⟩, I_ 214 [.sl 204, .cv (.bool true), .tv 213] .pick]) (.cond (.sl 214) (.seq (.reg false [I_ 6 [.cv (.bool false)] .mv]) .ret) .skip))) (.reg false [I_ 177 [.tk 17] .mv, I_ 178 [.tv 177, .cv (.int
  .i64 1)] (.bin .add), I_ 17 [.tk 178] .mv])))))) (.seq (.reg false [I_ 215 [.cv (.func 20 [] [])] (.call 3), I_ 6 [.tk 215] .mv]) .ret)))))))))))
theorem lk9 : linkF Go.Proofs.Try.prog ann9 9 = some (rc9, 216, [.tmp 6]) := by kernel_rfl
noncomputable def rc10 : RC :=
  .seq (.reg false [I_ 3 [.tk 0] .box, I_ 6 [.cv (.bool false)] .mv]) (.seq (.seq (.reg false [I_ 17 [.sl 3] (.ld (.str 1)), I_ 18 [.cv (.func 48 [] []), .sl 17] (.call 3), I_ 19 [.tv 18] (.un .not)]) (.cond (.sl 19) (.seq (.reg
  false [I_ 20 [.cv (.func 20 [] [])] (.call 3), I_ 6 [.tk 20] .mv]) .ret) .skip)) (.seq (.reg false [I_ 21 [.tk 1] .mv, I_ 22 [.tv 21] (.conv .i64), I_ 23 [.sl 3] (.fa 0), I_ 24 [.tv 23] (.ld .one), I_ 25 [.tk 24] .lenS, I_ 26
  [.tv 22, .tv 25] (.bin .rem), I_ 7 [.tk 26] .mv]) (.seq (.reg false [I_ 8 [.cv (.lst [] 0 .full)] (.nil 1), I_ 9 [.cv (.lst [] 0 .full)] (.nil 1)]) (.seq (.reg false [I_ 10 [.cv (.int .i64 0)] .mv]) (.seq (.seq (.reg false [I_
  11 [.cv (.int .i64 0)] .mv]) (.block 0 (.loop (some [false, false, true, true, false, false, false, true, true, true, true, true, false, false, false, false, false, false, false, false, false, false, false, false, false, false,
  false, false, false, false, false, false, false, false, false, false, false, false, false, false, false, false, false, false, false, false, false, false, false, false, false, false, false, false, false, false, false, false,
  false, false, false, false, false, false, false, false, false, false, false, false, false, false, false, false, false, false, false, false, false, false, false, false, false, false, false, false, false, false, false, false,
  false, false, false, false, false, false, false, false, false, false, false, false, false, false, false, false, false, false, false, false, false, false, false, false, false, false, false, false, false, false, false, false,
  false, false, false]) (.seq (.seq (.reg false [I_ 27 [.sl 11] .mv, I_ 28 [.sl 3] (.fa 0), I_ 29 [.tv 28] (.ld .one), I_ 30 [.sl 7] .mv, I_ 31 [.tv 29, .tv 30] (.ia 1), I_ 32 [.tv 31] (.ld .one), I_ 33 [.tk 32] .lenS, I_ 34 [.tv
  27, .tv 33] (.bin .lss)]) (.cond (.sl 34) .skip (.exit 0))) (.seq (.block 1 (.seq (.reg false [I_ 37 [.sl 2] .mv, I_ 38 [.sl 11] .mv, I_ 39 [.tv 37, .tv 38] (.bin .shr), I_ 40 [.tv 39, .cv (.int .u8 1)] (.bin .and), I_ 41 [.tv
  40, .cv (.int .u8 1)] (.bin .eql)]) (.cond (.sl 41) (.reg true [I_ 42 [.tk 8] .mv, I_ 43 [.sl 11] .mv, I_ 44 [.tv 43] (.buildS 1 1 [.int .i64 0] [0]), I_ 45 [.tk 42, .tk 44] (.app 1 8), I_ 46 [.tk 10] .mv, I_ 47 [.sl 3] (.fa
  0), I_ 48 [.tv 47] (.ld .one), I_ 49 [.sl 7] .mv, I_ 50 [.tv 48, .tv 49] (.ia 1), I_ 51 [.tv 50] (.ld .one), I_ 52 [.sl 11] .mv, I_ 53 [.tv 51, .tv 52] (.ia 1), I_ 54 [.tv 53] (.ld .one), I_ 55 [.tv 46, .tv 54] (.bin .add), I_
  8 [.tk 45] .mv, I_ 10 [.tk 55] .mv]) (.reg false [I_ 56 [.tk 9] .mv, I_ 57 [.sl 11] .mv, I_ 58 [.tv 57] (.buildS 1 1 [.int .i64 0] [0]), I_ 59 [.tk 56, .tk 58] (.app 1 8), I_ 9 [.tk 59] .mv])))) (.reg false [I_ 35 [.tk 11] .mv,
  I_ 36 [.tv 35, .cv (.int .i64 1)] (.bin .add), I_ 11 [.tk 36] .mv])))))) (.seq (.reg false [I_ 60 [.sl 3] (.ld (.str 1)), I_ 61 [.cv (.func 50 [] []), .sl 60, .cv (.lst [] 0 .full)] (.call 3), I_ 12 [.tk 61] .mv]) (.seq (.reg
  false [I_ 62 [.sl 12] .mv, I_ 63 [.sl 7] .mv, I_ 64 [] (.buildS 0 1 [.int .i64 0] []), I_ 65 [.sl 8] .mv, I_ 66 [.tk 64, .tk 65] (.app 1 8), I_ 67 [.sl 9] .mv, I_ 68 [.tk 66, .tk 67] (.app 1 8), I_ 69 [.tv 62, .tv 63] (.ia 1),
  ⟨none, [.tk 69, .tk 68], none, none, .st 1⟩]) (.seq (.reg false [I_ 71 [.sl 3] (.ld (.str 1)), I_ 72 [.tk 12] .mv, I_ 73 [.cv (.func 23 [] []), .sl 71, .sl 72] (.call 3), I_ 70 [.tk 73] .mv, I_ 74 [.sl 70] (.ext 0), I_ 75 [.tv
  70] (.ext 1), I_ 13 [.tk 74] .mv, I_ 14 [.tk 75] .mv]) (.seq (.reg false [I_ 77 [.sl 3] (.ld (.str 1)), I_ 78 [.sl 7] .mv, I_ 79 [.cv (.func 40 [] []), .sl 77, .sl 78] (.call 3), I_ 76 [.tk 79] .mv, I_ 80 [.sl 76] (.ext 0), I_
  81 [.tv 76] (.ext 1), I_ 15 [.tk 80] .mv, I_ 16 [.tk 81] .mv]) (.seq (.seq (.reg false [I_ 82 [.tk 14] .mv, I_ 83 [.tv 82, .cv (.int .i64 0)] (.bin .neq), I_ 84 [.tk 83] .mv, ⟨some 85, [.tk 16], some (84, false), none, .mv⟩,
  ⟨some 86, [.tv 85, .cv (.int .i64 0)], some (84, false), none, .bin .neq⟩, I_ 87 [.tv 84, .cv (.bool true), .tv 86] .pick, I_ 88 [.tk 87] .mv, ⟨some 89, [.sl 13], some (88, false), none, .mv⟩, ⟨some 90, [.tk 89], some (88,
  false), none, .lenS⟩, ⟨some 91, [.tv 3], some (88, false), none, .fa 0⟩, ⟨some 92, [.tv 91], some (88, false), none, .ld .one⟩, ⟨some 93, [.tk 92], some (88, false), none, .lenS⟩, ⟨some 94, [.tv 90, .tv 93], some (88, false),
  none, .bin .neq⟩, I_ 95 [.tv 88, .cv (.bool true), .tv 94] .pick]) (.cond (.sl 95) (.seq (.reg false [I_ 6 [.cv (.bool false)] .mv]) .ret) .skip)) (.seq (.seq (.reg false [I_ 96 [.tk 8] .mv, I_ 97 [.tk 96] .lenS, I_ 98 [.tv 97,
  .cv (.int .i64 0)] (.bin .eql), I_ 99 [.tk 98] .mv, ⟨some 100, [.tk 9], some (99, false), none, .mv⟩, ⟨some 101, [.tk 100], some (99, false), none, .lenS⟩, ⟨some 102, [.tv 101, .cv (.int .i64 0)], some (99, false), none, .bin
  .eql⟩, I_ 103 [.tv 99, .cv (.bool true), .tv 102] .pick]) (.cond (.sl 103) (.seq (.reg false [I_ 104 [.tk 15] .mv, I_ 105 [.tk 10] .mv, I_ 106 [.cv (.func 52 [] []), .sl 104, .sl 105] (.call 3), I_ 107 [.tv 106] (.un .not), I_
  108 [.tk 107] .mv, ⟨some 109, [.cv (.func 20 [] [])], some (108, true), none, .call 3⟩, I_ 110 [.tv 108, .tv 109, .cv (.bool false)] .pick, I_ 6 [.tk 110] .mv]) .ret) .skip)) (.seq (.reg false [I_ 111 [.tk 13] .mv, I_ 112 [.tk
  7] .mv, I_ 113 [.tv 111, .tv 112] (.ia 1), I_ 114 [.tv 113] (.ld .one), I_ 115 [.sl 10] .mv, I_ 116 [.cv (.func 52 [] []), .sl 114, .sl 115] (.call 3), I_ 117 [.tk 116] .mv, ⟨some 118, [.tk 15], some (117, true), none, .mv⟩,
  ⟨some 119, [.tk 10], some (117, true), none, .mv⟩, ⟨some 120, [.cv (.func 52 [] []), .sl 118, .sl 119], some (117, true), none, .call 3⟩, I_ 121 [.tv 117, .tv 120, .cv (.bool false)] .pick, I_ 122 [.tk 121] .mv, ⟨some 123, [.cv
  (.func 20 [] [])], some (122, true), none, .call 3⟩, I_ 124 [.tv 122, .tv 123, .cv (.bool false)] .pick, I_ 6 [.tk 124] .mv]) .ret))))))))))))
theorem lk10 : linkF Go.Proofs.Try.prog ann10 10 = some (rc10, 125, [.tmp 6]) := by kernel_rfl
noncomputable def rc11 : RC :=
  .seq (.reg false [I_ 2 [.tk 0] .box, I_ 4 [.cv (.bool false)] .mv]) (.seq (.seq (.reg false [I_ 14 [.sl 2] (.ld (.str 1)), I_ 15 [.cv (.func 48 [] []), .sl 14] (.call 3), I_ 16 [.tv 15] (.un .not), I_ 17 [.tk 16] .mv, ⟨some 18,
  [.sl 1], some (17, false), none, .mv⟩, ⟨some 19, [.tk 18], some (17, false), none, .lenS⟩, ⟨some 20, [.tv 19, .cv (.int .i64 30)], some (17, false), none, .bin .gtr⟩, I_ 21 [.tv 17, .cv (.bool true), .tv 20] .pick]) (.cond (.sl
  21) (.seq (.reg false [I_ 22 [.cv (.func 20 [] [])] (.call 3), I_ 4 [.tk 22] .mv]) .ret) .skip)) (.seq (.reg false [I_ 24 [.sl 2] (.ld (.str 1)), I_ 25 [.cv (.func 49 [] []), .sl 24] (.call 3), I_ 23 [.tk 25] .mv, I_ 26 [.sl
  23] (.ext 0), I_ 27 [.tv 23] (.ext 1), I_ 5 [.tk 26] .mv, I_ 6 [.tk 27] .mv]) (.seq (.reg false [I_ 29 [.sl 2] (.ld (.str 1)), I_ 30 [.cv (.func 54 [] []), .sl 29] (.call 3), I_ 28 [.tk 30] .mv, I_ 31 [.sl 28] (.ext 0), I_ 32
  [.tv 28] (.ext 1), I_ 7 [.tk 31] .mv, I_ 8 [.tk 32] .mv]) (.seq (.reg false [I_ 33 [.sl 2] (.ld (.str 1)), I_ 34 [.tk 1] .mv, I_ 35 [.cv (.func 50 [] []), .sl 33, .sl 34] (.call 3), I_ 9 [.tk 35] .mv]) (.seq (.reg false [I_ 37
  [.sl 2] (.ld (.str 1)), I_ 38 [.sl 9] .mv, I_ 39 [.cv (.func 30 [] []), .sl 37, .sl 38] (.call 3), I_ 36 [.tk 39] .mv, I_ 40 [.sl 36] (.ext 0), I_ 41 [.tv 36] (.ext 1), I_ 10 [.tk 40] .mv, I_ 11 [.tk 41] .mv]) (.seq (.reg false
  [I_ 43 [.tv 2] (.ld (.str 1)), I_ 44 [.tk 9] .mv, I_ 45 [.cv (.func 21 [] []), .sl 43, .sl 44] (.call 3), I_ 42 [.tk 45] .mv, I_ 46 [.sl 42] (.ext 0), I_ 47 [.tv 42] (.ext 1), I_ 12 [.tk 46] .mv, I_ 13 [.tk 47] .mv]) (.seq
  (.reg false [I_ 48 [.tk 6] .mv, I_ 49 [.tk 48] .mv, ⟨some 50, [.tk 8], some (49, true), none, .mv⟩, I_ 51 [.tv 49, .tv 50, .cv (.bool false)] .pick, I_ 52 [.tk 51] .mv, ⟨some 53, [.tk 11], some (52, true), none, .mv⟩, ⟨some 54,
  [.tv 53, .cv (.int .i64 0)], some (52, true), none, .bin .eql⟩, I_ 55 [.tv 52, .tv 54, .cv (.bool false)] .pick, I_ 56 [.tk 55] .mv, ⟨some 57, [.tk 13], some (56, true), none, .mv⟩, ⟨some 58, [.tv 57, .cv (.int .i64 0)], some
  (56, true), none, .bin .eql⟩, I_ 59 [.tv 56, .tv 58, .cv (.bool false)] .pick, I_ 60 [.tk 59] .mv, ⟨some 61, [.sl 10], some (60, true), none, .mv⟩, ⟨some 62, [.tv 61, .cv (.int .i64 0)], some (60, true), none, .bin .geq⟩, I_ 63
  [.tv 60, .tv 62, .cv (.bool false)] .pick, I_ 64 [.tk 63] .mv, ⟨some 65, [.sl 10], some (64, true), none, .mv⟩, ⟨some 66, [.sl 7], some (64, true), none, .mv⟩, ⟨some 67, [.tv 65, .tv 66], some (64, true), none, .bin .leq⟩, I_
  68 [.tv 64, .tv 67, .cv (.bool false)] .pick, I_ 69 [.tk 68] .mv, ⟨some 70, [.tk 7], some (69, true), none, .mv⟩, ⟨some 71, [.tv 70, .cv (.int .i64 1)], some (69, true), none, .bin .geq⟩, ⟨some 72, [.tk 5], some (69, true),
  none, .mv⟩, ⟨some 73, [.tv 72, .cv (.int .i64 0)], some (69, true), none, .bin .eql⟩, ⟨some 74, [.tv 71, .tv 73], some (69, true), none, .binB false⟩, I_ 75 [.tv 69, .tv 74, .cv (.bool false)] .pick, I_ 76 [.tk 75] .mv, ⟨some
  77, [.tk 10], some (76, true), none, .mv⟩, ⟨some 78, [.tv 77, .cv (.int .i64 1)], some (76, true), none, .bin .geq⟩, ⟨some 79, [.tk 12], some (76, true), none, .mv⟩, ⟨some 80, [.tv 79, .cv (.int .i64 0)], some (76, true), none,
  .bin .eql⟩, ⟨some 81, [.tv 78, .tv 80], some (76, true), none, .binB false⟩, I_ 82 [.tv 76, .tv 81, .cv (.bool false)] .pick, I_ 83 [.tk 82] .mv, ⟨some 84, [.cv (.func 20 [] [])], some (83, true), none, .call 3⟩, I_ 85 [.tv 83,
  .tv 84, .cv (.bool false)] .pick, I_ 4 [.tk 85] .mv]) .ret)))))))
theorem lk11 : linkF Go.Proofs.Try.prog ann11 11 = some (rc11, 86, [.tmp 4]) := by kernel_rfl
noncomputable def rc12 : RC :=
  .seq (.reg false [I_ 2 [.tk 0] .box, I_ 4 [.cv (.bool false)] .mv]) (.seq (.seq (.reg false [I_ 28 [.sl 2] (.ld (.str 1)), I_ 29 [.cv (.func 48 [] []), .sl 28] (.call 3), I_ 30 [.tv 29] (.un .not), I_ 31 [.tk 30] .mv, ⟨some 32,
  [.sl 1], some (31, false), none, .mv⟩, ⟨some 33, [.tk 32], some (31, false), none, .lenS⟩, ⟨some 34, [.tv 33, .cv (.int .i64 30)], some (31, false), none, .bin .gtr⟩, I_ 35 [.tv 31, .cv (.bool true), .tv 34] .pick]) (.cond (.sl
  35) (.seq (.reg false [I_ 36 [.cv (.func 20 [] [])] (.call 3), I_ 4 [.tk 36] .mv]) .ret) .skip)) (.seq (.reg false [I_ 37 [.sl 2] (.ld (.str 1)), I_ 38 [.tk 1] .mv, I_ 39 [.cv (.func 50 [] []), .sl 37, .sl 38] (.call 3), I_ 5
  [.tk 39] .mv]) (.seq (.reg false [I_ 6 [.cv (.lst [] 0 .full)] (.nil 1)]) (.seq (.seq (.reg false [I_ 7 [.cv (.int .i64 0)] .mv]) (.block 0 (.loop (some [false, false, true, false, false, true, true, true, false, false, false,
  false, false, false, false, false, false, false, false, false, false, false, false, false, false, false, false, false, false, false, false, false, false, false, false, false, false, false, false, false, false, false, false,
  false, false, false, false, false, false, false, false, false, false, false, false, false, false, false, false, false, false, false, false, false, false, false, false, false, false, false, false, false, false, false, false,
  false, false, false, false, false, false, false, false, false, false, false, false, false, false, false, false, false, false, false, false, false, false, false, false, false, false, false, false, false, false, false, false,
  false, false, false, false, false, false, false, false, false, false, false, false, false, false, false, false, false, false, false, false, false, false, false, false, false, false, false, false, false, false, false, false,
  false, false, false, false, false, false, false, false, false, false, false, false, false, false, false, false, false, false, false, false, false, false, false, false, false, false, false, false, false, false, false, false,
  false, false, false, false, false, false, false, false, false, false, false, false, false, false, false, false, false, false, false, false, false, false, false, false, false, false, false, false, false, false, false, false,
  false, false, false, false, false, false, false, false, false, false, false, false, false, false, false, false, false, false, false, false, false, false, false, false, false, false, false, false, false, false, false, false,
  false, false, false, false, false, false, false, false, false, false, false, false, false, false, false, false, false, false, false, false, false, false, false, false, false, false, false, false, false, false, false, false,
  false, false, false, false, false, false, false, false, false]) (.seq (.seq (.reg false [I_ 40 [.sl 7] .mv, I_ 41 [.sl 5] .mv, I_ 42 [.tk 41] .lenS, I_ 43 [.tv 40, .tv 42] (.bin .lss)]) (.cond (.sl 43) .skip (.exit 0))) (.seq
  (.block 1 (.reg false [I_ 46 [.tk 6] .mv, I_ 47 [.sl 5] .mv, I_ 48 [.sl 7] .mv, I_ 49 [.tv 47, .tv 48] (.ia 1), I_ 50 [.tv 49] (.ld .one), I_ 51 [.cv (.func 55 [] []), .sl 50] (.call 3), I_ 52 [.tv 51] (.buildS 1 1 [.lst [] 0
  .full] [0]), I_ 53 [.tk 46, .tk 52] (.app 1 24), I_ 6 [.tk 53] .mv])) (.reg false [I_ 44 [.tk 7] .mv, I_ 45 [.tv 44, .cv (.int .i64 1)] (.bin .add), I_ 7 [.tk 45] .mv])))))) (.seq (.reg false [I_ 54 [.sl 2] (.fa 0), I_ 55 [.tv
  54] (.ld .one), I_ 56 [.tv 55, .cv (.int .i64 0)] (.ia 1), I_ 57 [.tv 56] (.ld .one), I_ 58 [.cv (.func 53 [] []), .sl 57] (.call 3), I_ 8 [.tk 58] .mv]) (.seq (.reg false [I_ 60 [.sl 2] (.ld (.str 1)), I_ 61 [.sl 5] .mv, I_ 62
  [.cv (.func 21 [] []), .sl 60, .sl 61] (.call 3), I_ 59 [.tk 62] .mv, I_ 63 [.sl 59] (.ext 0), I_ 64 [.tv 59] (.ext 1), I_ 9 [.tk 63] .mv, I_ 10 [.tk 64] .mv]) (.seq (.reg false [I_ 66 [.sl 2] (.ld (.str 1)), I_ 67 [.sl 6] .mv,
  I_ 68 [.cv (.func 21 [] []), .sl 66, .sl 67] (.call 3), I_ 65 [.tk 68] .mv, I_ 69 [.sl 65] (.ext 0), I_ 70 [.tv 65] (.ext 1), I_ 11 [.tk 69] .mv, I_ 12 [.tk 70] .mv]) (.seq (.reg false [I_ 72 [.sl 2] (.ld (.str 1)), I_ 73 [.sl
  5] .mv, I_ 74 [.cv (.func 30 [] []), .sl 72, .sl 73] (.call 3), I_ 71 [.tk 74] .mv, I_ 75 [.sl 71] (.ext 0), I_ 76 [.tv 71] (.ext 1), I_ 13 [.tk 75] .mv, I_ 14 [.tk 76] .mv]) (.seq (.reg false [I_ 78 [.sl 2] (.ld (.str 1)), I_
  79 [.sl 6] .mv, I_ 80 [.cv (.func 30 [] []), .sl 78, .sl 79] (.call 3), I_ 77 [.tk 80] .mv, I_ 81 [.sl 77] (.ext 0), I_ 82 [.tv 77] (.ext 1), I_ 15 [.tk 81] .mv, I_ 16 [.tk 82] .mv]) (.seq (.reg false [I_ 84 [.sl 2] (.ld (.str
  1)), I_ 85 [.sl 5] .mv, I_ 86 [.cv (.func 28 [] []), .sl 84, .sl 85] (.call 3), I_ 83 [.tk 86] .mv, I_ 87 [.sl 83] (.ext 0), I_ 88 [.tv 83] (.ext 1), I_ 17 [.tk 87] .mv, I_ 18 [.tk 88] .mv]) (.seq (.reg false [I_ 90 [.sl 2]
  (.ld (.str 1)), I_ 91 [.sl 6] .mv, I_ 92 [.cv (.func 28 [] []), .sl 90, .sl 91] (.call 3), I_ 89 [.tk 92] .mv, I_ 93 [.sl 89] (.ext 0), I_ 94 [.tv 89] (.ext 1), I_ 19 [.tk 93] .mv, I_ 20 [.tk 94] .mv]) (.seq (.reg false [I_ 96
  [.sl 2] (.ld (.str 1)), I_ 97 [.sl 5] .mv, I_ 98 [.cv (.func 23 [] []), .sl 96, .sl 97] (.call 3), I_ 95 [.tk 98] .mv, I_ 99 [.sl 95] (.ext 0), I_ 100 [.tv 95] (.ext 1), I_ 21 [.tk 99] .mv, I_ 22 [.tk 100] .mv]) (.seq (.reg
  false [I_ 102 [.tv 2] (.ld (.str 1)), I_ 103 [.tk 6] .mv, I_ 104 [.cv (.func 23 [] []), .sl 102, .sl 103] (.call 3), I_ 101 [.tk 104] .mv, I_ 105 [.sl 101] (.ext 0), I_ 106 [.tv 101] (.ext 1), I_ 23 [.tk 105] .mv, I_ 24 [.tk
  106] .mv]) (.seq (.seq (.reg false [I_ 107 [.tk 10] .mv, I_ 108 [.tv 107, .cv (.int .i64 0)] (.bin .neq), I_ 109 [.tk 108] .mv, ⟨some 110, [.tk 12], some (109, false), none, .mv⟩, ⟨some 111, [.tv 110, .cv (.int .i64 0)], some
  (109, false), none, .bin .neq⟩, I_ 112 [.tv 109, .cv (.bool true), .tv 111] .pick, I_ 113 [.tk 112] .mv, ⟨some 114, [.tk 14], some (113, false), none, .mv⟩, ⟨some 115, [.tv 114, .cv (.int .i64 0)], some (113, false), none, .bin
  .neq⟩, I_ 116 [.tv 113, .cv (.bool true), .tv 115] .pick, I_ 117 [.tk 116] .mv, ⟨some 118, [.tk 16], some (117, false), none, .mv⟩, ⟨some 119, [.tv 118, .cv (.int .i64 0)], some (117, false), none, .bin .neq⟩, I_ 120 [.tv 117,
  .cv (.bool true), .tv 119] .pick, I_ 121 [.tk 120] .mv, ⟨some 122, [.tk 18], some (121, false), none, .mv⟩, ⟨some 123, [.tv 122, .cv (.int .i64 0)], some (121, false), none, .bin .neq⟩, I_ 124 [.tv 121, .cv (.bool true), .tv
  123] .pick, I_ 125 [.tk 124] .mv, ⟨some 126, [.tk 20], some (125, false), none, .mv⟩, ⟨some 127, [.tv 126, .cv (.int .i64 0)], some (125, false), none, .bin .neq⟩, I_ 128 [.tv 125, .cv (.bool true), .tv 127] .pick, I_ 129 [.tk
  128] .mv, ⟨some 130, [.tk 22], some (129, false), none, .mv⟩, ⟨some 131, [.tv 130, .cv (.int .i64 0)], some (129, false), none, .bin .neq⟩, I_ 132 [.tv 129, .cv (.bool true), .tv 131] .pick, I_ 133 [.tk 132] .mv, ⟨some 134,
  [.tk 24], some (133, false), none, .mv⟩, ⟨some 135, [.tv 134, .cv (.int .i64 0)], some (133, false), none, .bin .neq⟩, I_ 136 [.tv 133, .cv (.bool true), .tv 135] .pick, I_ 137 [.tk 136] .mv, ⟨some 138, [.tk 9], some (137,
  false), none, .mv⟩, ⟨some 139, [.tk 11], some (137, false), none, .mv⟩, ⟨some 140, [.tv 138, .tv 139], some (137, false), none, .bin .neq⟩, I_ 141 [.tv 137, .cv (.bool true), .tv 140] .pick, I_ 142 [.tk 141] .mv, ⟨some 143,
  [.tk 13], some (142, false), none, .mv⟩, ⟨some 144, [.tk 15], some (142, false), none, .mv⟩, ⟨some 145, [.tv 143, .tv 144], some (142, false), none, .bin .neq⟩, I_ 146 [.tv 142, .cv (.bool true), .tv 145] .pick, I_ 147 [.tk
  146] .mv, ⟨some 148, [.sl 17], some (147, false), none, .mv⟩, ⟨some 149, [.tk 148], some (147, false), none, .lenS⟩, ⟨some 150, [.sl 19], some (147, false), none, .mv⟩, ⟨some 151, [.tk 150], some (147, false), none, .lenS⟩,
  ⟨some 152, [.tv 149, .tv 151], some (147, false), none, .bin .neq⟩, I_ 153 [.tv 147, .cv (.bool true), .tv 152] .pick, I_ 154 [.tk 153] .mv, ⟨some 155, [.sl 21], some (154, false), none, .mv⟩, ⟨some 156, [.tk 155], some (154,
  false), none, .lenS⟩, ⟨some 157, [.sl 5], some (154, false), none, .mv⟩, ⟨some 158, [.tk 157], some (154, false), none, .lenS⟩, ⟨some 159, [.tv 156, .tv 158], some (154, false), none, .bin .neq⟩, I_ 160 [.tv 154, .cv (.bool
  true), .tv 159] .pick, I_ 161 [.tk 160] .mv, ⟨some 162, [.sl 23], some (161, false), none, .mv⟩, ⟨some 163, [.tk 162], some (161, false), none, .lenS⟩, ⟨some 164, [.tk 5], some (161, false), none, .mv⟩, ⟨some 165, [.tk 164],
  some (161, false), none, .lenS⟩, ⟨some 166, [.tv 163, .tv 165], some (161, false), none, .bin .neq⟩, I_ 167 [.tv 161, .cv (.bool true), .tv 166] .pick]) (.cond (.sl 167) (.seq (.reg false [I_ 4 [.cv (.bool false)] .mv]) .ret)
  .skip)) (.seq (.seq (.reg false [I_ 25 [.cv (.int .i64 0)] .mv]) (.block 2 (.loop (some [false, false, false, false, false, false, false, false, true, false, false, false, false, false, false, false, false, true, false, true,
  false, true, false, true, false, true, false, false, false, false, false, false, false, false, false, false, false, false, false, false, false, false, false, false, false, false, false, false, false, false, false, false, false,
  false, false, false, false, false, false, false, false, false, false, false, false, false, false, false, false, false, false, false, false, false, false, false, false, false, false, false, false, false, false, false, false,
  false, false, false, false, false, false, false, false, false, false, false, false, false, false, false, false, false, false, false, false, false, false, false, false, false, false, false, false, false, false, false, false,
  false, false, false, false, false, false, false, false, false, false, false, false, false, false, false, false, false, false, false, false, false, false, false, false, false, false, false, false, false, false, false, false,
  false, false, false, false, false, false, false, false, false, false, false, false, false, false, false, false, false, false, false, false, false, false, false, false, false, false, false, false, false, false, false, false,
  false, false, false, false, false, false, false, false, false, false, false, false, false, false, false, false, false, false, false, false, false, false, false, false, false, false, false, false, false, false, false, false,
  false, false, false, false, false, false, false, false, false, false, false, false, false, false, false, false, false, false, false, false, false, false, false, false, false, false, false, false, false, false, false, false,
  false, false, false, false, false, false, false, false, false, false, false, false, false, false, false, false, false, false, false, false, false, false, false, false, false, false, false, false, false, false, false]) (.seq
  (.seq (.reg false [I_ 168 [.sl 25] .mv, I_ 169 [.sl 17] .mv, I_ 170 [.tk 169] .lenS, I_ 171 [.tv 168, .tv 170] (.bin .lss)]) (.cond (.sl 171) .skip (.exit 2))) (.seq (.block 3 (.seq (.reg true [I_ 174 [.sl 17] .mv, I_ 175 [.sl
  25] .mv, I_ 176 [.tv 174, .tv 175] (.ia 1), I_ 177 [.tv 176] (.ld .one), I_ 178 [.tv 177, .cv (.int .i64 1)] (.bin .lss), I_ 179 [.tk 178] .mv, ⟨some 180, [.sl 17], some (179, false), none, .mv⟩, ⟨some 181, [.sl 25], some (179,
  false), none, .mv⟩, ⟨some 182, [.tv 180, .tv 181], some (179, false), none, .ia 1⟩, ⟨some 183, [.tv 182], some (179, false), none, .ld .one⟩, ⟨some 184, [.sl 8], some (179, false), none, .mv⟩, ⟨some 185, [.tv 183, .tv 184],
  some (179, false), none, .bin .geq⟩, I_ 186 [.sl 179, .cv (.bool true), .tv 185] .pick, I_ 187 [.tk 186] .mv, ⟨some 188, [.sl 19], some (187, false), none, .mv⟩, ⟨some 189, [.sl 19], some (187, false), none, .mv⟩, ⟨some 190,
  [.tk 189], some (187, false), none, .lenS⟩, ⟨some 191, [.tv 190, .cv (.int .i64 1)], some (187, false), none, .bin .sub⟩, ⟨some 192, [.sl 25], some (187, false), none, .mv⟩, ⟨some 193, [.tv 191, .tv 192], some (187, false),
  none, .bin .sub⟩, ⟨some 194, [.tv 188, .tv 193], some (187, false), none, .ia 1⟩, ⟨some 195, [.tv 194], some (187, false), none, .ld .one⟩, ⟨some 196, [.sl 8], some (187, false), none, .mv⟩, ⟨some 197, [.sl 17], some (187,
  false), none, .mv⟩, ⟨some 198, [.sl 25], some (187, false), none, .mv⟩, ⟨some 199, [.tv 197, .tv 198], some (187, false), none, .ia 1⟩, ⟨some 200, [.tv 199], some (187, false), none, .ld .one⟩, ⟨some 201, [.tv 196, .tv 200],
  some (187, false), none, .bin .sub⟩, ⟨some 202, [.tv 195, .tv 201], some (187, false), none, .bin .neq⟩, I_ 203 [.sl 187, .cv (.bool true), .tv 202] .pick]) (.cond (.sl 203) (.seq (.reg false [I_ 4 [.cv (.bool false)] .mv])
  .ret) .skip))) (.reg false [I_ 172 [.tk 25] .mv, I_ 173 [.tv 172, .cv (.int .i64 1)] (.bin .add), I_ 25 [.tk 173] .mv])))))) (.seq (.seq (.reg false [I_ 26 [.cv (.int .i64 0)] .mv]) (.block 4 (.loop (some [false, false, false,
  false, false, false, false, false, true, false, false, false, false, false, false, false, false, false, false, false, false, true, false, true, false, false, true, false, false, false, false, false, false, false, false, false,
  false, false, false, false, false, false, false, false, false, false, false, false, false, false, false, false, false, false, false, false, false, false, false, false, false, false, false, false, false, false, false, false,
  false, false, false, false, false, false, false, false, false, false, false, false, false, false, false, false, false, false, false, false, false, false, false, false, false, false, false, false, false, false, false, false,
  false, false, false, false, false, false, false, false, false, false, false, false, false, false, false, false, false, false, false, false, false, false, false, false, false, false, false, false, false, false, false, false,
  false, false, false, false, false, false, false, false, false, false, false, false, false, false, false, false, false, false, false, false, false, false, false, false, false, false, false, false, false, false, false, false,
  false, false, false, false, false, false, false, false, false, false, false, false, false, false, false, false, false, false, false, false, false, false, false, false, false, false, false, false, false, false, false, false,
  false, false, false, false, false, false, false, false, false, false, false, false, false, false, false, false, false, false, false, false, false, false, false, false, false, false, false, false, false, false, false, false,
  false, false, false, false, false, false, false, false, false, false, false, false, false, false, false, false, false, false, false, false, false, false, false, false, false, false, false, false, false, false, false, false,
  false, false, false, false, false, false, false, false, false, false, false, false, false, false, false, false]) (.seq (.seq (.reg false [I_ 204 [.sl 26] .mv, I_ 205 [.sl 21] .mv, I_ 206 [.tk 205] .lenS, I_ 207 [.tv 204, .tv
  206] (.bin .lss)]) (.cond (.sl 207) .skip (.exit 4))) (.seq (.block 5 (.seq (.seq (.reg true [I_ 210 [.sl 21] .mv, I_ 211 [.sl 26] .mv, I_ 212 [.tv 210, .tv 211] (.ia 1), I_ 213 [.tv 212] (.ld .one), I_ 214 [.tk 213] .lenS, I_
  215 [.sl 23] .mv, I_ 216 [.sl 26] .mv, I_ 217 [.tv 215, .tv 216] (.ia 1), I_ 218 [.tv 217] (.ld .one), I_ 219 [.tk 218] .lenS, I_ 220 [.tv 214, .tv 219] (.bin .neq)]) (.cond (.sl 220) (.seq (.reg false [I_ 4 [.cv (.bool false)]
  .mv]) .ret) .skip)) (.seq (.reg false [I_ 27 [.cv (.int .i64 0)] .mv]) (.block 6 (.loop (some [false, false, false, false, false, false, false, false, true, false, false, false, false, false, false, false, false, false, false,
  false, false, true, false, true, false, false, true, true, false, false, false, false, false, false, false, false, false, false, false, false, false, false, false, false, false, false, false, false, false, false, false, false,
  false, false, false, false, false, false, false, false, false, false, false, false, false, false, false, false, false, false, false, false, false, false, false, false, false, false, false, false, false, false, false, false,
  false, false, false, false, false, false, false, false, false, false, false, false, false, false, false, false, false, false, false, false, false, false, false, false, false, false, false, false, false, false, false, false,
  false, false, false, false, false, false, false, false, false, false, false, false, false, false, false, false, false, false, false, false, false, false, false, false, false, false, false, false, false, false, false, false,
  false, false, false, false, false, false, false, false, false, false, false, false, false, false, false, false, false, false, false, false, false, false, false, false, false, false, false, false, false, false, false, false,
  false, false, false, false, false, false, false, false, false, false, false, false, false, false, false, false, false, false, false, false, false, false, false, false, false, false, false, false, false, false, false, false,
  false, false, false, false, false, false, false, false, false, false, false, false, false, false, false, false, false, false, false, false, false, false, false, false, false, false, false, false, false, false, false, false,
  false, false, false, false, false, false, false, false, false, false, false, false, false, false, false, false, false, false, false, false, false, false, false, false, false, false, false, false, false, false, false, false])
  (.seq (.seq (.reg false [I_ 221 [.sl 27] .mv, I_ 222 [.sl 21] .mv, I_ 223 [.sl 26] .mv, I_ 224 [.tv 222, .tv 223] (.ia 1), I_ 225 [.tv 224] (.ld .one), I_ 226 [.tk 225] .lenS, I_ 227 [.tv 221, .tv 226] (.bin .lss)]) (.cond (.sl
  227) .skip (.exit 6))) (.seq (.block 7 (.seq (.reg true [I_ 230 [.sl 21] .mv, I_ 231 [.sl 26] .mv, I_ 232 [.tv 230, .tv 231] (.ia 1), I_ 233 [.tv 232] (.ld .one), I_ 234 [.sl 27] .mv, I_ 235 [.tv 233, .tv 234] (.ia 1), I_ 236
  [.tv 235] (.ld .one), I_ 237 [.tv 236, .cv (.int .i64 1)] (.bin .lss), I_ 238 [.tk 237] .mv, ⟨some 239, [.sl 21], some (238, false), none, .mv⟩, ⟨some 240, [.sl 26], some (238, false), none, .mv⟩, ⟨some 241, [.tv 239, .tv 240],
  some (238, false), none, .ia 1⟩, ⟨some 242, [.tv 241], some (238, false), none, .ld .one⟩, ⟨some 243, [.sl 27], some (238, false), none, .mv⟩, ⟨some 244, [.tv 242, .tv 243], some (238, false), none, .ia 1⟩, ⟨some 245, [.tv
  244], some (238, false), none, .ld .one⟩, ⟨some 246, [.sl 8], some (238, false), none, .mv⟩, ⟨some 247, [.tv 245, .tv 246], some (238, false), none, .bin .geq⟩, I_ 248 [.sl 238, .cv (.bool true), .tv 247] .pick, I_ 249 [.tk
  248] .mv, ⟨some 250, [.sl 23], some (249, false), none, .mv⟩, ⟨some 251, [.sl 26], some (249, false), none, .mv⟩, ⟨some 252, [.tv 250, .tv 251], some (249, false), none, .ia 1⟩, ⟨some 253, [.tv 252], some (249, false), none,
  .ld .one⟩, ⟨some 254, [.sl 23], some (249, false), none, .mv⟩, ⟨some 255, [.sl 26], some (249, false), none, .mv⟩, ⟨some 256, [.tv 254, .tv 255], some (249, false), none, .ia 1⟩, ⟨some 257, [.tv 256], some (249, false), none,
  .ld .one⟩, ⟨some 258, [.tk 257], some (249, false), none, .lenS⟩, ⟨some 259, [.tv 258, .cv (.int .i64 1)], some (249, false), none, .bin .sub⟩, ⟨some 260, [.sl 27], some (249, false), none, .mv⟩, ⟨some 261, [.tv 259, .tv 260],
  some (249, false), none, .bin .sub⟩, ⟨some 262, [.tv 253, .tv 261], some (249, false), none, .ia 1⟩, ⟨some 263, [.tv 262], some (249, false), none, .ld .one⟩, ⟨some 264, [.sl 8], some (249, false), none, .mv⟩, ⟨some 265, [.sl
  21], some (249, false), none, .mv⟩, ⟨some 266, [.sl 26], some (249, false), none, .mv⟩, ⟨some 267, [.tv 265, .tv 266], some (249, false), none, .ia 1⟩, ⟨some 268, [.tv 267], some (249, false), none, .ld .one⟩, ⟨some 269, [.sl
  27], some (249, false), none, .mv⟩, ⟨some 270, [.tv 268, .tv 269], some (249, false), none, .ia 1⟩, ⟨some 271, [.tv 270], some (249, false), none, .ld .one⟩, ⟨some 272, [.tv 264, .tv 271], some (249, false), none, .bin .sub⟩,
  ⟨some 273, [.tv 263, .tv 272], some (249, false), none, .bin .neq⟩, I_ 274 [.sl 249, .cv (.bool true), .tv 273] .pick]) (.cond (.sl 274) (.seq (.reg false [I_ 4 [.cv (.bool false)] .mv]) .ret) .skip))) (.reg false [I_ 228 [.tk
  27] .mv, I_ 229 [.tv 228, .cv (.int .i64 1)] (.bin .add), I_ 27 [.tk 229] .mv])))))))) (.reg false [I_ 208 [.tk 26] .mv, I_ 209 [.tv 208, .cv (.int .i64 1)] (.bin .add), I_ 26 [.tk 209] .mv])))))) (.seq (.reg false [I_ 275 [.cv
  (.func 20 [] [])] (.call 3), I_ 4 [.tk 275] .mv]) .ret)))))))))))))))))
theorem lk12 : linkF Go.Proofs.Try.prog ann12 12 = some (rc12, 276, [.tmp 4]) := by kernel_rfl
noncomputable def rc13 : RC :=
  .seq (.reg false [I_ 2 [.tk 0] .box, I_ 4 [.cv (.bool false)] .mv]) (.seq (.seq (.reg false [I_ 21 [.sl 2] (.ld (.str 1)), I_ 22 [.cv (.func 48 [] []), .sl 21] (.call 3), I_ 23 [.tv 22] (.un .not)]) (.cond (.sl 23) (.seq (.reg
  false [I_ 24 [.cv (.func 20 [] [])] (.call 3), I_ 4 [.tk 24] .mv]) .ret) .skip)) (.seq (.reg false [I_ 5 [] (.alloc [.lst [] 0 .full])]) (.seq (.reg false [I_ 25 [.sl 2] (.fa 0), I_ 26 [.tv 25] (.ld .one), I_ 27 [.tk 26] .lenS,
  I_ 6 [.tk 27] .mv]) (.seq (.seq (.reg false [I_ 28 [.sl 6] .mv, I_ 29 [.tv 28, .cv (.int .i64 1)] (.bin .sub), I_ 7 [.tk 29] .mv]) (.block 0 (.loop (some [false, true, true, false, false, true, true, true, false, false, false,
  false, false, false, false, false, false, false, false, false, false, false, false, false, false, false, false, false, false, false, false, false, false, false, false, false, false, false, false, false, false, false, false,
  false, false, false, false, false, false, false, false, false, false, false, false, false, false, false, false, false, false, false, false, false, false, false, false, false, false, false, false, false, false, false, false,
  false, false, false, false, false, false, false, false, false, false, false, false, false, false, false, false, false, false, false, false, false, false, false, false, false, false, false, false, false, false, false, false,
  false, false, false, false, false, false, false, false, false, false, false, false, false]) (.seq (.seq (.reg false [I_ 30 [.sl 7] .mv, I_ 31 [.tv 30, .cv (.int .i64 0)] (.bin .geq)]) (.cond (.sl 31) .skip (.exit 0))) (.seq
  (.block 1 (.reg true [I_ 34 [.sl 5] (.fa 0), I_ 35 [.tv 34] (.ld .one), I_ 36 [.sl 2] (.fa 0), I_ 37 [.tv 36] (.ld .one), I_ 38 [.sl 7] .mv, I_ 39 [.tv 37, .tv 38] (.ia 1), I_ 40 [.tv 39] (.ld .one), I_ 41 [.tv 40] (.buildS 1 1
  [.lst [] 0 .full] [0]), I_ 42 [.tk 35, .tk 41] (.app 1 24), I_ 43 [.sl 5] (.fa 0), ⟨none, [.tk 43, .tk 42], none, none, .st 1⟩])) (.reg false [I_ 32 [.tk 7] .mv, I_ 33 [.tv 32, .cv (.int .i64 1)] (.bin .sub), I_ 7 [.tk 33]
  .mv])))))) (.seq (.reg false [I_ 45 [.sl 2] (.ld (.str 1)), I_ 46 [.cv (.func 49 [] []), .sl 45] (.call 3), I_ 44 [.tk 46] .mv, I_ 47 [.sl 44] (.ext 0), I_ 48 [.tv 44] (.ext 1), I_ 8 [.tk 47] .mv, I_ 9 [.tk 48] .mv]) (.seq
  (.reg false [I_ 50 [.sl 5] (.ld (.str 1)), I_ 51 [.cv (.func 49 [] []), .sl 50] (.call 3), I_ 49 [.tk 51] .mv, I_ 52 [.sl 49] (.ext 0), I_ 53 [.tv 49] (.ext 1), I_ 10 [.tk 52] .mv, I_ 11 [.tk 53] .mv]) (.seq (.reg false [I_ 55
  [.sl 2] (.ld (.str 1)), I_ 56 [.cv (.func 54 [] []), .sl 55] (.call 3), I_ 54 [.tk 56] .mv, I_ 57 [.sl 54] (.ext 0), I_ 58 [.tv 54] (.ext 1), I_ 12 [.tk 57] .mv, I_ 13 [.tk 58] .mv]) (.seq (.reg false [I_ 60 [.sl 5] (.ld (.str
  1)), I_ 61 [.cv (.func 54 [] []), .sl 60] (.call 3), I_ 59 [.tk 61] .mv, I_ 62 [.sl 59] (.ext 0), I_ 63 [.tv 59] (.ext 1), I_ 14 [.tk 62] .mv, I_ 15 [.tk 63] .mv]) (.seq (.reg false [I_ 64 [.tk 1] .mv, I_ 65 [.tv 64] (.conv
  .i64), I_ 66 [.sl 6] .mv, I_ 67 [.tv 66, .cv (.int .i64 1)] (.bin .sub), I_ 68 [.tv 65, .tv 67] (.bin .rem), I_ 16 [.tk 68] .mv]) (.seq (.reg false [I_ 70 [.tv 2] (.ld (.str 1)), I_ 71 [.sl 16] .mv, I_ 72 [.cv (.func 37 [] []),
  .sl 70, .sl 71] (.call 3), I_ 69 [.tk 72] .mv, I_ 73 [.sl 69] (.ext 0), I_ 74 [.tv 69] (.ext 1), I_ 17 [.tk 73] .mv, I_ 18 [.tk 74] .mv]) (.seq (.reg false [I_ 76 [.tv 5] (.ld (.str 1)), I_ 77 [.tk 6] .mv, I_ 78 [.tv 77, .cv
  (.int .i64 2)] (.bin .sub), I_ 79 [.tk 16] .mv, I_ 80 [.tv 78, .tv 79] (.bin .sub), I_ 81 [.cv (.func 37 [] []), .sl 76, .sl 80] (.call 3), I_ 75 [.tk 81] .mv, I_ 82 [.sl 75] (.ext 0), I_ 83 [.tv 75] (.ext 1), I_ 19 [.tk 82]
  .mv, I_ 20 [.tk 83] .mv]) (.seq (.reg false [I_ 84 [.tk 9] .mv, I_ 85 [.tk 84] .mv, ⟨some 86, [.tk 11], some (85, true), none, .mv⟩, I_ 87 [.tv 85, .tv 86, .cv (.bool false)] .pick, I_ 88 [.tk 87] .mv, ⟨some 89, [.tk 13], some
  (88, true), none, .mv⟩, I_ 90 [.tv 88, .tv 89, .cv (.bool false)] .pick, I_ 91 [.tk 90] .mv, ⟨some 92, [.tk 15], some (91, true), none, .mv⟩, I_ 93 [.tv 91, .tv 92, .cv (.bool false)] .pick, I_ 94 [.tk 93] .mv, ⟨some 95, [.tk
  8], some (94, true), none, .mv⟩, ⟨some 96, [.tk 10], some (94, true), none, .mv⟩, ⟨some 97, [.tv 95, .tv 96], some (94, true), none, .bin .eql⟩, I_ 98 [.tv 94, .tv 97, .cv (.bool false)] .pick, I_ 99 [.tk 98] .mv, ⟨some 100,
  [.tk 12], some (99, true), none, .mv⟩, ⟨some 101, [.tk 14], some (99, true), none, .mv⟩, ⟨some 102, [.tv 100, .tv 101], some (99, true), none, .bin .eql⟩, I_ 103 [.tv 99, .tv 102, .cv (.bool false)] .pick, I_ 104 [.tk 103] .mv,
  ⟨some 105, [.tk 18], some (104, true), none, .mv⟩, ⟨some 106, [.tv 105, .cv (.int .i64 0)], some (104, true), none, .bin .eql⟩, I_ 107 [.tv 104, .tv 106, .cv (.bool false)] .pick, I_ 108 [.tk 107] .mv, ⟨some 109, [.tk 20], some
  (108, true), none, .mv⟩, ⟨some 110, [.tv 109, .cv (.int .i64 0)], some (108, true), none, .bin .eql⟩, I_ 111 [.tv 108, .tv 110, .cv (.bool false)] .pick, I_ 112 [.tk 111] .mv, ⟨some 113, [.tk 17], some (112, true), none, .mv⟩,
  ⟨some 114, [.tk 19], some (112, true), none, .mv⟩, ⟨some 115, [.tv 113, .tv 114], some (112, true), none, .bin .eql⟩, I_ 116 [.tv 112, .tv 115, .cv (.bool false)] .pick, I_ 117 [.tk 116] .mv, ⟨some 118, [.cv (.func 20 [] [])],
  some (117, true), none, .call 3⟩, I_ 119 [.tv 117, .tv 118, .cv (.bool false)] .pick, I_ 4 [.tk 119] .mv]) .ret))))))))))))
theorem lk13 : linkF Go.Proofs.Try.prog ann13 13 = some (rc13, 120, [.tmp 4]) := by kernel_rfl
noncomputable def rc14 : RC :=
  .seq (.reg false [I_ 3 [.tk 0] .box, I_ 6 [.cv (.bool false)] .mv]) (.seq (.seq (.reg false [I_ 30 [.sl 3] (.ld (.str 1)), I_ 31 [.cv (.func 48 [] []), .sl 30] (.call 3), I_ 32 [.tv 31] (.un .not), I_ 33 [.tk 32] .mv, ⟨some 34,
  [.sl 1], some (33, false), none, .mv⟩, ⟨some 35, [.tk 34], some (33, false), none, .lenS⟩, ⟨some 36, [.tv 35, .cv (.int .i64 30)], some (33, false), none, .bin .gtr⟩, I_ 37 [.tv 33, .cv (.bool true), .tv 36] .pick]) (.cond (.sl
  37) (.seq (.reg false [I_ 38 [.cv (.func 20 [] [])] (.call 3), I_ 6 [.tk 38] .mv]) .ret) .skip)) (.seq (.reg false [I_ 39 [.tk 2] .mv, I_ 40 [.tv 39, .cv (.int .u8 3)] (.bin .rem), I_ 41 [.tv 40] (.conv .i64), I_ 42 [.cv (.int
  .i64 2), .tv 41] (.bin .add), I_ 7 [.tk 42] .mv]) (.seq (.reg false [I_ 8 [] (.alloc [.lst [] 0 .full])]) (.seq (.seq (.reg false [I_ 9 [.cv (.int .i64 0)] .mv]) (.block 0 (.loop (some [false, true, false, true, false, false,
  false, true, true, true, false, false, false, false, false, false, false, false, false, false, false, false, false, false, false, false, false, false, false, false, false, false, false, false, false, false, false, false, false,
  false, false, false, false, false, false, false, false, false, false, false, false, false, false, false, false, false, false, false, false, false, false, false, false, false, false, false, false, false, false, false, false,
  false, false, false, false, false, false, false, false, false, false, false, false, false, false, false, false, false, false, false, false, false, false, false, false, false, false, false, false, false, false, false, false,
  false, false, false, false, false, false, false, false, false, false, false, false, false, false, false, false, false, false, false, false, false, false, false, false, false, false, false, false, false, false, false, false,
  false, false, false, false, false, false, false, false, false, false, false, false, false, false, false, false, false, false, false, false, false, false, false, false, false, false, false, false, false, false, false, false,
  false, false, false, false, false, false, false, false, false, false, false, false, false, false, false, false, false, false, false, false, false, false, false, false, false, false, false, false, false, false]) (.seq (.seq
  (.reg false [I_ 43 [.sl 9] .mv, I_ 44 [.sl 3] (.fa 0), I_ 45 [.tv 44] (.ld .one), I_ 46 [.tk 45] .lenS, I_ 47 [.tv 43, .tv 46] (.bin .lss)]) (.cond (.sl 47) .skip (.exit 0))) (.seq (.block 1 (.seq (.reg false [I_ 10 [.cv (.lst
  [] 0 .full)] (.nil 1)]) (.seq (.seq (.reg false [I_ 11 [.cv (.int .i64 0)] .mv]) (.block 2 (.loop (some [false, true, false, true, false, false, false, true, true, true, true, true, false, false, false, false, false, false,
  false, false, false, false, false, false, false, false, false, false, false, false, false, false, false, false, false, false, false, false, false, false, false, false, false, false, false, false, false, false, false, false,
  false, false, false, false, false, false, false, false, false, false, false, false, false, false, false, false, false, false, false, false, false, false, false, false, false, false, false, false, false, false, false, false,
  false, false, false, false, false, false, false, false, false, false, false, false, false, false, false, false, false, false, false, false, false, false, false, false, false, false, false, false, false, false, false, false,
  false, false, false, false, false, false, false, false, false, false, false, false, false, false, false, false, false, false, false, false, false, false, false, false, false, false, false, false, false, false, false, false,
  false, false, false, false, false, false, false, false, false, false, false, false, false, false, false, false, false, false, false, false, false, false, false, false, false, false, false, false, false, false, false, false,
  false, false, false, false, false, false, false, false, false, false, false, false, false, false, false, false, false, false, false]) (.seq (.seq (.reg false [I_ 50 [.sl 11] .mv, I_ 51 [.sl 3] (.fa 0), I_ 52 [.tv 51] (.ld
  .one), I_ 53 [.sl 9] .mv, I_ 54 [.tv 52, .tv 53] (.ia 1), I_ 55 [.tv 54] (.ld .one), I_ 56 [.tk 55] .lenS, I_ 57 [.tv 50, .tv 56] (.bin .lss)]) (.cond (.sl 57) .skip (.exit 2))) (.seq (.block 3 (.reg false [I_ 60 [.tk 10] .mv,
  I_ 61 [.sl 7] .mv, I_ 62 [.sl 3] (.fa 0), I_ 63 [.tv 62] (.ld .one), I_ 64 [.sl 9] .mv, I_ 65 [.tv 63, .tv 64] (.ia 1), I_ 66 [.tv 65] (.ld .one), I_ 67 [.sl 11] .mv, I_ 68 [.tv 66, .tv 67] (.ia 1), I_ 69 [.tv 68] (.ld .one),
  I_ 70 [.tv 61, .tv 69] (.bin .mul), I_ 71 [.tv 70] (.buildS 1 1 [.int .i64 0] [0]), I_ 72 [.tk 60, .tk 71] (.app 1 8), I_ 10 [.tk 72] .mv])) (.reg false [I_ 58 [.tk 11] .mv, I_ 59 [.tv 58, .cv (.int .i64 1)] (.bin .add), I_ 11
  [.tk 59] .mv])))))) (.reg false [I_ 73 [.sl 8] (.fa 0), I_ 74 [.tv 73] (.ld .one), I_ 75 [.tk 10] .mv, I_ 76 [.tv 75] (.buildS 1 1 [.lst [] 0 .full] [0]), I_ 77 [.tk 74, .tk 76] (.app 1 24), I_ 78 [.sl 8] (.fa 0), ⟨none, [.tk
  78, .tk 77], none, none, .st 1⟩])))) (.reg false [I_ 48 [.tk 9] .mv, I_ 49 [.tv 48, .cv (.int .i64 1)] (.bin .add), I_ 9 [.tk 49] .mv])))))) (.seq (.seq (.reg false [I_ 79 [.sl 8] (.ld (.str 1)), I_ 80 [.cv (.func 48 [] []),
  .sl 79] (.call 3), I_ 81 [.tv 80] (.un .not)]) (.cond (.sl 81) (.seq (.reg false [I_ 82 [.cv (.func 20 [] [])] (.call 3), I_ 6 [.tk 82] .mv]) .ret) .skip)) (.seq (.reg false [I_ 83 [.sl 3] (.ld (.str 1)), I_ 84 [.tk 1] .mv, I_
  85 [.cv (.func 50 [] []), .sl 83, .sl 84] (.call 3), I_ 12 [.tk 85] .mv]) (.seq (.reg false [I_ 87 [.sl 3] (.ld (.str 1)), I_ 88 [.sl 12] .mv, I_ 89 [.cv (.func 21 [] []), .sl 87, .sl 88] (.call 3), I_ 86 [.tk 89] .mv, I_ 90
  [.sl 86] (.ext 0), I_ 91 [.tv 86] (.ext 1), I_ 13 [.tk 90] .mv, I_ 14 [.tk 91] .mv]) (.seq (.reg false [I_ 93 [.sl 8] (.ld (.str 1)), I_ 94 [.sl 12] .mv, I_ 95 [.cv (.func 21 [] []), .sl 93, .sl 94] (.call 3), I_ 92 [.tk 95]
  .mv, I_ 96 [.sl 92] (.ext 0), I_ 97 [.tv 92] (.ext 1), I_ 15 [.tk 96] .mv, I_ 16 [.tk 97] .mv]) (.seq (.reg false [I_ 99 [.sl 3] (.ld (.str 1)), I_ 100 [.sl 12] .mv, I_ 101 [.cv (.func 30 [] []), .sl 99, .sl 100] (.call 3), I_
  98 [.tk 101] .mv, I_ 102 [.sl 98] (.ext 0), I_ 103 [.tv 98] (.ext 1), I_ 17 [.tk 102] .mv, I_ 18 [.tk 103] .mv]) (.seq (.reg false [I_ 105 [.sl 8] (.ld (.str 1)), I_ 106 [.tk 12] .mv, I_ 107 [.cv (.func 30 [] []), .sl 105, .sl
  106] (.call 3), I_ 104 [.tk 107] .mv, I_ 108 [.sl 104] (.ext 0), I_ 109 [.tv 104] (.ext 1), I_ 19 [.tk 108] .mv, I_ 20 [.tk 109] .mv]) (.seq (.reg false [I_ 111 [.sl 3] (.ld (.str 1)), I_ 112 [.cv (.func 49 [] []), .sl 111]
  (.call 3), I_ 110 [.tk 112] .mv, I_ 113 [.sl 110] (.ext 0), I_ 114 [.tv 110] (.ext 1), I_ 21 [.tk 113] .mv, I_ 22 [.tk 114] .mv]) (.seq (.reg false [I_ 116 [.sl 8] (.ld (.str 1)), I_ 117 [.cv (.func 49 [] []), .sl 116] (.call
  3), I_ 115 [.tk 117] .mv, I_ 118 [.sl 115] (.ext 0), I_ 119 [.tv 115] (.ext 1), I_ 23 [.tk 118] .mv, I_ 24 [.tk 119] .mv]) (.seq (.reg false [I_ 121 [.sl 3] (.ld (.str 1)), I_ 122 [.cv (.func 54 [] []), .sl 121] (.call 3), I_
  120 [.tk 122] .mv, I_ 123 [.sl 120] (.ext 0), I_ 124 [.tv 120] (.ext 1), I_ 25 [.tk 123] .mv, I_ 26 [.tk 124] .mv]) (.seq (.reg false [I_ 126 [.tv 8] (.ld (.str 1)), I_ 127 [.cv (.func 54 [] []), .sl 126] (.call 3), I_ 125 [.tk
  127] .mv, I_ 128 [.sl 125] (.ext 0), I_ 129 [.tv 125] (.ext 1), I_ 27 [.tk 128] .mv, I_ 28 [.tk 129] .mv]) (.seq (.reg false [I_ 130 [.tv 3] (.fa 0), I_ 131 [.tv 130] (.ld .one), I_ 132 [.tv 131, .cv (.int .i64 0)] (.ia 1), I_
  133 [.tv 132] (.ld .one), I_ 134 [.cv (.func 53 [] []), .sl 133] (.call 3), I_ 29 [.tk 134] .mv]) (.seq (.reg false [I_ 135 [.tk 22] .mv, I_ 136 [.tk 135] .mv, ⟨some 137, [.tk 24], some (136, true), none, .mv⟩, I_ 138 [.tv 136,
  .tv 137, .cv (.bool false)] .pick, I_ 139 [.tk 138] .mv, ⟨some 140, [.tk 26], some (139, true), none, .mv⟩, I_ 141 [.tv 139, .tv 140, .cv (.bool false)] .pick, I_ 142 [.tk 141] .mv, ⟨some 143, [.tk 28], some (142, true), none,
  .mv⟩, I_ 144 [.tv 142, .tv 143, .cv (.bool false)] .pick, I_ 145 [.tk 144] .mv, ⟨some 146, [.tk 14], some (145, true), none, .mv⟩, ⟨some 147, [.tv 146, .cv (.int .i64 0)], some (145, true), none, .bin .eql⟩, I_ 148 [.tv 145,
  .tv 147, .cv (.bool false)] .pick, I_ 149 [.tk 148] .mv, ⟨some 150, [.tk 16], some (149, true), none, .mv⟩, ⟨some 151, [.tv 150, .cv (.int .i64 0)], some (149, true), none, .bin .eql⟩, I_ 152 [.tv 149, .tv 151, .cv (.bool
  false)] .pick, I_ 153 [.tk 152] .mv, ⟨some 154, [.tk 18], some (153, true), none, .mv⟩, ⟨some 155, [.tv 154, .cv (.int .i64 0)], some (153, true), none, .bin .eql⟩, I_ 156 [.tv 153, .tv 155, .cv (.bool false)] .pick, I_ 157
  [.tk 156] .mv, ⟨some 158, [.tk 20], some (157, true), none, .mv⟩, ⟨some 159, [.tv 158, .cv (.int .i64 0)], some (157, true), none, .bin .eql⟩, I_ 160 [.tv 157, .tv 159, .cv (.bool false)] .pick, I_ 161 [.tk 160] .mv, ⟨some 162,
  [.tk 13], some (161, true), none, .mv⟩, ⟨some 163, [.tk 15], some (161, true), none, .mv⟩, ⟨some 164, [.tv 162, .tv 163], some (161, true), none, .bin .eql⟩, I_ 165 [.tv 161, .tv 164, .cv (.bool false)] .pick, I_ 166 [.tk 165]
  .mv, ⟨some 167, [.sl 17], some (166, true), none, .mv⟩, ⟨some 168, [.tv 167, .cv (.int .i64 0)], some (166, true), none, .bin .geq⟩, I_ 169 [.tv 166, .tv 168, .cv (.bool false)] .pick, I_ 170 [.tk 169] .mv, ⟨some 171, [.sl 17],
  some (170, true), none, .mv⟩, ⟨some 172, [.tk 29], some (170, true), none, .mv⟩, ⟨some 173, [.tv 171, .tv 172], some (170, true), none, .bin .leq⟩, I_ 174 [.tv 170, .tv 173, .cv (.bool false)] .pick, I_ 175 [.tk 174] .mv, ⟨some
  176, [.tk 19], some (175, true), none, .mv⟩, ⟨some 177, [.sl 7], some (175, true), none, .mv⟩, ⟨some 178, [.tk 17], some (175, true), none, .mv⟩, ⟨some 179, [.tv 177, .tv 178], some (175, true), none, .bin .mul⟩, ⟨some 180,
  [.tv 176, .tv 179], some (175, true), none, .bin .eql⟩, I_ 181 [.tv 175, .tv 180, .cv (.bool false)] .pick, I_ 182 [.tk 181] .mv, ⟨some 183, [.tk 21], some (182, true), none, .mv⟩, ⟨some 184, [.tk 23], some (182, true), none,
  .mv⟩, ⟨some 185, [.tv 183, .tv 184], some (182, true), none, .bin .eql⟩, I_ 186 [.tv 182, .tv 185, .cv (.bool false)] .pick, I_ 187 [.tk 186] .mv, ⟨some 188, [.tk 27], some (187, true), none, .mv⟩, ⟨some 189, [.tk 7], some
  (187, true), none, .mv⟩, ⟨some 190, [.tk 25], some (187, true), none, .mv⟩, ⟨some 191, [.tv 189, .tv 190], some (187, true), none, .bin .mul⟩, ⟨some 192, [.tv 188, .tv 191], some (187, true), none, .bin .eql⟩, I_ 193 [.tv 187,
  .tv 192, .cv (.bool false)] .pick, I_ 194 [.tk 193] .mv, ⟨some 195, [.cv (.func 20 [] [])], some (194, true), none, .call 3⟩, I_ 196 [.tv 194, .tv 195, .cv (.bool false)] .pick, I_ 6 [.tk 196] .mv]) .ret))))))))))))))))
theorem lk14 : linkF Go.Proofs.Try.prog ann14 14 = some (rc14, 197, [.tmp 6]) := by kernel_rfl
noncomputable def rc15 : RC :=
  .seq (.reg false [I_ 1 [.tk 0] .box, I_ 2 [.cv (.bool false)] .mv]) (.seq (.seq (.reg false [I_ 16 [.sl 1] (.ld (.str 1)), I_ 17 [.cv (.func 48 [] []), .sl 16] (.call 3), I_ 18 [.tv 17] (.un .not)]) (.cond (.sl 18) (.seq (.reg
  false [I_ 19 [.cv (.func 20 [] [])] (.call 3), I_ 2 [.tk 19] .mv]) .ret) .skip)) (.seq (.reg false [I_ 20 [.sl 1] (.fa 0), I_ 21 [.tv 20] (.ld .one), I_ 22 [.tk 21] .lenS, I_ 3 [.tk 22] .mv]) (.seq (.reg false [I_ 24 [.sl 1]
  (.ld (.str 1)), I_ 25 [.cv (.func 49 [] []), .sl 24] (.call 3), I_ 23 [.tk 25] .mv, I_ 26 [.sl 23] (.ext 0), I_ 27 [.tv 23] (.ext 1), I_ 4 [.tk 26] .mv, I_ 5 [.tk 27] .mv]) (.seq (.reg false [I_ 29 [.sl 1] (.ld (.str 1)), I_ 30
  [.cv (.func 54 [] []), .sl 29] (.call 3), I_ 28 [.tk 30] .mv, I_ 31 [.sl 28] (.ext 0), I_ 32 [.tv 28] (.ext 1), I_ 6 [.tk 31] .mv, I_ 7 [.tk 32] .mv]) (.seq (.seq (.reg false [I_ 33 [.tk 5] .mv, I_ 34 [.tv 33] (.un .not), I_ 35
  [.tk 34] .mv, ⟨some 36, [.tk 7], some (35, false), none, .mv⟩, ⟨some 37, [.tv 36], some (35, false), none, .un .not⟩, I_ 38 [.tv 35, .cv (.bool true), .tv 37] .pick]) (.cond (.sl 38) (.seq (.reg false [I_ 2 [.cv (.bool false)]
  .mv]) .ret) .skip)) (.seq (.seq (.reg false [I_ 39 [.sl 3] .mv, I_ 40 [.tv 39, .cv (.int .i64 2)] (.bin .gtr)]) (.cond (.sl 40) (.seq (.reg false [I_ 41 [.sl 1] (.fa 0), I_ 42 [.tv 41] (.ld .one), I_ 43 [.sl 3] .mv, I_ 44 [.tv
  43, .cv (.int .i64 1)] (.bin .sub), I_ 45 [.tk 42, .tk 44] (.slS 1 false true false), I_ 46 [.tv 45] (.build [.lst [] 0 .full] [(0, 1)]), I_ 8 [] (.alloc [.lst [] 0 .full]), ⟨none, [.sl 8, .tk 46], none, none, .st 1⟩]) (.seq
  (.reg false [I_ 48 [.sl 8] (.ld (.str 1)), I_ 49 [.cv (.func 49 [] []), .sl 48] (.call 3), I_ 47 [.tk 49] .mv, I_ 50 [.sl 47] (.ext 0), I_ 51 [.tv 47] (.ext 1), I_ 9 [.tk 50] .mv, I_ 10 [.tk 51] .mv]) (.seq (.reg false [I_ 53
  [.tv 8] (.ld (.str 1)), I_ 54 [.cv (.func 54 [] []), .sl 53] (.call 3), I_ 52 [.tk 54] .mv, I_ 55 [.sl 52] (.ext 0), I_ 56 [.tv 52] (.ext 1), I_ 11 [.tk 55] .mv, I_ 12 [.tk 56] .mv]) (.seq (.reg false [I_ 57 [.tk 10] .mv, I_ 58
  [.tv 57] (.un .not), I_ 59 [.tk 58] .mv, ⟨some 60, [.tk 12], some (59, false), none, .mv⟩, ⟨some 61, [.tv 60], some (59, false), none, .un .not⟩, I_ 62 [.tv 59, .cv (.bool true), .tv 61] .pick, I_ 63 [.tk 62] .mv, ⟨some 64,
  [.tk 9], some (63, false), none, .mv⟩, ⟨some 65, [.sl 4], some (63, false), none, .mv⟩, ⟨some 66, [.tv 64, .tv 65], some (63, false), none, .bin .gtr⟩, I_ 67 [.tv 63, .cv (.bool true), .tv 66] .pick, I_ 68 [.tk 67] .mv, ⟨some
  69, [.tk 11], some (68, false), none, .mv⟩, ⟨some 70, [.tk 6], some (68, false), none, .mv⟩, ⟨some 71, [.tv 69, .tv 70], some (68, false), none, .bin .lss⟩, I_ 72 [.tv 68, .cv (.bool true), .tv 71] .pick]) (.cond (.sl 72) (.seq
  (.reg false [I_ 2 [.cv (.bool false)] .mv]) .ret) .skip))))) .skip)) (.seq (.seq (.reg false [I_ 73 [.sl 3] .mv, I_ 74 [.tv 73, .cv (.int .i64 4)] (.bin .eql)]) (.cond (.sl 74) (.seq (.reg false [I_ 75 [.cv (.func 20 [] [])]
  (.call 3), I_ 2 [.tk 75] .mv]) .ret) .skip)) (.seq (.reg true [I_ 76 [] (.buildS 0 1 [.lst [] 0 .full] []), I_ 77 [.sl 1] (.fa 0), I_ 78 [.tv 77] (.ld .one), I_ 79 [.tk 76, .tk 78] (.app 1 24), I_ 80 [.sl 1] (.fa 0), I_ 81 [.tv
  80] (.ld .one), I_ 82 [.sl 3] .mv, I_ 83 [.tv 82, .cv (.int .i64 1)] (.bin .sub), I_ 84 [.tv 81, .tv 83] (.ia 1), I_ 85 [.tv 84] (.ld .one), I_ 86 [.tv 85] (.buildS 1 1 [.lst [] 0 .full] [0]), I_ 87 [.tk 79, .tk 86] (.app 1
  24), I_ 88 [.tv 87] (.build [.lst [] 0 .full] [(0, 1)]), I_ 13 [] (.alloc [.lst [] 0 .full]), ⟨none, [.sl 13, .tk 88], none, none, .st 1⟩]) (.seq (.reg false [I_ 90 [.tv 13] (.ld (.str 1)), I_ 91 [.cv (.func 49 [] []), .sl 90]
  (.call 3), I_ 89 [.tk 91] .mv, I_ 92 [.sl 89] (.ext 0), I_ 93 [.tv 89] (.ext 1), I_ 14 [.tk 92] .mv, I_ 15 [.tk 93] .mv]) (.seq (.reg false [I_ 94 [.tk 15] .mv, I_ 95 [.tk 94] .mv, ⟨some 96, [.sl 14], some (95, true), none,
  .mv⟩, ⟨some 97, [.sl 4], some (95, true), none, .mv⟩, ⟨some 98, [.tv 96, .tv 97], some (95, true), none, .bin .geq⟩, I_ 99 [.tv 95, .tv 98, .cv (.bool false)] .pick, I_ 100 [.tk 99] .mv, ⟨some 101, [.tk 14], some (100, true),
  none, .mv⟩, ⟨some 102, [.tk 4], some (100, true), none, .mv⟩, ⟨some 103, [.tv 1], some (100, true), none, .fa 0⟩, ⟨some 104, [.tv 103], some (100, true), none, .ld .one⟩, ⟨some 105, [.tk 3], some (100, true), none, .mv⟩, ⟨some
  106, [.tv 105, .cv (.int .i64 1)], some (100, true), none, .bin .sub⟩, ⟨some 107, [.tv 104, .tv 106], some (100, true), none, .ia 1⟩, ⟨some 108, [.tv 107], some (100, true), none, .ld .one⟩, ⟨some 109, [.tk 108], some (100,
  true), none, .lenS⟩, ⟨some 110, [.tv 102, .tv 109], some (100, true), none, .bin .add⟩, ⟨some 111, [.tv 110, .cv (.int .i64 1)], some (100, true), none, .bin .sub⟩, ⟨some 112, [.tv 101, .tv 111], some (100, true), none, .bin
  .leq⟩, I_ 113 [.tv 100, .tv 112, .cv (.bool false)] .pick, I_ 114 [.tk 113] .mv, ⟨some 115, [.cv (.func 20 [] [])], some (114, true), none, .call 3⟩, I_ 116 [.tv 114, .tv 115, .cv (.bool false)] .pick, I_ 2 [.tk 116] .mv])
  .ret))))))))))
theorem lk15 : linkF Go.Proofs.Try.prog ann15 15 = some (rc15, 117, [.tmp 2]) := by kernel_rfl
noncomputable def rc16 : RC :=
  .seq (.reg false [I_ 8 [.cv (.bool false)] .mv]) (.seq (.seq (.reg false [I_ 28 [.sl 3] .mv, I_ 29 [.tk 28] .lenS, I_ 30 [.tv 29, .cv (.int .i64 30)] (.bin .gtr)]) (.cond (.sl 30) (.seq (.reg false [I_ 31 [.cv (.func 20 [] [])]
  (.call 3), I_ 8 [.tk 31] .mv]) .ret) .skip)) (.seq (.reg false [I_ 32 [.tk 0] .mv, I_ 33 [.tv 32] (.conv .i64), I_ 34 [.tv 33, .cv (.int .i64 5)] (.bin .rem), I_ 35 [.cv (.int .i64 1), .tv 34] (.bin .add), I_ 36 [.tk 1] .mv, I_
  37 [.tv 36] (.conv .i64), I_ 38 [.tv 37, .cv (.int .i64 5)] (.bin .rem), I_ 39 [.cv (.int .i64 1), .tv 38] (.bin .add), I_ 9 [.tk 35] .mv, I_ 10 [.tk 39] .mv]) (.seq (.reg false [I_ 40 [.tk 2] .mv, I_ 41 [.tv 40] (.conv .i64),
  I_ 42 [.tv 41, .cv (.int .i64 20)] (.bin .rem), I_ 43 [.cv (.int .i64 1), .tv 42] (.bin .add), I_ 11 [.tk 43] .mv]) (.seq (.reg true [I_ 44 [.sl 9] .mv, I_ 45 [.sl 44, .tv 44] (.other (Oper.mk (some 45) (Op.makeSlice 37
  (Operand.tmp 44) (Operand.tmp 44)) 37 "outright.go:298" (Array.mk [Edge.mk 0 Ground.data, Edge.mk 0 Ground.data]) none) 1), I_ 46 [.sl 10] .mv, I_ 47 [.sl 46, .tv 46] (.other (Oper.mk (some 47) (Op.makeSlice 37 (Operand.tmp 46)
  (Operand.tmp 46)) 37 "outright.go:298" (Array.mk [Edge.mk 2 Ground.data, Edge.mk 2 Ground.data]) none) 1), I_ 12 [.tk 45] .mv, I_ 13 [.tk 47] .mv]) (.seq (.seq (.reg false [I_ 14 [.cv (.int .i64 0)] .mv]) (.block 0 (.loop (some
  [false, false, false, true, false, false, false, false, false, true, true, true, true, true, true, false, false, false, false, false, false, false, false, false, false, false, false, false, false, false, false, false, false,
  false, false, false, false, false, false, false, false, false, false, false, false, false, false, false, false, false, false, false, false, false, false, false, false, false, false, false, false, false, false, false, false,
  false, false, false, false, false, false, false, false, false, false, false, false, false, false, false, false, false, false, false, false, false, false, false, false, false, false, false, false, false, false, false, false,
  false, false, false, false, false, false, false, false, false, false, false, false, false, false, false, false, false, false, false, false, false, false, false, false, false, false, false, false, false, false, false, false,
  false, false, false, false, false, false, false, false, false, false, false, false, false, false, false, false, false, false, false, false, false, false, false, false, false, false, false, false, false, false, false, false,
  false, false, false, false, false, false, false, false, false, false, false, false, false, false, false, false, false, false, false]) (.seq (.seq (.reg false [I_ 48 [.sl 14] .mv, I_ 49 [.sl 9] .mv, I_ 50 [.tv 48, .tv 49] (.bin
  .lss)]) (.cond (.sl 50) .skip (.exit 0))) (.seq (.block 1 (.reg false [⟨some 53, [.tk 12], none, some 12, .thaw⟩, I_ 54 [.sl 14] .mv, I_ 55 [.sl 10] .mv, I_ 56 [.sl 11] .mv, I_ 57 [.tv 55, .tv 56] (.bin .mul), I_ 58 [.tv 53,
  .tv 54] (.ia 1), ⟨none, [.tk 58, .tk 57], none, none, .st 1⟩])) (.reg false [I_ 51 [.tk 14] .mv, I_ 52 [.tv 51, .cv (.int .i64 1)] (.bin .add), I_ 14 [.tk 52] .mv])))))) (.seq (.seq (.reg false [I_ 15 [.cv (.int .i64 0)] .mv])
  (.block 2 (.loop (some [false, false, false, true, false, false, false, false, false, true, true, true, true, true, false, true, false, false, false, false, false, false, false, false, false, false, false, false, false, false,
  false, false, false, false, false, false, false, false, false, false, false, false, false, false, false, false, false, false, false, false, false, false, false, false, false, false, false, false, false, false, false, false,
  false, false, false, false, false, false, false, false, false, false, false, false, false, false, false, false, false, false, false, false, false, false, false, false, false, false, false, false, false, false, false, false,
  false, false, false, false, false, false, false, false, false, false, false, false, false, false, false, false, false, false, false, false, false, false, false, false, false, false, false, false, false, false, false, false,
  false, false, false, false, false, false, false, false, false, false, false, false, false, false, false, false, false, false, false, false, false, false, false, false, false, false, false, false, false, false, false, false,
  false, false, false, false, false, false, false, false, false, false, false, false, false, false, false, false, false, false, false, false, false, false]) (.seq (.seq (.reg false [I_ 59 [.sl 15] .mv, I_ 60 [.sl 10] .mv, I_ 61
  [.tv 59, .tv 60] (.bin .lss)]) (.cond (.sl 61) .skip (.exit 2))) (.seq (.block 3 (.reg false [⟨some 64, [.tk 13], none, some 13, .thaw⟩, I_ 65 [.sl 15] .mv, I_ 66 [.sl 9] .mv, I_ 67 [.sl 11] .mv, I_ 68 [.tv 66, .tv 67] (.bin
  .mul), I_ 69 [.tv 64, .tv 65] (.ia 1), ⟨none, [.tk 69, .tk 68], none, none, .st 1⟩])) (.reg false [I_ 62 [.tk 15] .mv, I_ 63 [.tv 62, .cv (.int .i64 1)] (.bin .add), I_ 15 [.tk 63] .mv])))))) (.seq (.reg false [I_ 70 [.sl 12]
  .mv, I_ 71 [.sl 13] .mv, I_ 72 [.tv 70, .tv 71] (.buildS 2 1 [.lst [] 0 .full] [0, 1]), I_ 73 [.cv (.func 56 [] []), .sl 72] (.call 3), I_ 16 [] (.alloc [.lst [] 0 .full]), ⟨none, [.sl 16, .tk 73], none, none, .st 1⟩]) (.seq
  (.reg false [I_ 75 [.sl 16] (.ld (.str 1)), I_ 76 [.cv (.func 42 [] []), .sl 75, .cv (.int .i64 0)] (.call 3), I_ 74 [.tk 76] .mv, I_ 77 [.sl 74] (.ext 0), I_ 78 [.tv 74] (.ext 1), I_ 17 [.tk 77] .mv, I_ 18 [.tk 78] .mv]) (.seq
  (.reg false [I_ 80 [.sl 16] (.ld (.str 1)), I_ 81 [.cv (.func 40 [] []), .sl 80, .cv (.int .i64 1)] (.call 3), I_ 79 [.tk 81] .mv, I_ 82 [.sl 79] (.ext 0), I_ 83 [.tv 79] (.ext 1), I_ 19 [.tk 82] .mv, I_ 20 [.tk 83] .mv]) (.seq
  (.reg false [I_ 85 [.sl 16] (.ld (.str 1)), I_ 86 [.cv (.func 37 [] []), .sl 85, .cv (.int .i64 0)] (.call 3), I_ 84 [.tk 86] .mv, I_ 87 [.sl 84] (.ext 0), I_ 88 [.tv 84] (.ext 1), I_ 21 [.tk 87] .mv, I_ 22 [.tk 88] .mv]) (.seq
  (.reg true [I_ 90 [.sl 16] (.ld (.str 1)), I_ 91 [.sl 16] (.ld (.str 1)), I_ 92 [.tk 3] .mv, I_ 93 [.cv (.func 50 [] []), .sl 91, .sl 92] (.call 3), I_ 94 [.cv (.func 21 [] []), .sl 90, .sl 93] (.call 3), I_ 89 [.tk 94] .mv, I_
  95 [.sl 89] (.ext 0), I_ 96 [.sl 89] (.ext 1), I_ 23 [.tk 95] .mv, I_ 24 [.tk 96] .mv]) (.seq (.seq (.reg false [I_ 97 [.tk 18] .mv, I_ 98 [.tv 97, .cv (.int .i64 0)] (.bin .neq), I_ 99 [.tk 98] .mv, ⟨some 100, [.tk 20], some
  (99, false), none, .mv⟩, ⟨some 101, [.tv 100, .cv (.int .i64 0)], some (99, false), none, .bin .neq⟩, I_ 102 [.tv 99, .cv (.bool true), .tv 101] .pick, I_ 103 [.tk 102] .mv, ⟨some 104, [.tk 22], some (103, false), none, .mv⟩,
  ⟨some 105, [.tv 104, .cv (.int .i64 0)], some (103, false), none, .bin .neq⟩, I_ 106 [.tv 103, .cv (.bool true), .tv 105] .pick, I_ 107 [.tk 106] .mv, ⟨some 108, [.tk 24], some (107, false), none, .mv⟩, ⟨some 109, [.tv 108, .cv
  (.int .i64 0)], some (107, false), none, .bin .neq⟩, I_ 110 [.tv 107, .cv (.bool true), .tv 109] .pick, I_ 111 [.tk 110] .mv, ⟨some 112, [.sl 17], some (111, false), none, .mv⟩, ⟨some 113, [.tk 112], some (111, false), none,
  .lenS⟩, ⟨some 114, [.sl 9], some (111, false), none, .mv⟩, ⟨some 115, [.tv 114, .cv (.int .i64 1)], some (111, false), none, .bin .sub⟩, ⟨some 116, [.tv 113, .tv 115], some (111, false), none, .bin .neq⟩, I_ 117 [.tv 111, .cv
  (.bool true), .tv 116] .pick, I_ 118 [.tk 117] .mv, ⟨some 119, [.sl 19], some (118, false), none, .mv⟩, ⟨some 120, [.tk 119], some (118, false), none, .lenS⟩, ⟨some 121, [.sl 10], some (118, false), none, .mv⟩, ⟨some 122, [.tv
  121, .cv (.int .i64 1)], some (118, false), none, .bin .sub⟩, ⟨some 123, [.tv 120, .tv 122], some (118, false), none, .bin .neq⟩, I_ 124 [.tv 118, .cv (.bool true), .tv 123] .pick, I_ 125 [.tk 124] .mv, ⟨some 126, [.sl 21],
  some (125, false), none, .mv⟩, ⟨some 127, [.tk 23], some (125, false), none, .mv⟩, ⟨some 128, [.tv 126, .tv 127], some (125, false), none, .bin .neq⟩, I_ 129 [.tv 125, .cv (.bool true), .tv 128] .pick]) (.cond (.sl 129) (.seq
  (.reg false [I_ 8 [.cv (.bool false)] .mv]) .ret) .skip)) (.seq (.reg false [I_ 25 [.cv (.int .i64 0)] .mv]) (.seq (.seq (.reg false [I_ 26 [.cv (.int .i64 1)] .mv]) (.block 4 (.loop (some [false, false, false, false, false,
  false, false, false, false, true, true, false, true, true, false, false, false, true, false, true, false, true, false, false, false, true, true, false, false, false, false, false, false, false, false, false, false, false,
  false, false, false, false, false, false, false, false, false, false, false, false, false, false, false, false, false, false, false, false, false, false, false, false, false, false, false, false, false, false, false, false,
  false, false, false, false, false, false, false, false, false, false, false, false, false, false, false, false, false, false, false, false, false, false, false, false, false, false, false, false, false, false, false, false,
  false, false, false, false, false, false, false, false, false, false, false, false, false, false, false, false, false, false, false, false, false, false, false, false, false, false, false, false, false, false, false, false,
  false, false, false, false, false, false, false, false, false, false, false, false, false, false, false, false, false, false, false, false, false, false, false, false, false, false, false, false, false, false, false, false,
  false, false, false, false, false, false, false, false, false, false, false, false, false, false]) (.seq (.seq (.reg false [I_ 130 [.sl 26] .mv, I_ 131 [.sl 9] .mv, I_ 132 [.tv 130, .tv 131] (.bin .lss)]) (.cond (.sl 132) .skip
  (.exit 4))) (.seq (.block 5 (.seq (.seq (.reg true [I_ 135 [.sl 17] .mv, I_ 136 [.sl 26] .mv, I_ 137 [.tv 136, .cv (.int .i64 1)] (.bin .sub), I_ 138 [.tv 135, .tv 137] (.ia 1), I_ 139 [.tv 138] (.ld .one), I_ 140 [.sl 26] .mv,
  I_ 141 [.sl 12] .mv, I_ 142 [.tv 141, .cv (.int .i64 0)] (.ia 1), I_ 143 [.tv 142] (.ld .one), I_ 144 [.tv 140, .tv 143] (.bin .mul), I_ 145 [.tv 139, .tv 144] (.bin .neq)]) (.cond (.sl 145) (.seq (.reg false [I_ 8 [.cv (.bool
  false)] .mv]) .ret) .skip)) (.seq (.reg true [I_ 146 [.sl 17] .mv, I_ 147 [.sl 26] .mv, I_ 148 [.tv 147, .cv (.int .i64 1)] (.bin .sub), I_ 149 [.tv 146, .tv 148] (.ia 1), I_ 150 [.tv 149] (.ld .one), I_ 151 [.sl 13] .mv, I_
  152 [.tv 151, .cv (.int .i64 0)] (.ia 1), I_ 153 [.tv 152] (.ld .one), I_ 154 [.tv 150, .tv 153] (.bin .rem), I_ 155 [.tv 154, .cv (.int .i64 0)] (.bin .eql)]) (.cond (.sl 155) (.reg false [I_ 156 [.tk 25] .mv, I_ 157 [.tv 156,
  .cv (.int .i64 1)] (.bin .add), I_ 25 [.tk 157] .mv]) .skip)))) (.reg false [I_ 133 [.tk 26] .mv, I_ 134 [.tv 133, .cv (.int .i64 1)] (.bin .add), I_ 26 [.tk 134] .mv])))))) (.seq (.seq (.reg false [I_ 27 [.cv (.int .i64 1)]
  .mv]) (.block 6 (.loop (some [false, false, false, false, false, false, false, false, false, false, true, false, false, true, false, false, false, false, false, true, false, true, false, false, false, true, false, true, false,
  false, false, false, false, false, false, false, false, false, false, false, false, false, false, false, false, false, false, false, false, false, false, false, false, false, false, false, false, false, false, false, false,
  false, false, false, false, false, false, false, false, false, false, false, false, false, false, false, false, false, false, false, false, false, false, false, false, false, false, false, false, false, false, false, false,
  false, false, false, false, false, false, false, false, false, false, false, false, false, false, false, false, false, false, false, false, false, false, false, false, false, false, false, false, false, false, false, false,
  false, false, false, false, false, false, false, false, false, false, false, false, false, false, false, false, false, false, false, false, false, false, false, false, false, false, false, false, false, false, false, false,
  false, false, false, false, false, false, false, false, false, false, false, false, false, false, false, false, false, false, false, false, false, false, false]) (.seq (.seq (.reg false [I_ 158 [.sl 27] .mv, I_ 159 [.sl 10]
  .mv, I_ 160 [.tv 158, .tv 159] (.bin .lss)]) (.cond (.sl 160) .skip (.exit 6))) (.seq (.block 7 (.seq (.reg true [I_ 163 [.sl 19] .mv, I_ 164 [.sl 27] .mv, I_ 165 [.tv 164, .cv (.int .i64 1)] (.bin .sub), I_ 166 [.tv 163, .tv
  165] (.ia 1), I_ 167 [.tv 166] (.ld .one), I_ 168 [.sl 27] .mv, I_ 169 [.sl 13] .mv, I_ 170 [.tv 169, .cv (.int .i64 0)] (.ia 1), I_ 171 [.tv 170] (.ld .one), I_ 172 [.tv 168, .tv 171] (.bin .mul), I_ 173 [.tv 167, .tv 172]
  (.bin .neq)]) (.cond (.sl 173) (.seq (.reg false [I_ 8 [.cv (.bool false)] .mv]) .ret) .skip))) (.reg false [I_ 161 [.tk 27] .mv, I_ 162 [.tv 161, .cv (.int .i64 1)] (.bin .add), I_ 27 [.tk 162] .mv])))))) (.seq (.reg false [I_
  174 [.tk 21] .mv, I_ 175 [.tk 25] .mv, I_ 176 [.tv 174, .tv 175] (.bin .eql), I_ 177 [.tk 176] .mv, ⟨some 178, [.cv (.func 20 [] [])], some (177, true), none, .call 3⟩, I_ 179 [.tv 177, .tv 178, .cv (.bool false)] .pick, I_ 8
  [.tk 179] .mv]) .ret))))))))))))))))
theorem lk16 : linkF Go.Proofs.Try.prog ann16 16 = some (rc16, 180, [.tmp 8]) := by kernel_rfl
noncomputable def rc17 : RC :=
  .seq (.reg false [I_ 0 [.cv (.bool false)] .mv]) (.seq (.reg false [I_ 15 [.cv (.func 57 [] [])] (.call 3), I_ 16 [.cv (.func 58 [] [])] (.call 3), I_ 1 [] (.alloc [.lst [] 0 .full]), I_ 2 [] (.alloc [.lst [] 0 .full]), ⟨none,
  [.sl 1, .tk 15], none, none, .st 1⟩, ⟨none, [.sl 2, .tk 16], none, none, .st 1⟩]) (.seq (.reg true [I_ 18 [.sl 1] (.ld (.str 1)), I_ 19 [.cv (.int .i64 0), .cv (.int .i64 1), .cv (.int .i64 2)] (.buildS 3 1 [.int .i64 0] [0, 1,
  2]), I_ 20 [.cv (.func 60 [] []), .sl 19] (.call 3), I_ 21 [.cv (.int .i64 0), .cv (.int .i64 1)] (.buildS 2 1 [.int .i64 0] [0, 1]), I_ 22 [.cv (.func 60 [] []), .sl 21] (.call 3), I_ 23 [.tv 20, .tv 22] (.buildS 2 1 [.lst []
  0 .full] [0, 1]), I_ 24 [.cv (.func 59 [] []), .sl 23] (.call 3), I_ 25 [.cv (.func 30 [] []), .sl 18, .sl 24] (.call 3), I_ 17 [.tk 25] .mv, I_ 26 [.sl 17] (.ext 0), I_ 27 [.sl 17] (.ext 1), I_ 3 [.tk 26] .mv, I_ 4 [.tk 27]
  .mv]) (.seq (.reg false [I_ 29 [.sl 1] (.ld (.str 1)), I_ 30 [.cv (.func 33 [] []), .sl 29] (.call 3), I_ 28 [.tk 30] .mv, I_ 31 [.sl 28] (.ext 0), I_ 32 [.tv 28] (.ext 1), I_ 5 [.tk 31] .mv, I_ 6 [.tk 32] .mv]) (.seq (.reg
  false [I_ 34 [.sl 2] (.ld (.str 1)), I_ 35 [.cv (.func 35 [] []), .sl 34] (.call 3), I_ 33 [.tk 35] .mv, I_ 36 [.sl 33] (.ext 0), I_ 37 [.tv 33] (.ext 1), I_ 7 [.tk 36] .mv, I_ 8 [.tk 37] .mv]) (.seq (.reg false [I_ 39 [.sl 2]
  (.ld (.str 1)), I_ 40 [.cv (.func 37 [] []), .sl 39, .cv (.int .i64 1)] (.call 3), I_ 38 [.tk 40] .mv, I_ 41 [.sl 38] (.ext 0), I_ 42 [.tv 38] (.ext 1), I_ 9 [.tk 41] .mv, I_ 10 [.tk 42] .mv]) (.seq (.reg false [I_ 44 [.tv 1]
  (.ld (.str 1)), I_ 45 [.cv (.func 42 [] []), .sl 44, .cv (.int .i64 0)] (.call 3), I_ 43 [.tk 45] .mv, I_ 46 [.sl 43] (.ext 0), I_ 47 [.tv 43] (.ext 1), I_ 11 [.tk 46] .mv, I_ 12 [.tk 47] .mv]) (.seq (.reg false [I_ 49 [.sl 2]
  (.ld (.str 1)), I_ 50 [.cv (.func 44 [] []), .sl 49] (.call 3), I_ 48 [.tk 50] .mv, I_ 51 [.sl 48] (.ext 0), I_ 52 [.tv 48] (.ext 1), I_ 13 [.tk 51] .mv, I_ 14 [.tk 52] .mv]) (.seq (.reg false [I_ 53 [.tk 4] .mv, I_ 54 [.tv 53,
  .cv (.int .i64 0)] (.bin .eql), I_ 55 [.tk 54] .mv, ⟨some 56, [.tk 3], some (55, true), none, .mv⟩, ⟨some 57, [.tv 56, .cv (.int .i64 0)], some (55, true), none, .bin .eql⟩, I_ 58 [.tv 55, .tv 57, .cv (.bool false)] .pick, I_
  59 [.tk 58] .mv, ⟨some 60, [.tk 6], some (59, true), none, .mv⟩, ⟨some 61, [.tv 60, .cv (.int .i64 0)], some (59, true), none, .bin .eql⟩, I_ 62 [.tv 59, .tv 61, .cv (.bool false)] .pick, I_ 63 [.tk 62] .mv, ⟨some 64, [.tk 5],
  some (63, true), none, .mv⟩, ⟨some 65, [.tv 64, .cv (.int .i64 0)], some (63, true), none, .bin .eql⟩, I_ 66 [.tv 63, .tv 65, .cv (.bool false)] .pick, I_ 67 [.tk 66] .mv, ⟨some 68, [.tk 8], some (67, true), none, .mv⟩, ⟨some
  69, [.tv 68, .cv (.int .i64 0)], some (67, true), none, .bin .eql⟩, I_ 70 [.tv 67, .tv 69, .cv (.bool false)] .pick, I_ 71 [.tk 70] .mv, ⟨some 72, [.tk 7], some (71, true), none, .mv⟩, ⟨some 73, [.cv (.int .i64 0), .cv (.int
  .i64 1)], some (71, true), none, .buildS 2 1 [.int .i64 0] [0, 1]⟩, ⟨some 74, [.cv (.func 60 [] []), .sl 73], some (71, true), none, .call 3⟩, ⟨some 75, [.cv (.int .i64 0), .cv (.int .i64 1)], some (71, true), none, .buildS 2 1
  [.int .i64 0] [0, 1]⟩, ⟨some 76, [.cv (.func 60 [] []), .sl 75], some (71, true), none, .call 3⟩, ⟨some 77, [.cv (.int .i64 0), .cv (.int .i64 1)], some (71, true), none, .buildS 2 1 [.int .i64 0] [0, 1]⟩, ⟨some 78, [.cv (.func
  60 [] []), .sl 77], some (71, true), none, .call 3⟩, ⟨some 79, [.tv 74, .tv 76, .tv 78], some (71, true), none, .buildS 3 1 [.lst [] 0 .full] [0, 1, 2]⟩, ⟨some 80, [.cv (.func 59 [] []), .sl 79], some (71, true), none, .call
  3⟩, ⟨some 81, [.cv (.func 39 [] []), .sl 72, .sl 80], some (71, true), none, .call 3⟩, I_ 82 [.tv 71, .tv 81, .cv (.bool false)] .pick, I_ 83 [.tk 82] .mv, ⟨some 84, [.tk 10], some (83, true), none, .mv⟩, ⟨some 85, [.tv 84, .cv
  (.int .i64 0)], some (83, true), none, .bin .eql⟩, I_ 86 [.tv 83, .tv 85, .cv (.bool false)] .pick, I_ 87 [.tk 86] .mv, ⟨some 88, [.tk 9], some (87, true), none, .mv⟩, ⟨some 89, [.tv 88, .cv (.int .i64 0)], some (87, true),
  none, .bin .eql⟩, I_ 90 [.tv 87, .tv 89, .cv (.bool false)] .pick, I_ 91 [.tk 90] .mv, ⟨some 92, [.tk 12], some (91, true), none, .mv⟩, ⟨some 93, [.tv 92, .cv (.int .i64 0)], some (91, true), none, .bin .eql⟩, I_ 94 [.tv 91,
  .tv 93, .cv (.bool false)] .pick, I_ 95 [.tk 94] .mv, ⟨some 96, [.tk 11], some (95, true), none, .mv⟩, ⟨some 97, [.tk 96], some (95, true), none, .lenS⟩, ⟨some 98, [.tv 97, .cv (.int .i64 0)], some (95, true), none, .bin .eql⟩,
  I_ 99 [.tv 95, .tv 98, .cv (.bool false)] .pick, I_ 100 [.tk 99] .mv, ⟨some 101, [.tk 14], some (100, true), none, .mv⟩, ⟨some 102, [.tv 101, .cv (.int .i64 0)], some (100, true), none, .bin .eql⟩, I_ 103 [.tv 100, .tv 102, .cv
  (.bool false)] .pick, I_ 104 [.tk 103] .mv, ⟨some 105, [.tk 13], some (104, true), none, .mv⟩, ⟨some 106, [.tv 105, .cv (.int .i64 0)], some (104, true), none, .bin .eql⟩, I_ 107 [.tv 104, .tv 106, .cv (.bool false)] .pick, I_
  108 [.tk 107] .mv, ⟨some 109, [.tv 2], some (108, true), none, .ld (.str 1)⟩, ⟨some 110, [.cv (.func 25 [] []), .sl 109], some (108, true), none, .call 3⟩, ⟨some 111, [.tv 110, .cv (.int .i64 0)], some (108, true), none, .bin
  .eql⟩, I_ 112 [.tv 108, .tv 111, .cv (.bool false)] .pick, I_ 113 [.tk 112] .mv, ⟨some 114, [.cv (.func 20 [] [])], some (113, true), none, .call 3⟩, I_ 115 [.tv 113, .tv 114, .cv (.bool false)] .pick, I_ 0 [.tk 115] .mv])
  .ret))))))))
theorem lk17 : linkF Go.Proofs.Try.prog ann17 17 = some (rc17, 116, [.tmp 0]) := by kernel_rfl
noncomputable def rc18 : RC :=
  .seq (.reg false [I_ 1 [.tk 0] .box, I_ 2 [.cv (.bool false)] .mv]) (.seq (.reg false [I_ 5 [.sl 1] (.fa 0), I_ 6 [.tv 5] (.ld .one), I_ 7 [.tk 6] .lenS, I_ 3 [.tk 7] .mv]) (.seq (.seq (.reg false [I_ 4 [.cv (.int .i64 0)] .mv])
  (.block 0 (.loop (some [false, true, false, true, true, false, false, false, false, false, false, false, false, false, false, false, false, false, false, false, false, false, false, false, false]) (.seq (.seq (.reg false [I_ 8
  [.sl 4] .mv, I_ 9 [.sl 1] (.fa 0), I_ 10 [.tv 9] (.ld .one), I_ 11 [.tk 10] .lenS, I_ 12 [.tv 8, .tv 11] (.bin .lss)]) (.cond (.sl 12) .skip (.exit 0))) (.seq (.block 1 (.reg false [I_ 15 [.tk 3] .mv, I_ 16 [.sl 1] (.fa 0), I_
  17 [.tv 16] (.ld .one), I_ 18 [.sl 4] .mv, I_ 19 [.tv 17, .tv 18] (.ia 1), I_ 20 [.tv 19] (.ld .one), I_ 21 [.tk 20] .lenS, I_ 22 [.tk 15, .tk 21] .max, I_ 3 [.tk 22] .mv])) (.reg false [I_ 13 [.tk 4] .mv, I_ 14 [.tv 13, .cv
  (.int .i64 1)] (.bin .add), I_ 4 [.tk 14] .mv])))))) (.seq (.reg false [I_ 23 [.tk 3] .mv, I_ 24 [.tv 23, .cv (.int .i64 8)] (.bin .gtr), I_ 2 [.tk 24] .mv]) .ret)))
theorem lk18 : linkF Go.Proofs.Try.prog ann18 18 = some (rc18, 25, [.tmp 2]) := by kernel_rfl
noncomputable def rc19 : RC :=
  .seq (.reg false [I_ 2 [.cv (.bool false)] .mv]) (.seq (.reg false [I_ 5 [.sl 0] .mv, I_ 6 [.tk 5] .lenS, I_ 3 [.tk 6] .mv]) (.seq (.seq (.reg false [I_ 4 [.cv (.int .i64 0)] .mv]) (.block 0 (.loop (some [true, false, false,
  true, true, false, false, false, false, false, false, false, false, false, false, false, false, false, false, false, false, false]) (.seq (.seq (.reg false [I_ 7 [.sl 4] .mv, I_ 8 [.sl 0] .mv, I_ 9 [.tk 8] .lenS, I_ 10 [.tv 7,
  .tv 9] (.bin .lss)]) (.cond (.sl 10) .skip (.exit 0))) (.seq (.block 1 (.reg false [I_ 13 [.tk 3] .mv, I_ 14 [.sl 0] .mv, I_ 15 [.sl 4] .mv, I_ 16 [.tv 14, .tv 15] (.ia 1), I_ 17 [.tv 16] (.ld .one), I_ 18 [.tk 17] .lenS, I_ 19
  [.tk 13, .tk 18] .max, I_ 3 [.tk 19] .mv])) (.reg false [I_ 11 [.tk 4] .mv, I_ 12 [.tv 11, .cv (.int .i64 1)] (.bin .add), I_ 4 [.tk 12] .mv])))))) (.seq (.reg false [I_ 20 [.tk 3] .mv, I_ 21 [.tv 20, .cv (.int .i64 8)] (.bin
  .gtr), I_ 2 [.tk 21] .mv]) .ret)))
theorem lk19 : linkF Go.Proofs.Try.prog ann19 19 = some (rc19, 22, [.tmp 2]) := by kernel_rfl
noncomputable def rc20 : RC :=
  .seq (.reg false [I_ 0 [.cv (.bool false)] .mv]) (.seq (.reg false [I_ 42 [.cv (.func 57 [] [])] (.call 3), I_ 43 [.cv (.func 58 [] [])] (.call 3), I_ 1 [] (.alloc [.lst [] 0 .full]), I_ 2 [] (.alloc [.lst [] 0 .full]), ⟨none,
  [.sl 1, .tk 42], none, none, .st 1⟩, ⟨none, [.sl 2, .tk 43], none, none, .st 1⟩]) (.seq (.reg false [I_ 44 [.cv (.int .i64 0), .cv (.int .i64 1), .cv (.int .i64 2)] (.buildS 3 1 [.int .i64 0] [0, 1, 2]), I_ 45 [.cv (.func 60 []
  []), .sl 44] (.call 3), I_ 46 [.cv (.int .i64 0), .cv (.int .i64 1)] (.buildS 2 1 [.int .i64 0] [0, 1]), I_ 47 [.cv (.func 60 [] []), .sl 46] (.call 3), I_ 48 [.tv 45, .tv 47] (.buildS 2 1 [.lst [] 0 .full] [0, 1]), I_ 49 [.cv
  (.func 59 [] []), .sl 48] (.call 3), I_ 3 [.tk 49] .mv]) (.seq (.reg false [I_ 51 [.sl 1] (.ld (.str 1)), I_ 52 [.sl 3] .mv, I_ 53 [.cv (.func 21 [] []), .sl 51, .sl 52] (.call 3), I_ 50 [.tk 53] .mv, I_ 54 [.sl 50] (.ext 0),
  I_ 55 [.tv 50] (.ext 1), I_ 4 [.tk 54] .mv, I_ 5 [.tk 55] .mv]) (.seq (.reg true [I_ 57 [.sl 1] (.ld (.str 1)), I_ 58 [.cv (.int .i64 0), .cv (.int .i64 2), .cv (.int .i64 1)] (.buildS 3 1 [.int .i64 0] [0, 1, 2]), I_ 59 [.cv
  (.func 60 [] []), .sl 58] (.call 3), I_ 60 [.cv (.int .i64 1), .cv (.int .i64 0)] (.buildS 2 1 [.int .i64 0] [0, 1]), I_ 61 [.cv (.func 60 [] []), .sl 60] (.call 3), I_ 62 [.tv 59, .tv 61] (.buildS 2 1 [.lst [] 0 .full] [0,
  1]), I_ 63 [.cv (.func 59 [] []), .sl 62] (.call 3), I_ 64 [.cv (.func 21 [] []), .sl 57, .sl 63] (.call 3), I_ 56 [.tk 64] .mv, I_ 65 [.sl 56] (.ext 0), I_ 66 [.sl 56] (.ext 1), I_ 6 [.tk 65] .mv, I_ 7 [.tk 66] .mv]) (.seq
  (.reg true [I_ 68 [.sl 1] (.ld (.str 1)), I_ 69 [.cv (.int .i64 0), .cv (.int .i64 1), .cv (.int .i64 2)] (.buildS 3 1 [.int .i64 0] [0, 1, 2]), I_ 70 [.cv (.func 60 [] []), .sl 69] (.call 3), I_ 71 [.tv 70] (.buildS 1 1 [.lst
  [] 0 .full] [0]), I_ 72 [.cv (.func 59 [] []), .sl 71] (.call 3), I_ 73 [.cv (.func 21 [] []), .sl 68, .sl 72] (.call 3), I_ 67 [.tk 73] .mv, I_ 74 [.sl 67] (.ext 0), I_ 75 [.sl 67] (.ext 1), I_ 8 [.tk 74] .mv, I_ 9 [.tk 75]
  .mv]) (.seq (.reg true [I_ 77 [.sl 1] (.ld (.str 1)), I_ 78 [.cv (.int .i64 0), .cv (.int .i64 1), .cv (.int .i64 1)] (.buildS 3 1 [.int .i64 0] [0, 1, 2]), I_ 79 [.cv (.func 60 [] []), .sl 78] (.call 3), I_ 80 [.cv (.int .i64
  0), .cv (.int .i64 1)] (.buildS 2 1 [.int .i64 0] [0, 1]), I_ 81 [.cv (.func 60 [] []), .sl 80] (.call 3), I_ 82 [.tv 79, .tv 81] (.buildS 2 1 [.lst [] 0 .full] [0, 1]), I_ 83 [.cv (.func 59 [] []), .sl 82] (.call 3), I_ 84
  [.cv (.func 21 [] []), .sl 77, .sl 83] (.call 3), I_ 76 [.tk 84] .mv, I_ 85 [.sl 76] (.ext 0), I_ 86 [.sl 76] (.ext 1), I_ 10 [.tk 85] .mv, I_ 11 [.tk 86] .mv]) (.seq (.reg false [I_ 88 [.sl 1] (.ld (.str 1)), I_ 89 [.sl 3]
  .mv, I_ 90 [.cv (.func 23 [] []), .sl 88, .sl 89] (.call 3), I_ 87 [.tk 90] .mv, I_ 91 [.sl 87] (.ext 0), I_ 92 [.tv 87] (.ext 1), I_ 12 [.tk 91] .mv, I_ 13 [.tk 92] .mv]) (.seq (.reg false [I_ 94 [.sl 1] (.ld (.str 1)), I_ 95
  [.tk 3] .mv, I_ 96 [.cv (.func 28 [] []), .sl 94, .sl 95] (.call 3), I_ 93 [.tk 96] .mv, I_ 97 [.sl 93] (.ext 0), I_ 98 [.tv 93] (.ext 1), I_ 14 [.tk 97] .mv, I_ 15 [.tk 98] .mv]) (.seq (.reg true [I_ 100 [.sl 1] (.ld (.str
  1)), I_ 101 [.cv (.int .i64 0), .cv (.int .i64 2), .cv (.int .i64 1)] (.buildS 3 1 [.int .i64 0] [0, 1, 2]), I_ 102 [.cv (.func 60 [] []), .sl 101] (.call 3), I_ 103 [.cv (.int .i64 0), .cv (.int .i64 1)] (.buildS 2 1 [.int
  .i64 0] [0, 1]), I_ 104 [.cv (.func 60 [] []), .sl 103] (.call 3), I_ 105 [.tv 102, .tv 104] (.buildS 2 1 [.lst [] 0 .full] [0, 1]), I_ 106 [.cv (.func 59 [] []), .sl 105] (.call 3), I_ 107 [.cv (.func 30 [] []), .sl 100, .sl
  106] (.call 3), I_ 99 [.tk 107] .mv, I_ 108 [.sl 99] (.ext 0), I_ 109 [.sl 99] (.ext 1), I_ 16 [.tk 108] .mv, I_ 17 [.tk 109] .mv]) (.seq (.reg false [I_ 111 [.sl 2] (.ld (.str 1)), I_ 112 [.cv (.func 33 [] []), .sl 111] (.call
  3), I_ 110 [.tk 112] .mv, I_ 113 [.sl 110] (.ext 0), I_ 114 [.tv 110] (.ext 1), I_ 18 [.tk 113] .mv, I_ 19 [.tk 114] .mv]) (.seq (.reg false [I_ 116 [.sl 1] (.ld (.str 1)), I_ 117 [.cv (.func 35 [] []), .sl 116] (.call 3), I_
  115 [.tk 117] .mv, I_ 118 [.sl 115] (.ext 0), I_ 119 [.tv 115] (.ext 1), I_ 20 [.tk 118] .mv, I_ 21 [.tk 119] .mv]) (.seq (.reg false [I_ 121 [.sl 2] (.ld (.str 1)), I_ 122 [.cv (.func 37 [] []), .sl 121, .cv (.int .i64 0)]
  (.call 3), I_ 120 [.tk 122] .mv, I_ 123 [.sl 120] (.ext 0), I_ 124 [.tv 120] (.ext 1), I_ 22 [.tk 123] .mv, I_ 23 [.tk 124] .mv]) (.seq (.reg false [I_ 126 [.tv 2] (.ld (.str 1)), I_ 127 [.cv (.func 37 [] []), .sl 126, .cv
  (.int .i64 2)] (.call 3), I_ 125 [.tk 127] .mv, I_ 128 [.sl 125] (.ext 0), I_ 129 [.tv 125] (.ext 1), I_ 24 [.tk 128] .mv, I_ 25 [.tk 129] .mv]) (.seq (.reg false [I_ 131 [.sl 1] (.ld (.str 1)), I_ 132 [.cv (.func 40 [] []),
  .sl 131, .cv (.int .i64 0)] (.call 3), I_ 130 [.tk 132] .mv, I_ 133 [.sl 130] (.ext 0), I_ 134 [.tv 130] (.ext 1), I_ 26 [.tk 133] .mv, I_ 27 [.tk 134] .mv]) (.seq (.reg false [I_ 136 [.sl 1] (.ld (.str 1)), I_ 137 [.cv (.func
  42 [] []), .sl 136, .cv (.int .i64 1)] (.call 3), I_ 135 [.tk 137] .mv, I_ 138 [.sl 135] (.ext 0), I_ 139 [.tv 135] (.ext 1), I_ 28 [.tk 138] .mv, I_ 29 [.tk 139] .mv]) (.seq (.reg false [I_ 141 [.sl 1] (.ld (.str 1)), I_ 142
  [.cv (.func 42 [] []), .sl 141, .cv (.int .i64 2)] (.call 3), I_ 140 [.tk 142] .mv, I_ 143 [.sl 140] (.ext 0), I_ 144 [.tv 140] (.ext 1), I_ 30 [.tk 143] .mv, I_ 31 [.tk 144] .mv]) (.seq (.reg false [I_ 146 [.sl 1] (.ld (.str
  1)), I_ 147 [.cv (.func 44 [] []), .sl 146] (.call 3), I_ 145 [.tk 147] .mv, I_ 148 [.sl 145] (.ext 0), I_ 149 [.tv 145] (.ext 1), I_ 32 [.tk 148] .mv, I_ 33 [.tk 149] .mv]) (.seq (.reg false [I_ 151 [.sl 1] (.ld (.str 1)), I_
  152 [.cv (.func 46 [] []), .sl 151, .cv (.int .i64 2)] (.call 3), I_ 150 [.tk 152] .mv, I_ 153 [.sl 150] (.ext 0), I_ 154 [.tv 150] (.ext 1), I_ 34 [.tk 153] .mv, I_ 35 [.tk 154] .mv]) (.seq (.reg false [I_ 156 [.sl 1] (.ld
  (.str 1)), I_ 157 [.cv (.func 46 [] []), .sl 156, .cv (.int .i64 3)] (.call 3), I_ 155 [.tk 157] .mv, I_ 158 [.sl 155] (.ext 0), I_ 159 [.tv 155] (.ext 1), I_ 36 [.tk 158] .mv, I_ 37 [.tk 159] .mv]) (.seq (.reg false [I_ 161
  [.sl 1] (.ld (.str 1)), I_ 162 [.cv (.func 46 [] []), .sl 161, .cv (.int .i64 (-1))] (.call 3), I_ 160 [.tk 162] .mv, I_ 163 [.sl 160] (.ext 0), I_ 164 [.tv 160] (.ext 1), I_ 38 [.tk 163] .mv, I_ 39 [.tk 164] .mv]) (.seq (.seq
  (.reg false [I_ 165 [.tk 5] .mv, I_ 166 [.tv 165, .cv (.int .i64 0)] (.bin .neq), I_ 167 [.tk 166] .mv, ⟨some 168, [.tk 7], some (167, false), none, .mv⟩, ⟨some 169, [.tv 168, .cv (.int .i64 0)], some (167, false), none, .bin
  .neq⟩, I_ 170 [.tv 167, .cv (.bool true), .tv 169] .pick, I_ 171 [.tk 170] .mv, ⟨some 172, [.tk 9], some (171, false), none, .mv⟩, ⟨some 173, [.tv 172, .cv (.int .i64 15)], some (171, false), none, .bin .neq⟩, I_ 174 [.tv 171,
  .cv (.bool true), .tv 173] .pick, I_ 175 [.tk 174] .mv, ⟨some 176, [.tk 11], some (175, false), none, .mv⟩, ⟨some 177, [.tv 176, .cv (.int .i64 16)], some (175, false), none, .bin .neq⟩, I_ 178 [.tv 175, .cv (.bool true), .tv
  177] .pick, I_ 179 [.tk 178] .mv, ⟨some 180, [.tk 13], some (179, false), none, .mv⟩, ⟨some 181, [.tv 180, .cv (.int .i64 0)], some (179, false), none, .bin .neq⟩, I_ 182 [.tv 179, .cv (.bool true), .tv 181] .pick, I_ 183 [.tk
  182] .mv, ⟨some 184, [.tk 15], some (183, false), none, .mv⟩, ⟨some 185, [.tv 184, .cv (.int .i64 0)], some (183, false), none, .bin .neq⟩, I_ 186 [.tv 183, .cv (.bool true), .tv 185] .pick, I_ 187 [.tk 186] .mv, ⟨some 188,
  [.tk 17], some (187, false), none, .mv⟩, ⟨some 189, [.tv 188, .cv (.int .i64 0)], some (187, false), none, .bin .neq⟩, I_ 190 [.tv 187, .cv (.bool true), .tv 189] .pick, I_ 191 [.tk 190] .mv, ⟨some 192, [.tk 19], some (191,
  false), none, .mv⟩, ⟨some 193, [.tv 192, .cv (.int .i64 0)], some (191, false), none, .bin .neq⟩, I_ 194 [.tv 191, .cv (.bool true), .tv 193] .pick, I_ 195 [.tk 194] .mv, ⟨some 196, [.tk 21], some (195, false), none, .mv⟩,
  ⟨some 197, [.tv 196, .cv (.int .i64 0)], some (195, false), none, .bin .neq⟩, I_ 198 [.tv 195, .cv (.bool true), .tv 197] .pick, I_ 199 [.tk 198] .mv, ⟨some 200, [.tk 23], some (199, false), none, .mv⟩, ⟨some 201, [.tv 200, .cv
  (.int .i64 0)], some (199, false), none, .bin .neq⟩, I_ 202 [.tv 199, .cv (.bool true), .tv 201] .pick, I_ 203 [.tk 202] .mv, ⟨some 204, [.tk 25], some (203, false), none, .mv⟩, ⟨some 205, [.tv 204, .cv (.int .i64 2)], some
  (203, false), none, .bin .neq⟩, I_ 206 [.tv 203, .cv (.bool true), .tv 205] .pick, I_ 207 [.tk 206] .mv, ⟨some 208, [.tk 27], some (207, false), none, .mv⟩, ⟨some 209, [.tv 208, .cv (.int .i64 0)], some (207, false), none, .bin
  .neq⟩, I_ 210 [.tv 207, .cv (.bool true), .tv 209] .pick, I_ 211 [.tk 210] .mv, ⟨some 212, [.tk 29], some (211, false), none, .mv⟩, ⟨some 213, [.tv 212, .cv (.int .i64 0)], some (211, false), none, .bin .neq⟩, I_ 214 [.tv 211,
  .cv (.bool true), .tv 213] .pick, I_ 215 [.tk 214] .mv, ⟨some 216, [.tk 31], some (215, false), none, .mv⟩, ⟨some 217, [.tv 216, .cv (.int .i64 2)], some (215, false), none, .bin .neq⟩, I_ 218 [.tv 215, .cv (.bool true), .tv
  217] .pick, I_ 219 [.tk 218] .mv, ⟨some 220, [.tk 33], some (219, false), none, .mv⟩, ⟨some 221, [.tv 220, .cv (.int .i64 0)], some (219, false), none, .bin .neq⟩, I_ 222 [.tv 219, .cv (.bool true), .tv 221] .pick, I_ 223 [.tk
  222] .mv, ⟨some 224, [.tk 35], some (223, false), none, .mv⟩, ⟨some 225, [.tv 224, .cv (.int .i64 0)], some (223, false), none, .bin .neq⟩, I_ 226 [.tv 223, .cv (.bool true), .tv 225] .pick, I_ 227 [.tk 226] .mv, ⟨some 228,
  [.tk 37], some (227, false), none, .mv⟩, ⟨some 229, [.tv 228, .cv (.int .i64 21)], some (227, false), none, .bin .neq⟩, I_ 230 [.tv 227, .cv (.bool true), .tv 229] .pick, I_ 231 [.tk 230] .mv, ⟨some 232, [.tk 39], some (231,
  false), none, .mv⟩, ⟨some 233, [.tv 232, .cv (.int .i64 3)], some (231, false), none, .bin .neq⟩, I_ 234 [.tv 231, .cv (.bool true), .tv 233] .pick]) (.cond (.sl 234) (.seq (.reg false [I_ 0 [.cv (.bool false)] .mv]) .ret)
  .skip)) (.seq (.seq (.reg true [I_ 235 [.tk 4] .mv, I_ 236 [.tv 235, .cv (.int .i64 1)] (.bin .neq), I_ 237 [.tk 236] .mv, ⟨some 238, [.tk 6], some (237, false), none, .mv⟩, ⟨some 239, [.tv 238, .cv (.int .i64 0)], some (237,
  false), none, .bin .neq⟩, I_ 240 [.sl 237, .cv (.bool true), .tv 239] .pick, I_ 241 [.tk 240] .mv, ⟨some 242, [.sl 12], some (241, false), none, .mv⟩, ⟨some 243, [.tk 242], some (241, false), none, .lenS⟩, ⟨some 244, [.tv 243,
  .cv (.int .i64 2)], some (241, false), none, .bin .neq⟩, I_ 245 [.sl 241, .cv (.bool true), .tv 244] .pick, I_ 246 [.tk 245] .mv, ⟨some 247, [.sl 12], some (246, false), none, .mv⟩, ⟨some 248, [.tv 247, .cv (.int .i64 0)], some
  (246, false), none, .ia 1⟩, ⟨some 249, [.tv 248], some (246, false), none, .ld .one⟩, ⟨some 250, [.cv (.int .i64 2), .cv (.int .i64 5)], some (246, false), none, .buildS 2 1 [.int .i64 0] [0, 1]⟩, ⟨some 251, [.cv (.func 61 []
  []), .sl 250], some (246, false), none, .call 3⟩, ⟨some 252, [.cv (.func 32 [] []), .sl 249, .sl 251], some (246, false), none, .call 3⟩, ⟨some 253, [.tv 252], some (246, false), none, .un .not⟩, I_ 254 [.sl 246, .cv (.bool
  true), .tv 253] .pick, I_ 255 [.tk 254] .mv, ⟨some 256, [.sl 12], some (255, false), none, .mv⟩, ⟨some 257, [.tv 256, .cv (.int .i64 1)], some (255, false), none, .ia 1⟩, ⟨some 258, [.tv 257], some (255, false), none, .ld
  .one⟩, ⟨some 259, [.cv (.int .i64 5)], some (255, false), none, .buildS 1 1 [.int .i64 0] [0]⟩, ⟨some 260, [.cv (.func 61 [] []), .sl 259], some (255, false), none, .call 3⟩, ⟨some 261, [.cv (.func 32 [] []), .sl 258, .sl 260],
  some (255, false), none, .call 3⟩, ⟨some 262, [.tv 261], some (255, false), none, .un .not⟩, I_ 263 [.sl 255, .cv (.bool true), .tv 262] .pick, I_ 264 [.tk 263] .mv, ⟨some 265, [.tk 14], some (264, false), none, .mv⟩, ⟨some
  266, [.cv (.int .i64 5)], some (264, false), none, .buildS 1 1 [.int .i64 0] [0]⟩, ⟨some 267, [.cv (.func 61 [] []), .sl 266], some (264, false), none, .call 3⟩, ⟨some 268, [.cv (.func 32 [] []), .sl 265, .sl 267], some (264,
  false), none, .call 3⟩, ⟨some 269, [.tv 268], some (264, false), none, .un .not⟩, I_ 270 [.sl 264, .cv (.bool true), .tv 269] .pick, I_ 271 [.tk 270] .mv, ⟨some 272, [.tk 16], some (271, false), none, .mv⟩, ⟨some 273, [.tv 272,
  .cv (.int .i64 2)], some (271, false), none, .bin .neq⟩, I_ 274 [.sl 271, .cv (.bool true), .tv 273] .pick, I_ 275 [.tk 274] .mv, ⟨some 276, [.tk 18], some (275, false), none, .mv⟩, ⟨some 277, [.tv 276, .cv (.int .i64 1)], some
  (275, false), none, .bin .neq⟩, I_ 278 [.sl 275, .cv (.bool true), .tv 277] .pick, I_ 279 [.tk 278] .mv, ⟨some 280, [.tk 20], some (279, false), none, .mv⟩, ⟨some 281, [.cv (.int .i64 0), .cv (.int .i64 2), .cv (.int .i64 1)],
  some (279, false), none, .buildS 3 1 [.int .i64 0] [0, 1, 2]⟩, ⟨some 282, [.cv (.func 60 [] []), .sl 281], some (279, false), none, .call 3⟩, ⟨some 283, [.cv (.int .i64 0), .cv (.int .i64 1)], some (279, false), none, .buildS 2
  1 [.int .i64 0] [0, 1]⟩, ⟨some 284, [.cv (.func 60 [] []), .sl 283], some (279, false), none, .call 3⟩, ⟨some 285, [.tv 282, .tv 284], some (279, false), none, .buildS 2 1 [.lst [] 0 .full] [0, 1]⟩, ⟨some 286, [.cv (.func 59 []
  []), .sl 285], some (279, false), none, .call 3⟩, ⟨some 287, [.cv (.func 39 [] []), .sl 280, .sl 286], some (279, false), none, .call 3⟩, ⟨some 288, [.tv 287], some (279, false), none, .un .not⟩, I_ 289 [.sl 279, .cv (.bool
  true), .tv 288] .pick, I_ 290 [.tk 289] .mv, ⟨some 291, [.tk 22], some (290, false), none, .mv⟩, ⟨some 292, [.tv 291, .cv (.int .i64 1)], some (290, false), none, .bin .neq⟩, I_ 293 [.sl 290, .cv (.bool true), .tv 292] .pick])
  (.cond (.sl 293) (.seq (.reg false [I_ 0 [.cv (.bool false)] .mv]) .ret) .skip)) (.seq (.reg false [I_ 295 [.tv 1] (.ld (.str 1)), I_ 296 [.tk 34] .mv, I_ 297 [.cv (.func 31 [] []), .sl 295, .sl 296] (.call 3), I_ 294 [.tk 297]
  .mv, I_ 298 [.sl 294] (.ext 0), I_ 299 [.tv 294] (.ext 1), I_ 40 [.tk 298] .mv, I_ 41 [.tk 299] .mv]) (.seq (.reg false [I_ 300 [.tk 26] .mv, I_ 301 [.cv (.int .i64 2), .cv (.int .i64 3), .cv (.int .i64 5), .cv (.int .i64 7),
  .cv (.int .i64 8)] (.buildS 5 1 [.int .i64 0] [0, 1, 2, 3, 4]), I_ 302 [.cv (.func 61 [] []), .sl 301] (.call 3), I_ 303 [.cv (.func 32 [] []), .sl 300, .sl 302] (.call 3), I_ 304 [.tk 303] .mv, ⟨some 305, [.tk 28], some (304,
  true), none, .mv⟩, ⟨some 306, [.cv (.int .i64 5)], some (304, true), none, .buildS 1 1 [.int .i64 0] [0]⟩, ⟨some 307, [.cv (.func 61 [] []), .sl 306], some (304, true), none, .call 3⟩, ⟨some 308, [.cv (.func 32 [] []), .sl 305,
  .sl 307], some (304, true), none, .call 3⟩, I_ 309 [.tv 304, .tv 308, .cv (.bool false)] .pick, I_ 310 [.tk 309] .mv, ⟨some 311, [.tk 32], some (310, true), none, .mv⟩, ⟨some 312, [.tv 311, .cv (.int .i64 2)], some (310, true),
  none, .bin .eql⟩, I_ 313 [.tv 310, .tv 312, .cv (.bool false)] .pick, I_ 314 [.tk 313] .mv, ⟨some 315, [.tk 41], some (314, true), none, .mv⟩, ⟨some 316, [.tv 315, .cv (.int .i64 0)], some (314, true), none, .bin .eql⟩, I_ 317
  [.tv 314, .tv 316, .cv (.bool false)] .pick, I_ 318 [.tk 317] .mv, ⟨some 319, [.tk 40], some (318, true), none, .mv⟩, ⟨some 320, [.tv 319, .cv (.int .i64 2)], some (318, true), none, .bin .geq⟩, I_ 321 [.tv 318, .tv 320, .cv
  (.bool false)] .pick, I_ 0 [.tk 321] .mv]) .ret))))))))))))))))))))))))
theorem lk20 : linkF Go.Proofs.Try.prog ann20 20 = some (rc20, 322, [.tmp 0]) := by kernel_rfl
noncomputable def rc21 : RC :=
  .seq (.reg false [I_ 2 [.tk 0] .box, I_ 4 [.cv (.int .i64 0)] .mv, I_ 5 [.cv (.int .i64 0)] .mv]) (.seq (.reg false [I_ 9 [.tv 2] (.ld (.str 1)), I_ 10 [.tk 1] .mv, I_ 11 [.cv (.func 62 [] []), .sl 9, .sl 10] (.call 3), I_ 8 [.tk
  11] .mv, I_ 12 [.sl 8] (.ext 0), I_ 13 [.tv 8] (.ext 1), I_ 6 [.tk 12] .mv, I_ 7 [.tk 13] .mv]) (.seq (.seq (.reg false [I_ 14 [.sl 7] .mv, I_ 15 [.tv 14, .cv (.int .i64 0)] (.bin .neq)]) (.cond (.sl 15) (.seq (.reg false [I_
  16 [.tk 7] .mv, I_ 4 [.cv (.int .i64 0)] .mv, I_ 5 [.tk 16] .mv]) .ret) .skip)) (.seq (.reg false [I_ 17 [.tk 6] .mv, I_ 18 [.cv (.func 63 [] []), .sl 17] (.call 2), I_ 19 [.tk 18] .lenM, I_ 4 [.tk 19] .mv, I_ 5 [.cv (.int .i64
  0)] .mv]) .ret)))
theorem lk21 : linkF Go.Proofs.Try.prog ann21 21 = some (rc21, 20, [.tmp 4, .tmp 5]) := by kernel_rfl
noncomputable def rc22 : RC :=
  .seq (.reg false [I_ 2 [.tk 0] .box, I_ 4 [.cv (.int .i64 0)] .mv, I_ 5 [.cv (.int .i64 0)] .mv]) (.seq (.seq (.reg false [I_ 9 [.sl 2] (.ld (.str 1)), I_ 10 [.sl 1] .mv, I_ 11 [.cv (.func 64 [] []), .sl 9, .sl 10] (.call 3), I_
  12 [.tv 11, .cv (.int .i64 0)] (.bin .neq)]) (.cond (.sl 12) (.seq (.reg false [I_ 13 [.tv 2] (.ld (.str 1)), I_ 14 [.tk 1] .mv, I_ 15 [.cv (.func 64 [] []), .sl 13, .sl 14] (.call 3), I_ 4 [.cv (.int .i64 0)] .mv, I_ 5 [.tk
  15] .mv]) .ret) .skip)) (.seq (.reg false [I_ 16 [.tv 2] (.ld (.str 1)), I_ 17 [.tk 1] .mv, I_ 18 [.cv (.func 65 [] []), .sl 16, .sl 17] (.call 3), I_ 6 [.tk 18] .mv]) (.seq (.reg false [I_ 7 [.cv (.int .i64 0)] .mv]) (.seq
  (.seq (.reg false [I_ 8 [.cv (.int .i64 1)] .mv]) (.block 0 (.loop (some [false, false, false, false, false, false, true, true, true, false, false, false, false, false, false, false, false, false, false, false, false, false,
  false, false, false, false, false, false, false, false, false, false, false, false, false, false, false, false]) (.seq (.seq (.reg false [I_ 19 [.sl 8] .mv, I_ 20 [.sl 6] .mv, I_ 21 [.tk 20] .lenS, I_ 22 [.tv 19, .tv 21] (.bin
  .lss)]) (.cond (.sl 22) .skip (.exit 0))) (.seq (.block 1 (.reg true [I_ 25 [.tk 7] .mv, I_ 26 [.sl 6] .mv, I_ 27 [.sl 8] .mv, I_ 28 [.tv 27, .cv (.int .i64 1)] (.bin .sub), I_ 29 [.tv 26, .tv 28] (.ia 1), I_ 30 [.tv 29] (.ld
  .one), I_ 31 [.sl 6] .mv, I_ 32 [.sl 8] .mv, I_ 33 [.tv 31, .tv 32] (.ia 1), I_ 34 [.tv 33] (.ld .one), I_ 35 [.cv (.func 51 [] []), .sl 30, .sl 34] (.call 3), I_ 36 [.tv 25, .tv 35] (.bin .add), I_ 7 [.tk 36] .mv])) (.reg
  false [I_ 23 [.tk 8] .mv, I_ 24 [.tv 23, .cv (.int .i64 1)] (.bin .add), I_ 8 [.tk 24] .mv])))))) (.seq (.reg false [I_ 37 [.tk 7] .mv, I_ 4 [.tk 37] .mv, I_ 5 [.cv (.int .i64 0)] .mv]) .ret)))))
theorem lk22 : linkF Go.Proofs.Try.prog ann22 22 = some (rc22, 38, [.tmp 4, .tmp 5]) := by kernel_rfl
noncomputable def rc23 : RC :=
  .seq (.reg false [I_ 2 [.tk 0] .box, I_ 4 [.cv (.lst [] 0 .full)] (.nil 1), I_ 5 [.cv (.int .i64 0)] .mv]) (.seq (.reg false [I_ 6 [.tv 2] (.ld (.str 1)), I_ 7 [.tk 1] .mv, I_ 8 [.cv (.func 62 [] []), .sl 6, .sl 7] (.call 3), I_
  9 [.sl 8] (.ext 0), I_ 10 [.tv 8] (.ext 1), I_ 4 [.tk 9] .mv, I_ 5 [.tk 10] .mv]) .ret)
theorem lk23 : linkF Go.Proofs.Try.prog ann23 23 = some (rc23, 11, [.tmp 4, .tmp 5]) := by kernel_rfl
noncomputable def rc24 : RC :=
  .seq (.reg false [I_ 2 [.tk 0] .box, I_ 4 [.cv (.lst [] 0 .full)] (.nil 1), I_ 5 [.cv (.int .i64 0)] .mv]) (.seq (.seq (.reg false [I_ 6 [.sl 2] (.ld (.str 1)), I_ 7 [.sl 1] .mv, I_ 8 [.cv (.func 64 [] []), .sl 6, .sl 7] (.call
  3), I_ 9 [.tv 8, .cv (.int .i64 0)] (.bin .neq)]) (.cond (.sl 9) (.seq (.reg false [I_ 10 [.tv 2] (.ld (.str 1)), I_ 11 [.tk 1] .mv, I_ 12 [.cv (.func 64 [] []), .sl 10, .sl 11] (.call 3), I_ 4 [.cv (.lst [] 0 .full)] (.nil 1),
  I_ 5 [.tk 12] .mv]) .ret) .skip)) (.seq (.reg false [I_ 13 [.tv 2] (.ld (.str 1)), I_ 14 [.tk 1] .mv, I_ 15 [.cv (.func 65 [] []), .sl 13, .sl 14] (.call 3), I_ 4 [.tk 15] .mv, I_ 5 [.cv (.int .i64 0)] .mv]) .ret))
theorem lk24 : linkF Go.Proofs.Try.prog ann24 24 = some (rc24, 16, [.tmp 4, .tmp 5]) := by kernel_rfl
noncomputable def rc25 : RC :=
  .seq (.reg false [I_ 1 [.tk 0] .box, I_ 2 [.cv (.int .i64 0)] .mv]) (.seq (.reg false [I_ 3 [.cv (.func 66 [] [])] .mv]) (.seq (.reg false [I_ 4 [.cv (.func 68 [] [])] .mv]) (.seq (.block 0 (.seq (.reg false [I_ 6 [.sl 1] (.fa
  0), I_ 7 [.tv 6] (.ld .one), I_ 8 [.tk 7] .lenS, I_ 9 [.tv 8] (.buildS 1 1 [.int .i64 0] [0]), I_ 10 [.cv (.func 67 [] []), .cv (.int .i64 2), .cv (.int .i64 4), .sl 9] (.call 3), I_ 11 [.tv 10] (.un .not), I_ 12 [.tk 11] .mv,
  ⟨some 13, [.sl 1], some (12, false), none, .fa 0⟩, ⟨some 14, [.tv 13], some (12, false), none, .ld .one⟩, ⟨some 15, [.tk 3], some (12, false), none, .mv⟩, ⟨some 16, [.cv (.func 69 [] []), .sl 14, .sl 15], some (12, false),
  none, .call 3⟩, I_ 17 [.tv 12, .cv (.bool true), .tv 16] .pick, I_ 5 [.tk 17] .mv]) (.cond (.sl 5) (.seq (.reg false [I_ 2 [.cv (.int .i64 6)] .mv]) .ret) (.seq (.reg false [I_ 19 [.sl 1] (.fa 0), I_ 20 [.tv 19] (.ld .one), I_
  21 [.tk 4] .mv, I_ 22 [.cv (.func 69 [] []), .sl 20, .sl 21] (.call 3), I_ 18 [.tk 22] .mv]) (.cond (.sl 18) (.seq (.reg false [I_ 2 [.cv (.int .i64 3)] .mv]) .ret) (.seq (.reg false [I_ 24 [.sl 1] (.fa 0), I_ 25 [.tv 24] (.ld
  .one), I_ 26 [.tv 1] (.mkF 70 0 1), I_ 27 [.cv (.func 69 [] []), .sl 25, .sl 26] (.call 6), I_ 23 [.tk 27] .mv]) (.cond (.sl 23) (.seq (.reg false [I_ 2 [.cv (.int .i64 15)] .mv]) .ret) .skip))))))) (.seq (.reg false [I_ 2 [.cv
  (.int .i64 0)] .mv]) .ret))))
theorem lk25 : linkF Go.Proofs.Try.prog ann25 25 = some (rc25, 28, [.tmp 2]) := by kernel_rfl
noncomputable def rc26 : RC :=
  .seq (.reg false [I_ 1 [.tk 0] .box, I_ 2 [.cv (.int .i64 0)] .mv]) (.seq (.seq (.reg false [I_ 7 [.sl 1] (.fa 0), I_ 8 [.tv 7] (.ld .one), I_ 9 [.tk 8] .lenS, I_ 10 [.tv 9, .cv (.int .i64 2)] (.bin .lss), I_ 11 [.tk 10] .mv,
  ⟨some 12, [.sl 1], some (11, false), none, .fa 0⟩, ⟨some 13, [.tv 12], some (11, false), none, .ld .one⟩, ⟨some 14, [.tk 13], some (11, false), none, .lenS⟩, ⟨some 15, [.tv 14, .cv (.int .i64 4)], some (11, false), none, .bin
  .gtr⟩, I_ 16 [.tv 11, .cv (.bool true), .tv 15] .pick]) (.cond (.sl 16) (.seq (.reg false [I_ 2 [.cv (.int .i64 6)] .mv]) .ret) .skip)) (.seq (.seq (.reg false [I_ 3 [.cv (.int .i64 0)] .mv]) (.block 0 (.loop (some [false,
  true, false, true, false, false, false, false, false, false, false, false, false, false, false, false, false, false, false, false, false, false, false, false, false, false, false, false, false, false, false, false, false,
  false, false, false, false, false, false, false, false, false, false, false, false, false, false, false, false, false, false, false, false, false, false, false, false, false, false, false, false, false, false, false, false,
  false, false, false, false, false, false, false, false, false, false, false, false, false, false, false, false, false, false, false, false, false, false, false, false, false, false, false, false, false, false, false]) (.seq
  (.seq (.reg false [I_ 17 [.sl 3] .mv, I_ 18 [.sl 1] (.fa 0), I_ 19 [.tv 18] (.ld .one), I_ 20 [.tk 19] .lenS, I_ 21 [.tv 17, .tv 20] (.bin .lss)]) (.cond (.sl 21) .skip (.exit 0))) (.seq (.block 1 (.seq (.reg false [I_ 24 [.sl
  1] (.fa 0), I_ 25 [.tv 24] (.ld .one), I_ 26 [.sl 3] .mv, I_ 27 [.tv 25, .tv 26] (.ia 1), I_ 28 [.tv 27] (.ld .one), I_ 29 [.tk 28] .lenS, I_ 30 [.tv 29, .cv (.int .i64 1)] (.bin .lss), I_ 31 [.tk 30] .mv, ⟨some 32, [.sl 1],
  some (31, false), none, .fa 0⟩, ⟨some 33, [.tv 32], some (31, false), none, .ld .one⟩, ⟨some 34, [.sl 3], some (31, false), none, .mv⟩, ⟨some 35, [.tv 33, .tv 34], some (31, false), none, .ia 1⟩, ⟨some 36, [.tv 35], some (31,
  false), none, .ld .one⟩, ⟨some 37, [.tk 36], some (31, false), none, .lenS⟩, ⟨some 38, [.tv 37, .cv (.int .i64 5)], some (31, false), none, .bin .gtr⟩, I_ 39 [.tv 31, .cv (.bool true), .tv 38] .pick]) (.cond (.sl 39) (.seq
  (.reg false [I_ 2 [.cv (.int .i64 6)] .mv]) .ret) .skip))) (.reg false [I_ 22 [.tk 3] .mv, I_ 23 [.tv 22, .cv (.int .i64 1)] (.bin .add), I_ 3 [.tk 23] .mv])))))) (.seq (.seq (.reg false [I_ 4 [.cv (.int .i64 0)] .mv]) (.block
  2 (.loop (some [false, true, false, false, true, false, false, false, false, false, false, false, false, false, false, false, false, false, false, false, false, false, false, false, false, false, false, false, false, false,
  false, false, false, false, false, false, false, false, false, false, false, false, false, false, false, false, false, false, false, false, false, false, false, false, false, false, false, false, false, false, false, false,
  false, false, false, false, false, false, false, false, false, false, false, false, false, false, false, false, false, false, false, false, false, false, false, false, false, false, false, false, false, false, false, false,
  false, false]) (.seq (.seq (.reg false [I_ 40 [.sl 4] .mv, I_ 41 [.sl 1] (.fa 0), I_ 42 [.tv 41] (.ld .one), I_ 43 [.tk 42] .lenS, I_ 44 [.tv 40, .tv 43] (.bin .lss)]) (.cond (.sl 44) .skip (.exit 2))) (.seq (.block 3 (.seq
  (.reg false [I_ 5 [.cv (.int .i64 0)] .mv]) (.block 4 (.loop (some [false, true, false, false, true, true, false, false, false, false, false, false, false, false, false, false, false, false, false, false, false, false, false,
  false, false, false, false, false, false, false, false, false, false, false, false, false, false, false, false, false, false, false, false, false, false, false, false, false, false, false, false, false, false, false, false,
  false, false, false, false, false, false, false, false, false, false, false, false, false, false, false, false, false, false, false, false, false, false, false, false, false, false, false, false, false, false, false, false,
  false, false, false, false, false, false, false, false, false]) (.seq (.seq (.reg false [I_ 47 [.sl 5] .mv, I_ 48 [.sl 1] (.fa 0), I_ 49 [.tv 48] (.ld .one), I_ 50 [.sl 4] .mv, I_ 51 [.tv 49, .tv 50] (.ia 1), I_ 52 [.tv 51]
  (.ld .one), I_ 53 [.tk 52] .lenS, I_ 54 [.tv 47, .tv 53] (.bin .lss)]) (.cond (.sl 54) .skip (.exit 4))) (.seq (.block 5 (.seq (.reg false [I_ 57 [.sl 1] (.fa 0), I_ 58 [.tv 57] (.ld .one), I_ 59 [.sl 4] .mv, I_ 60 [.tv 58, .tv
  59] (.ia 1), I_ 61 [.tv 60] (.ld .one), I_ 62 [.sl 5] .mv, I_ 63 [.tv 61, .tv 62] (.ia 1), I_ 64 [.tv 63] (.ld .one), I_ 65 [.tv 64, .cv (.int .i64 1)] (.bin .lss), I_ 66 [.tk 65] .mv, ⟨some 67, [.sl 1], some (66, false), none,
  .fa 0⟩, ⟨some 68, [.tv 67], some (66, false), none, .ld .one⟩, ⟨some 69, [.sl 4], some (66, false), none, .mv⟩, ⟨some 70, [.tv 68, .tv 69], some (66, false), none, .ia 1⟩, ⟨some 71, [.tv 70], some (66, false), none, .ld .one⟩,
  ⟨some 72, [.sl 5], some (66, false), none, .mv⟩, ⟨some 73, [.tv 71, .tv 72], some (66, false), none, .ia 1⟩, ⟨some 74, [.tv 73], some (66, false), none, .ld .one⟩, ⟨some 75, [.tv 74, .cv (.int .i64 100)], some (66, false),
  none, .bin .gtr⟩, I_ 76 [.tv 66, .cv (.bool true), .tv 75] .pick]) (.cond (.sl 76) (.seq (.reg false [I_ 2 [.cv (.int .i64 3)] .mv]) .ret) .skip))) (.reg false [I_ 55 [.tk 5] .mv, I_ 56 [.tv 55, .cv (.int .i64 1)] (.bin .add),
  I_ 5 [.tk 56] .mv]))))))) (.reg false [I_ 45 [.tk 4] .mv, I_ 46 [.tv 45, .cv (.int .i64 1)] (.bin .add), I_ 4 [.tk 46] .mv])))))) (.seq (.seq (.reg false [I_ 6 [.cv (.int .i64 1)] .mv]) (.block 6 (.loop (some [false, true,
  false, false, false, false, true, false, false, false, false, false, false, false, false, false, false, false, false, false, false, false, false, false, false, false, false, false, false, false, false, false, false, false,
  false, false, false, false, false, false, false, false, false, false, false, false, false, false, false, false, false, false, false, false, false, false, false, false, false, false, false, false, false, false, false, false,
  false, false, false, false, false, false, false, false, false, false, false, false, false, false, false, false, false, false, false, false, false, false, false, false, false, false, false, false, false, false]) (.seq (.seq
  (.reg false [I_ 77 [.sl 6] .mv, I_ 78 [.sl 1] (.fa 0), I_ 79 [.tv 78] (.ld .one), I_ 80 [.tk 79] .lenS, I_ 81 [.tv 77, .tv 80] (.bin .lss)]) (.cond (.sl 81) .skip (.exit 6))) (.seq (.block 7 (.seq (.reg true [I_ 84 [.sl 1] (.fa
  0), I_ 85 [.tv 84] (.ld .one), I_ 86 [.sl 6] .mv, I_ 87 [.tv 85, .tv 86] (.ia 1), I_ 88 [.tv 87] (.ld .one), I_ 89 [.cv (.func 53 [] []), .sl 88] (.call 3), I_ 90 [.sl 1] (.fa 0), I_ 91 [.tv 90] (.ld .one), I_ 92 [.tv 91, .cv
  (.int .i64 0)] (.ia 1), I_ 93 [.tv 92] (.ld .one), I_ 94 [.cv (.func 53 [] []), .sl 93] (.call 3), I_ 95 [.tv 89, .tv 94] (.bin .neq)]) (.cond (.sl 95) (.seq (.reg false [I_ 2 [.cv (.int .i64 15)] .mv]) .ret) .skip))) (.reg
  false [I_ 82 [.tk 6] .mv, I_ 83 [.tv 82, .cv (.int .i64 1)] (.bin .add), I_ 6 [.tk 83] .mv])))))) (.seq (.reg false [I_ 2 [.cv (.int .i64 0)] .mv]) .ret)))))
theorem lk26 : linkF Go.Proofs.Try.prog ann26 26 = some (rc26, 96, [.tmp 2]) := by kernel_rfl
noncomputable def rc27 : RC :=
  .seq (.reg false [I_ 4 [.cv (.bool false)] .mv]) (.seq (.seq (.reg false [I_ 6 [.sl 0] .mv, I_ 7 [.tk 6] .lenS, I_ 8 [.sl 1] .mv, I_ 9 [.tk 8] .lenS, I_ 10 [.tv 7, .tv 9] (.bin .neq)]) (.cond (.sl 10) (.seq (.reg false [I_ 4 [.cv
  (.bool false)] .mv]) .ret) .skip)) (.seq (.seq (.reg false [I_ 5 [.cv (.int .i64 0)] .mv]) (.block 0 (.loop (some [true, true, false, false, false, true, false, false, false, false, false, false, false, false, false, false,
  false, false, false, false, false, false, false, false, false, false, false]) (.seq (.seq (.reg false [I_ 11 [.sl 5] .mv, I_ 12 [.sl 0] .mv, I_ 13 [.tk 12] .lenS, I_ 14 [.tv 11, .tv 13] (.bin .lss)]) (.cond (.sl 14) .skip
  (.exit 0))) (.seq (.block 1 (.seq (.reg true [I_ 17 [.sl 0] .mv, I_ 18 [.sl 5] .mv, I_ 19 [.tv 17, .tv 18] (.ia 1), I_ 20 [.tv 19] (.ld .one), I_ 21 [.sl 1] .mv, I_ 22 [.sl 5] .mv, I_ 23 [.tv 21, .tv 22] (.ia 1), I_ 24 [.tv 23]
  (.ld .one), I_ 25 [.cv (.func 32 [] []), .sl 20, .sl 24] (.call 3), I_ 26 [.tv 25] (.un .not)]) (.cond (.sl 26) (.seq (.reg false [I_ 4 [.cv (.bool false)] .mv]) .ret) .skip))) (.reg false [I_ 15 [.tk 5] .mv, I_ 16 [.tv 15, .cv
  (.int .i64 1)] (.bin .add), I_ 5 [.tk 16] .mv])))))) (.seq (.reg false [I_ 4 [.cv (.bool true)] .mv]) .ret)))
theorem lk27 : linkF Go.Proofs.Try.prog ann27 27 = some (rc27, 27, [.tmp 4]) := by kernel_rfl
noncomputable def rc28 : RC :=
  .seq (.reg false [I_ 2 [.tk 0] .box, I_ 4 [.cv (.lst [] 0 .full)] (.nil 1), I_ 5 [.cv (.int .i64 0)] .mv]) (.seq (.reg false [I_ 14 [.tv 2] (.ld (.str 1)), I_ 15 [.tk 1] .mv, I_ 16 [.cv (.func 62 [] []), .sl 14, .sl 15] (.call
  3), I_ 13 [.tk 16] .mv, I_ 17 [.sl 13] (.ext 0), I_ 18 [.tv 13] (.ext 1), I_ 6 [.tk 17] .mv, I_ 7 [.tk 18] .mv]) (.seq (.seq (.reg false [I_ 19 [.sl 7] .mv, I_ 20 [.tv 19, .cv (.int .i64 0)] (.bin .neq)]) (.cond (.sl 20) (.seq
  (.reg false [I_ 21 [.tk 7] .mv, I_ 4 [.cv (.lst [] 0 .full)] (.nil 1), I_ 5 [.tk 21] .mv]) .ret) .skip)) (.seq (.reg false [I_ 8 [.cv (.lst [] 0 .full)] (.nil 1)]) (.seq .skip (.seq (.seq (.reg false [I_ 22 [.sl 6] .mv, I_ 23
  [.tv 22, .cv (.int .i64 0)] (.ia 1), I_ 24 [.tv 23] (.ld .one), I_ 25 [.sl 24] .lenS, I_ 26 [.cv (.int .i64 0)] .mv]) (.block 0 (.loop (some [false, false, false, false, false, false, true, false, true, false, false, false,
  false, false, false, false, false, false, false, false, false, false, false, false, true, true, true, false, false, false, false, false, false, false, false, false, false, false, false, false, false, false, false, false, false,
  false, false, false, false, false, false, false, false]) (.seq (.reg false [I_ 27 [.sl 26, .sl 25] (.bin .lss)]) (.seq (.cond (.sl 27) .skip (.exit 0)) (.seq (.block 1 (.seq (.reg false [I_ 28 [.sl 24, .sl 26] (.ia 1), I_ 29
  [.tv 28] (.ld .one), I_ 10 [.tk 29] .mv]) (.seq (.seq (.reg false [I_ 30 [.sl 6] .mv, I_ 31 [.tk 30, .cv (.int .i64 1)] (.slS 1 true false false), I_ 32 [.sl 31] .lenS, I_ 33 [.cv (.int .i64 0)] .mv]) (.block 2 (.loop (some
  [false, false, false, false, false, false, true, false, true, false, true, false, false, false, false, false, false, false, false, false, false, false, false, false, true, true, true, false, false, false, false, true, true,
  true, false, false, false, false, false, false, false, false, false, false, false, false, false, false, false, false, false, false, false]) (.seq (.reg false [I_ 34 [.sl 33, .sl 32] (.bin .lss)]) (.seq (.cond (.sl 34) .skip
  (.exit 2)) (.seq (.block 3 (.seq (.reg false [I_ 35 [.sl 31, .sl 33] (.ia 1), I_ 36 [.tv 35] (.ld .one), I_ 12 [.tk 36] .mv]) (.seq (.reg false [I_ 37 [.tk 12] .mv, I_ 38 [.sl 10] .mv, I_ 39 [.cv (.func 72 [] []), .sl 37, .sl
  38] (.call 3), I_ 40 [.tv 39] (.un .not)]) (.cond (.sl 40) (.exit 1) .skip)))) (.reg false [I_ 41 [.tv 33, .cv (.int .i64 1)] (.bin .add), I_ 33 [.tk 41] .mv]))))))) (.reg false [I_ 42 [.sl 8] .mv, I_ 43 [.sl 8] .mv, I_ 44 [.tk
  43] .lenS, I_ 45 [.tk 8] .mv, I_ 46 [.tk 45] .lenS, I_ 47 [.tk 42, .tk 44, .tk 46] (.slS 1 false true true), I_ 48 [.tk 10] .mv, I_ 49 [.tv 48] (.buildS 1 1 [.int .i64 0] [0]), I_ 50 [.tk 47, .tk 49] (.app 1 8), I_ 8 [.tk 50]
  .mv])))) (.reg false [I_ 51 [.tv 26, .cv (.int .i64 1)] (.bin .add), I_ 26 [.tk 51] .mv]))))))) (.seq (.reg false [I_ 52 [.tk 8] .mv, I_ 4 [.tk 52] .mv, I_ 5 [.cv (.int .i64 0)] .mv]) .ret))))))
theorem lk28 : linkF Go.Proofs.Try.prog ann28 28 = some (rc28, 53, [.tmp 4, .tmp 5]) := by kernel_rfl
noncomputable def rc29 : RC :=
  .seq (.reg false [I_ 2 [.tk 0] .box, I_ 4 [.cv (.lst [] 0 .full)] (.nil 1), I_ 5 [.cv (.int .i64 0)] .mv]) (.seq (.seq (.reg false [I_ 11 [.sl 2] (.ld (.str 1)), I_ 12 [.sl 1] .mv, I_ 13 [.cv (.func 64 [] []), .sl 11, .sl 12]
  (.call 3), I_ 14 [.tv 13, .cv (.int .i64 0)] (.bin .neq)]) (.cond (.sl 14) (.seq (.reg false [I_ 15 [.tv 2] (.ld (.str 1)), I_ 16 [.tk 1] .mv, I_ 17 [.cv (.func 64 [] []), .sl 15, .sl 16] (.call 3), I_ 4 [.cv (.lst [] 0 .full)]
  (.nil 1), I_ 5 [.tk 17] .mv]) .ret) .skip)) (.seq (.reg false [I_ 18 [.tv 2] (.ld (.str 1)), I_ 19 [.tk 1] .mv, I_ 20 [.cv (.func 65 [] []), .sl 18, .sl 19] (.call 3), I_ 6 [.tk 20] .mv]) (.seq (.reg false [I_ 7 [.cv (.lst [] 0
  .full)] (.nil 1)]) (.seq (.seq (.reg false [I_ 8 [.cv (.int .i64 0)] .mv]) (.block 0 (.loop (some [false, false, false, false, false, false, true, true, true, false, false, false, false, false, false, false, false, false,
  false, false, false, false, false, false, false, false, false, false, false, false, false, false, false, false, false, false, false, false, false, false, false, false, false, false, false, false, false, false, false, false,
  false, false, false, false, false, false, false, false, false, false]) (.seq (.seq (.reg false [I_ 21 [.sl 8] .mv, I_ 22 [.sl 6] .mv, I_ 23 [.tv 22, .cv (.int .i64 0)] (.ia 1), I_ 24 [.tv 23] (.ld .one), I_ 25 [.tk 24] .lenS,
  I_ 26 [.tv 21, .tv 25] (.bin .lss)]) (.cond (.sl 26) .skip (.exit 0))) (.seq (.block 1 (.seq (.reg false [I_ 9 [.cv (.bool true)] .mv]) (.seq (.seq (.reg false [I_ 10 [.cv (.int .i64 0)] .mv]) (.block 2 (.loop (some [false,
  false, false, false, false, false, true, true, true, true, true, false, false, false, false, false, false, false, false, false, false, false, false, false, false, false, false, false, false, false, false, false, false, false,
  false, false, false, false, false, false, false, false, false, false, false, false, false, false, false, false, false, false, false, false, false, false, false, false, false, false]) (.seq (.seq (.reg false [I_ 29 [.sl 10] .mv,
  I_ 30 [.sl 6] .mv, I_ 31 [.tk 30] .lenS, I_ 32 [.tv 29, .tv 31] (.bin .lss)]) (.cond (.sl 32) .skip (.exit 2))) (.seq (.block 3 (.reg true [I_ 35 [.tk 9] .mv, I_ 36 [.tk 35] .mv, ⟨some 37, [.sl 6], some (36, true), none, .mv⟩,
  ⟨some 38, [.sl 10], some (36, true), none, .mv⟩, ⟨some 39, [.tv 37, .tv 38], some (36, true), none, .ia 1⟩, ⟨some 40, [.tv 39], some (36, true), none, .ld .one⟩, ⟨some 41, [.sl 6], some (36, true), none, .mv⟩, ⟨some 42, [.tv
  41, .cv (.int .i64 0)], some (36, true), none, .ia 1⟩, ⟨some 43, [.tv 42], some (36, true), none, .ld .one⟩, ⟨some 44, [.sl 8], some (36, true), none, .mv⟩, ⟨some 45, [.tv 43, .tv 44], some (36, true), none, .ia 1⟩, ⟨some 46,
  [.tv 45], some (36, true), none, .ld .one⟩, ⟨some 47, [.cv (.func 52 [] []), .sl 40, .sl 46], some (36, true), none, .call 3⟩, I_ 48 [.sl 36, .tv 47, .cv (.bool false)] .pick, I_ 9 [.tk 48] .mv])) (.reg false [I_ 33 [.tk 10]
  .mv, I_ 34 [.tv 33, .cv (.int .i64 1)] (.bin .add), I_ 10 [.tk 34] .mv])))))) (.seq (.reg false [I_ 49 [.tk 9] .mv]) (.cond (.sl 49) (.reg false [I_ 50 [.tk 7] .mv, I_ 51 [.sl 6] .mv, I_ 52 [.tv 51, .cv (.int .i64 0)] (.ia 1),
  I_ 53 [.tv 52] (.ld .one), I_ 54 [.sl 8] .mv, I_ 55 [.tv 53, .tv 54] (.ia 1), I_ 56 [.tv 55] (.ld .one), I_ 57 [.tv 56] (.buildS 1 1 [.int .i64 0] [0]), I_ 58 [.tk 50, .tk 57] (.app 1 8), I_ 7 [.tk 58] .mv]) .skip))))) (.reg
  false [I_ 27 [.tk 8] .mv, I_ 28 [.tv 27, .cv (.int .i64 1)] (.bin .add), I_ 8 [.tk 28] .mv])))))) (.seq (.reg false [I_ 59 [.tk 7] .mv, I_ 4 [.tk 59] .mv, I_ 5 [.cv (.int .i64 0)] .mv]) .ret)))))
theorem lk29 : linkF Go.Proofs.Try.prog ann29 29 = some (rc29, 60, [.tmp 4, .tmp 5]) := by kernel_rfl
noncomputable def rc30 : RC :=
  .seq (.reg false [I_ 2 [.tk 0] .box, I_ 4 [.cv (.int .i64 0)] .mv, I_ 5 [.cv (.int .i64 0)] .mv]) (.seq (.reg false [I_ 11 [.sl 2] (.ld (.str 1)), I_ 12 [.tk 1] .mv, I_ 13 [.cv (.func 62 [] []), .sl 11, .sl 12] (.call 3), I_ 10
  [.tk 13] .mv, I_ 14 [.sl 10] (.ext 0), I_ 15 [.tv 10] (.ext 1), I_ 6 [.tk 14] .mv, I_ 7 [.tk 15] .mv]) (.seq (.seq (.reg false [I_ 16 [.sl 7] .mv, I_ 17 [.tv 16, .cv (.int .i64 0)] (.bin .neq)]) (.cond (.sl 17) (.seq (.reg
  false [I_ 18 [.tk 7] .mv, I_ 4 [.cv (.int .i64 0)] .mv, I_ 5 [.tk 18] .mv]) .ret) .skip)) (.seq (.reg false [I_ 19 [.tv 2] (.fa 0), I_ 20 [.tv 19] (.ld .one), I_ 21 [.tv 20, .cv (.int .i64 0)] (.ia 1), I_ 22 [.tv 21] (.ld
  .one), I_ 23 [.cv (.func 71 [] []), .sl 22] (.call 3), I_ 8 [.tk 23] .mv]) (.seq (.seq (.reg false [I_ 24 [.sl 6] .mv, I_ 25 [.tk 24, .cv (.int .i64 1)] (.slS 1 true false false), I_ 26 [.tk 25] .lenS, I_ 27 [.cv (.int .i64 0)]
  .mv]) (.block 0 (.loop (some [false, false, false, false, false, false, true, false, true, false, false, false, false, false, false, false, false, false, false, false, false, false, false, false, false, false, true, true,
  false, false, false, false, false, false, false, false, false, false, false, false, false, false, false, false, false]) (.seq (.reg false [I_ 28 [.sl 27, .sl 26] (.bin .lss)]) (.seq (.cond (.sl 28) .skip (.exit 0)) (.seq
  (.block 1 (.seq (.reg false [I_ 29 [.sl 27] .mv, I_ 9 [.tk 29] .mv]) (.reg true [I_ 30 [.sl 8] .mv, I_ 31 [.sl 6] .mv, I_ 32 [.sl 9] .mv, I_ 33 [.tv 31, .tv 32] (.ia 1), I_ 34 [.tv 33] (.ld .one), I_ 35 [.sl 6] .mv, I_ 36 [.sl
  9] .mv, I_ 37 [.tv 36, .cv (.int .i64 1)] (.bin .add), I_ 38 [.tv 35, .tv 37] (.ia 1), I_ 39 [.tv 38] (.ld .one), I_ 40 [.sl 8] .mv, I_ 41 [.cv (.func 73 [] []), .sl 34, .sl 39, .sl 40] (.call 3), I_ 42 [.tk 30, .tk 41] .min,
  I_ 8 [.tk 42] .mv]))) (.reg false [I_ 43 [.tv 27, .cv (.int .i64 1)] (.bin .add), I_ 27 [.tk 43] .mv]))))))) (.seq (.reg false [I_ 44 [.tk 8] .mv, I_ 4 [.tk 44] .mv, I_ 5 [.cv (.int .i64 0)] .mv]) .ret)))))
theorem lk30 : linkF Go.Proofs.Try.prog ann30 30 = some (rc30, 45, [.tmp 4, .tmp 5]) := by kernel_rfl
noncomputable def rc31 : RC :=
  .seq (.reg false [I_ 2 [.tk 0] .box, I_ 4 [.cv (.int .i64 0)] .mv, I_ 5 [.cv (.int .i64 0)] .mv]) (.seq (.seq (.reg false [I_ 9 [.sl 2] (.ld (.str 1)), I_ 10 [.sl 1] .mv, I_ 11 [.cv (.func 64 [] []), .sl 9, .sl 10] (.call 3), I_
  12 [.tv 11, .cv (.int .i64 0)] (.bin .neq)]) (.cond (.sl 12) (.seq (.reg false [I_ 13 [.tv 2] (.ld (.str 1)), I_ 14 [.tk 1] .mv, I_ 15 [.cv (.func 64 [] []), .sl 13, .sl 14] (.call 3), I_ 4 [.cv (.int .i64 0)] .mv, I_ 5 [.tk
  15] .mv]) .ret) .skip)) (.seq (.reg false [I_ 16 [.sl 2] (.ld (.str 1)), I_ 17 [.tk 1] .mv, I_ 18 [.cv (.func 65 [] []), .sl 16, .sl 17] (.call 3), I_ 6 [.tk 18] .mv]) (.seq (.reg false [I_ 19 [.tv 2] (.fa 0), I_ 20 [.tv 19]
  (.ld .one), I_ 21 [.tv 20, .cv (.int .i64 0)] (.ia 1), I_ 22 [.tv 21] (.ld .one), I_ 23 [.cv (.func 53 [] []), .sl 22] (.call 3), I_ 7 [.tk 23] .mv]) (.seq (.seq (.reg false [I_ 8 [.cv (.int .i64 1)] .mv]) (.block 0 (.loop
  (some [false, false, false, false, false, false, true, true, true, false, false, false, false, false, false, false, false, false, false, false, false, false, false, false, false, false, false, false, false, false, false, false,
  false, false, false, false, false, false, false, false, false, false]) (.seq (.seq (.reg false [I_ 24 [.sl 8] .mv, I_ 25 [.sl 6] .mv, I_ 26 [.tk 25] .lenS, I_ 27 [.tv 24, .tv 26] (.bin .lss)]) (.cond (.sl 27) .skip (.exit 0)))
  (.seq (.block 1 (.reg true [I_ 30 [.sl 6] .mv, I_ 31 [.sl 8] .mv, I_ 32 [.tv 31, .cv (.int .i64 1)] (.bin .sub), I_ 33 [.tv 30, .tv 32] (.ia 1), I_ 34 [.tv 33] (.ld .one), I_ 35 [.sl 6] .mv, I_ 36 [.sl 8] .mv, I_ 37 [.tv 35,
  .tv 36] (.ia 1), I_ 38 [.tv 37] (.ld .one), I_ 39 [.tk 7] .mv, I_ 40 [.cv (.func 74 [] []), .sl 34, .sl 38, .sl 39] (.call 3), I_ 7 [.tk 40] .mv])) (.reg false [I_ 28 [.tk 8] .mv, I_ 29 [.tv 28, .cv (.int .i64 1)] (.bin .add),
  I_ 8 [.tk 29] .mv])))))) (.seq (.reg false [I_ 41 [.tk 7] .mv, I_ 4 [.tk 41] .mv, I_ 5 [.cv (.int .i64 0)] .mv]) .ret)))))
theorem lk31 : linkF Go.Proofs.Try.prog ann31 31 = some (rc31, 42, [.tmp 4, .tmp 5]) := by kernel_rfl
noncomputable def rc32 : RC :=
  .seq (.reg false [I_ 4 [.cv (.bool false)] .mv]) (.seq (.seq (.reg false [I_ 6 [.sl 0] .mv, I_ 7 [.tk 6] .lenS, I_ 8 [.sl 1] .mv, I_ 9 [.tk 8] .lenS, I_ 10 [.tv 7, .tv 9] (.bin .neq)]) (.cond (.sl 10) (.seq (.reg false [I_ 4 [.cv
  (.bool false)] .mv]) .ret) .skip)) (.seq (.seq (.reg false [I_ 5 [.cv (.int .i64 0)] .mv]) (.block 0 (.loop (some [true, true, false, false, false, true, false, false, false, false, false, false, false, false, false, false,
  false, false, false, false, false, false, false, false, false, false]) (.seq (.seq (.reg false [I_ 11 [.sl 5] .mv, I_ 12 [.sl 0] .mv, I_ 13 [.tk 12] .lenS, I_ 14 [.tv 11, .tv 13] (.bin .lss)]) (.cond (.sl 14) .skip (.exit 0)))
  (.seq (.block 1 (.seq (.reg true [I_ 17 [.sl 0] .mv, I_ 18 [.sl 5] .mv, I_ 19 [.tv 17, .tv 18] (.ia 1), I_ 20 [.tv 19] (.ld .one), I_ 21 [.sl 1] .mv, I_ 22 [.sl 5] .mv, I_ 23 [.tv 21, .tv 22] (.ia 1), I_ 24 [.tv 23] (.ld .one),
  I_ 25 [.tv 20, .tv 24] (.bin .neq)]) (.cond (.sl 25) (.seq (.reg false [I_ 4 [.cv (.bool false)] .mv]) .ret) .skip))) (.reg false [I_ 15 [.tk 5] .mv, I_ 16 [.tv 15, .cv (.int .i64 1)] (.bin .add), I_ 5 [.tk 16] .mv])))))) (.seq
  (.reg false [I_ 4 [.cv (.bool true)] .mv]) .ret)))
theorem lk32 : linkF Go.Proofs.Try.prog ann32 32 = some (rc32, 26, [.tmp 4]) := by kernel_rfl
noncomputable def rc33 : RC :=
  .seq (.reg false [I_ 1 [.tk 0] .box, I_ 2 [.cv (.int .i64 0)] .mv, I_ 3 [.cv (.int .i64 0)] .mv]) (.seq (.reg false [I_ 7 [.tv 1] (.ld (.str 1)), I_ 8 [.cv (.func 75 [] []), .sl 7, .cv (.lst [] 0 .full)] (.call 3), I_ 6 [.tk 8]
  .mv, I_ 9 [.sl 6] (.ext 0), I_ 10 [.tv 6] (.ext 1), I_ 4 [.tk 9] .mv, I_ 5 [.tk 10] .mv]) (.seq (.seq (.reg false [I_ 11 [.sl 5] .mv, I_ 12 [.tv 11, .cv (.int .i64 0)] (.bin .neq)]) (.cond (.sl 12) (.seq (.reg false [I_ 13 [.tk
  5] .mv, I_ 2 [.cv (.int .i64 0)] .mv, I_ 3 [.tk 13] .mv]) .ret) .skip)) (.seq (.reg false [I_ 14 [.sl 4] .mv, I_ 15 [.tk 4] .mv, I_ 16 [.cv (.func 77 [] []), .sl 15] (.call 3), I_ 17 [.cv (.func 76 [] []), .sl 14, .sl 16]
  (.call 3), I_ 18 [.cv (.func 63 [] []), .sl 17] (.call 2), I_ 19 [.tk 18] .lenM, I_ 2 [.tk 19] .mv, I_ 3 [.cv (.int .i64 0)] .mv]) .ret)))
theorem lk33 : linkF Go.Proofs.Try.prog ann33 33 = some (rc33, 20, [.tmp 2, .tmp 3]) := by kernel_rfl
noncomputable def rc34 : RC :=
  .seq (.reg false [I_ 1 [.tk 0] .box, I_ 2 [.cv (.int .i64 0)] .mv, I_ 3 [.cv (.int .i64 0)] .mv]) (.seq (.seq (.reg false [I_ 4 [.sl 1] (.ld (.str 1)), I_ 5 [.cv (.func 26 [] []), .sl 4] (.call 3), I_ 6 [.tv 5, .cv (.int .i64 0)]
  (.bin .neq)]) (.cond (.sl 6) (.seq (.reg false [I_ 7 [.tv 1] (.ld (.str 1)), I_ 8 [.cv (.func 26 [] []), .sl 7] (.call 3), I_ 2 [.cv (.int .i64 0)] .mv, I_ 3 [.tk 8] .mv]) .ret) .skip)) (.seq (.reg false [I_ 9 [.tv 1] (.ld
  (.str 1)), I_ 10 [.cv (.func 78 [] []), .sl 9] (.call 3), I_ 2 [.tk 10] .mv, I_ 3 [.cv (.int .i64 0)] .mv]) .ret))
theorem lk34 : linkF Go.Proofs.Try.prog ann34 34 = some (rc34, 11, [.tmp 2, .tmp 3]) := by kernel_rfl
noncomputable def rc35 : RC :=
  .seq (.reg false [I_ 1 [.tk 0] .box, I_ 2 [.cv (.lst [] 0 .full)] (.nil 1), I_ 3 [.cv (.int .i64 0)] .mv]) (.seq (.reg false [I_ 7 [.tv 1] (.ld (.str 1)), I_ 8 [.cv (.func 75 [] []), .sl 7, .cv (.lst [] 0 .full)] (.call 3), I_ 6
  [.tk 8] .mv, I_ 9 [.sl 6] (.ext 0), I_ 10 [.tv 6] (.ext 1), I_ 4 [.tk 9] .mv, I_ 5 [.tk 10] .mv]) (.seq (.seq (.reg false [I_ 11 [.sl 5] .mv, I_ 12 [.tv 11, .cv (.int .i64 0)] (.bin .neq)]) (.cond (.sl 12) (.seq (.reg false [I_
  13 [.tk 5] .mv, I_ 2 [.cv (.lst [] 0 .full)] (.nil 1), I_ 3 [.tk 13] .mv]) .ret) .skip)) (.seq (.reg false [I_ 14 [.tk 4] .mv, I_ 15 [.cv (.func 77 [] []), .sl 14] (.call 3), I_ 2 [.tk 15] .mv, I_ 3 [.cv (.int .i64 0)] .mv])
  .ret)))
theorem lk35 : linkF Go.Proofs.Try.prog ann35 35 = some (rc35, 16, [.tmp 2, .tmp 3]) := by kernel_rfl
noncomputable def rc36 : RC :=
  .seq (.reg false [I_ 1 [.tk 0] .box, I_ 2 [.cv (.lst [] 0 .full)] (.nil 1), I_ 3 [.cv (.int .i64 0)] .mv]) (.seq (.seq (.reg false [I_ 13 [.sl 1] (.ld (.str 1)), I_ 14 [.cv (.func 26 [] []), .sl 13] (.call 3), I_ 15 [.tv 14, .cv
  (.int .i64 0)] (.bin .neq)]) (.cond (.sl 15) (.seq (.reg false [I_ 16 [.tv 1] (.ld (.str 1)), I_ 17 [.cv (.func 26 [] []), .sl 16] (.call 3), I_ 2 [.cv (.lst [] 0 .full)] (.nil 1), I_ 3 [.tk 17] .mv]) .ret) .skip)) (.seq (.reg
  false [I_ 18 [.sl 1] (.ld (.str 1)), I_ 19 [.cv (.func 79 [] []), .sl 18] (.call 3), I_ 4 [.tk 19] .mv]) (.seq (.reg false [I_ 20 [.sl 1] (.ld (.str 1)), I_ 21 [.cv (.func 78 [] []), .sl 20] (.call 3), I_ 5 [.tk 21] .mv]) (.seq
  (.reg false [I_ 6 [.cv (.lst [] 0 .full)] (.nil 1)]) (.seq (.reg false [I_ 7 [.cv (.lst [] 0 .full)] (.nil 1)]) (.seq (.seq (.reg false [I_ 8 [.cv (.int .i64 0)] .mv]) (.block 0 (.loop (some [false, true, false, false, true,
  true, true, true, true, false, false, false, false, false, false, false, false, false, false, false, false, false, false, false, false, false, false, false, false, false, false, false, false, false, false, false, false, false,
  false, false, false, false, false, false, false, false, false, false, false, false, false, false, false, false, false, false, false, false, false, false, false, false, false, false, false, false, false, false, false, false,
  false, false, false, false, false, false, false, false, false, false, false, false, false, false]) (.seq (.seq (.reg false [I_ 22 [.sl 8] .mv, I_ 23 [.sl 1] (.fa 0), I_ 24 [.tv 23] (.ld .one), I_ 25 [.tk 24] .lenS, I_ 26 [.tv
  22, .tv 25] (.bin .lss)]) (.cond (.sl 26) .skip (.exit 0))) (.seq (.block 1 (.seq (.reg true [I_ 29 [.sl 1] (.fa 0), I_ 30 [.tv 29] (.ld .one), I_ 31 [.sl 8] .mv, I_ 32 [.tv 30, .tv 31] (.ia 1), I_ 33 [.tv 32] (.ld .one), I_ 34
  [.tk 33] .lenS, I_ 35 [.cv (.func 80 [] []), .sl 34] (.call 3), I_ 36 [.sl 1] (.fa 0), I_ 37 [.tv 36] (.ld .one), I_ 38 [.sl 8] .mv, I_ 39 [.tv 37, .tv 38] (.ia 1), I_ 40 [.tv 39] (.ld .one), I_ 41 [.cv (.func 81 [] []), .sl
  40] (.call 3), I_ 9 [.tk 35] .mv, I_ 10 [.tk 41] .mv]) (.seq (.reg false [I_ 11 [.cv (.int .i64 0)] .mv]) (.block 2 (.loop (some [false, true, false, false, true, true, true, true, true, true, true, true, false, false, false,
  false, false, false, false, false, false, false, false, false, false, false, false, false, false, false, false, false, false, false, false, false, false, false, false, false, false, false, false, false, false, false, false,
  false, false, false, false, false, false, false, false, false, false, false, false, false, false, false, false, false, false, false, false, false, false, false, false, false, false, false, false, false, false, false, false,
  false, false, false, false, false]) (.seq (.seq (.reg false [I_ 42 [.sl 11] .mv, I_ 43 [.sl 9] .mv, I_ 44 [.tk 43] .lenS, I_ 45 [.tv 42, .tv 44] (.bin .lss)]) (.cond (.sl 45) .skip (.exit 2))) (.seq (.block 3 (.seq (.reg false
  [I_ 48 [.sl 7] .mv, I_ 49 [.sl 10] .mv, I_ 50 [.sl 11] .mv, I_ 51 [.tv 49, .tv 50] (.ia 1), I_ 52 [.tv 51] (.ld .one), I_ 53 [.cv (.func 51 [] []), .sl 48, .sl 52] (.call 3), I_ 12 [.tk 53] .mv]) (.seq (.reg false [I_ 54 [.tk
  12] .mv, I_ 55 [.sl 4] .mv, I_ 56 [.sl 8] .mv, I_ 57 [.tv 55, .tv 56] (.ia 1), I_ 58 [.tv 57] (.ld .one), I_ 59 [.sl 11] .mv, I_ 60 [.tv 58, .tv 59] (.ia 1), I_ 61 [.tv 60] (.ld .one), I_ 62 [.tv 54, .tv 61] (.bin .add), I_ 63
  [.sl 5] .mv, I_ 64 [.tv 62, .tv 63] (.bin .eql)]) (.cond (.sl 64) (.seq (.reg true [I_ 65 [.tk 6] .mv, I_ 66 [.tk 9] .mv, I_ 67 [.sl 11] .mv, I_ 68 [.tv 66, .tv 67] (.ia 1), I_ 69 [.tv 68] (.ld .one), I_ 70 [.tv 69] (.buildS 1
  1 [.lst [] 0 .full] [0]), I_ 71 [.tk 65, .tk 70] (.app 1 24), I_ 72 [.tk 10] .mv, I_ 73 [.sl 11] .mv, I_ 74 [.tv 72, .tv 73] (.ia 1), I_ 75 [.tv 74] (.ld .one), I_ 76 [.sl 4] .mv, I_ 77 [.sl 8] .mv, I_ 78 [.tv 76, .tv 77] (.ia
  1), I_ 79 [.tv 78] (.ld .one), I_ 80 [.sl 11] .mv, I_ 81 [.tv 79, .tv 80] (.ia 1), I_ 82 [.tv 81] (.ld .one), I_ 6 [.tk 71] .mv, I_ 7 [.tk 75] .mv, I_ 5 [.tk 82] .mv]) (.exit 2)) .skip)))) (.reg false [I_ 46 [.tk 11] .mv, I_ 47
  [.tv 46, .cv (.int .i64 1)] (.bin .add), I_ 11 [.tk 47] .mv])))))))) (.reg false [I_ 27 [.tk 8] .mv, I_ 28 [.tv 27, .cv (.int .i64 1)] (.bin .add), I_ 8 [.tk 28] .mv])))))) (.seq (.reg false [I_ 83 [.tk 6] .mv, I_ 2 [.tk 83]
  .mv, I_ 3 [.cv (.int .i64 0)] .mv]) .ret)))))))
theorem lk36 : linkF Go.Proofs.Try.prog ann36 36 = some (rc36, 84, [.tmp 2, .tmp 3]) := by kernel_rfl
noncomputable def rc37 : RC :=
  .seq (.reg false [I_ 2 [.tk 0] .box, I_ 4 [.cv (.int .i64 0)] .mv, I_ 5 [.cv (.int .i64 0)] .mv]) (.seq (.seq (.reg false [I_ 9 [.sl 2] (.ld (.str 1)), I_ 10 [.sl 1] .mv, I_ 11 [.tv 10] (.buildS 1 1 [.int .i64 0] [0]), I_ 12 [.cv
  (.func 75 [] []), .sl 9, .sl 11] (.call 3), I_ 8 [.tk 12] .mv, I_ 13 [.sl 8] (.ext 0), I_ 14 [.tv 8] (.ext 1), I_ 6 [.tk 13] .mv, I_ 7 [.tk 14] .mv]) (.seq (.reg false [I_ 15 [.sl 7] .mv, I_ 16 [.tv 15, .cv (.int .i64 0)] (.bin
  .neq)]) (.cond (.sl 16) (.seq (.reg false [I_ 17 [.tk 7] .mv, I_ 4 [.cv (.int .i64 0)] .mv, I_ 5 [.tk 17] .mv]) .ret) .skip))) (.seq (.seq (.reg false [I_ 18 [.sl 1] .mv, I_ 19 [.sl 2] (.fa 0), I_ 20 [.tv 19] (.ld .one), I_ 21
  [.tk 20] .lenS, I_ 22 [.tv 21, .cv (.int .i64 1)] (.bin .sub), I_ 23 [.tv 18, .tv 22] (.bin .eql)]) (.cond (.sl 23) (.seq (.reg false [I_ 4 [.cv (.int .i64 0)] .mv, I_ 5 [.cv (.int .i64 2)] .mv]) .ret) .skip)) (.seq (.reg false
  [I_ 24 [.tv 2] (.fa 0), I_ 25 [.tv 24] (.ld .one), I_ 26 [.sl 1] .mv, I_ 27 [.tk 1] .mv, I_ 28 [.tv 27, .cv (.int .i64 2)] (.bin .add), I_ 29 [.tk 25, .tk 26, .tk 28] (.slS 1 true true false), I_ 30 [.tv 29] (.build [.lst [] 0
  .full] [(0, 1)]), I_ 31 [.cv (.func 33 [] []), .sl 30] (.call 3), I_ 32 [.sl 31] (.ext 0), I_ 33 [.tv 31] (.ext 1), I_ 4 [.tk 32] .mv, I_ 5 [.tk 33] .mv]) .ret)))
theorem lk37 : linkF Go.Proofs.Try.prog ann37 37 = some (rc37, 34, [.tmp 4, .tmp 5]) := by kernel_rfl
noncomputable def rc38 : RC :=
  .seq (.reg false [I_ 2 [.tk 0] .box, I_ 4 [.cv (.int .i64 0)] .mv, I_ 5 [.cv (.int .i64 0)] .mv]) (.seq (.seq (.reg false [I_ 6 [.sl 2] (.ld (.str 1)), I_ 7 [.cv (.func 26 [] []), .sl 6] (.call 3), I_ 8 [.tv 7, .cv (.int .i64 0)]
  (.bin .neq)]) (.cond (.sl 8) (.seq (.reg false [I_ 9 [.tv 2] (.ld (.str 1)), I_ 10 [.cv (.func 26 [] []), .sl 9] (.call 3), I_ 4 [.cv (.int .i64 0)] .mv, I_ 5 [.tk 10] .mv]) .ret) .skip)) (.seq (.seq (.reg false [I_ 11 [.sl 1]
  .mv, I_ 12 [.tv 11, .cv (.int .i64 0)] (.bin .lss), I_ 13 [.tk 12] .mv, ⟨some 14, [.sl 1], some (13, false), none, .mv⟩, ⟨some 15, [.sl 2], some (13, false), none, .fa 0⟩, ⟨some 16, [.tv 15], some (13, false), none, .ld .one⟩,
  ⟨some 17, [.tk 16], some (13, false), none, .lenS⟩, ⟨some 18, [.tv 17, .cv (.int .i64 1)], some (13, false), none, .bin .sub⟩, ⟨some 19, [.tv 14, .tv 18], some (13, false), none, .bin .geq⟩, I_ 20 [.tv 13, .cv (.bool true), .tv
  19] .pick]) (.cond (.sl 20) (.seq (.reg false [I_ 4 [.cv (.int .i64 0)] .mv, I_ 5 [.cv (.int .i64 2)] .mv]) .ret) .skip)) (.seq (.reg false [I_ 21 [.tv 2] (.ld (.str 1)), I_ 22 [.tk 1] .mv, I_ 23 [.cv (.func 82 [] []), .sl 21,
  .sl 22] (.call 3), I_ 4 [.tk 23] .mv, I_ 5 [.cv (.int .i64 0)] .mv]) .ret)))
theorem lk38 : linkF Go.Proofs.Try.prog ann38 38 = some (rc38, 24, [.tmp 4, .tmp 5]) := by kernel_rfl
noncomputable def rc39 : RC :=
  .seq (.reg false [I_ 4 [.cv (.bool false)] .mv]) (.seq (.seq (.reg false [I_ 7 [.sl 0] .mv, I_ 8 [.tk 7] .lenS, I_ 9 [.sl 1] .mv, I_ 10 [.tk 9] .lenS, I_ 11 [.tv 8, .tv 10] (.bin .neq)]) (.cond (.sl 11) (.seq (.reg false [I_ 4
  [.cv (.bool false)] .mv]) .ret) .skip)) (.seq (.seq (.reg false [I_ 5 [.cv (.int .i64 0)] .mv]) (.block 0 (.loop (some [true, true, false, false, false, true, false, false, false, false, false, false, false, false, false,
  false, false, false, false, false, false, false, false, false, false, false, false, false, false, false, false, false, false, false, false, false, false, false, false, false, false, false, false, false, false, false, false,
  false, false, false, false, false, false]) (.seq (.seq (.reg false [I_ 12 [.sl 5] .mv, I_ 13 [.sl 0] .mv, I_ 14 [.tk 13] .lenS, I_ 15 [.tv 12, .tv 14] (.bin .lss)]) (.cond (.sl 15) .skip (.exit 0))) (.seq (.block 1 (.seq (.seq
  (.reg true [I_ 18 [.sl 0] .mv, I_ 19 [.sl 5] .mv, I_ 20 [.tv 18, .tv 19] (.ia 1), I_ 21 [.tv 20] (.ld .one), I_ 22 [.tk 21] .lenS, I_ 23 [.sl 1] .mv, I_ 24 [.sl 5] .mv, I_ 25 [.tv 23, .tv 24] (.ia 1), I_ 26 [.tv 25] (.ld .one),
  I_ 27 [.tk 26] .lenS, I_ 28 [.tv 22, .tv 27] (.bin .neq)]) (.cond (.sl 28) (.seq (.reg false [I_ 4 [.cv (.bool false)] .mv]) .ret) .skip)) (.seq (.reg false [I_ 6 [.cv (.int .i64 0)] .mv]) (.block 2 (.loop (some [true, true,
  false, false, false, true, true, false, false, false, false, false, false, false, false, false, false, false, false, false, false, false, false, false, false, false, false, false, false, false, false, false, false, false,
  false, false, false, false, false, false, false, false, false, false, false, false, false, false, false, false, false, false, false]) (.seq (.seq (.reg false [I_ 29 [.sl 6] .mv, I_ 30 [.sl 0] .mv, I_ 31 [.sl 5] .mv, I_ 32 [.tv
  30, .tv 31] (.ia 1), I_ 33 [.tv 32] (.ld .one), I_ 34 [.tk 33] .lenS, I_ 35 [.tv 29, .tv 34] (.bin .lss)]) (.cond (.sl 35) .skip (.exit 2))) (.seq (.block 3 (.seq (.reg true [I_ 38 [.sl 0] .mv, I_ 39 [.sl 5] .mv, I_ 40 [.tv 38,
  .tv 39] (.ia 1), I_ 41 [.tv 40] (.ld .one), I_ 42 [.sl 6] .mv, I_ 43 [.tv 41, .tv 42] (.ia 1), I_ 44 [.tv 43] (.ld .one), I_ 45 [.sl 1] .mv, I_ 46 [.sl 5] .mv, I_ 47 [.tv 45, .tv 46] (.ia 1), I_ 48 [.tv 47] (.ld .one), I_ 49
  [.sl 6] .mv, I_ 50 [.tv 48, .tv 49] (.ia 1), I_ 51 [.tv 50] (.ld .one), I_ 52 [.tv 44, .tv 51] (.bin .neq)]) (.cond (.sl 52) (.seq (.reg false [I_ 4 [.cv (.bool false)] .mv]) .ret) .skip))) (.reg false [I_ 36 [.tk 6] .mv, I_ 37
  [.tv 36, .cv (.int .i64 1)] (.bin .add), I_ 6 [.tk 37] .mv])))))))) (.reg false [I_ 16 [.tk 5] .mv, I_ 17 [.tv 16, .cv (.int .i64 1)] (.bin .add), I_ 5 [.tk 17] .mv])))))) (.seq (.reg false [I_ 4 [.cv (.bool true)] .mv]) .ret)))
theorem lk39 : linkF Go.Proofs.Try.prog ann39 39 = some (rc39, 53, [.tmp 4]) := by kernel_rfl
noncomputable def rc40 : RC :=
  .seq (.reg false [I_ 2 [.tk 0] .box, I_ 4 [.cv (.lst [] 0 .full)] (.nil 1), I_ 5 [.cv (.int .i64 0)] .mv]) (.seq (.reg false [I_ 11 [.tv 2] (.ld (.str 1)), I_ 12 [.sl 1] .mv, I_ 13 [.tv 12] (.buildS 1 1 [.int .i64 0] [0]), I_ 14
  [.cv (.func 75 [] []), .sl 11, .sl 13] (.call 3), I_ 10 [.tk 14] .mv, I_ 15 [.sl 10] (.ext 0), I_ 16 [.tv 10] (.ext 1), I_ 6 [.tk 15] .mv, I_ 7 [.tk 16] .mv]) (.seq (.seq (.reg false [I_ 17 [.sl 7] .mv, I_ 18 [.tv 17, .cv (.int
  .i64 0)] (.bin .neq)]) (.cond (.sl 18) (.seq (.reg false [I_ 19 [.tk 7] .mv, I_ 4 [.cv (.lst [] 0 .full)] (.nil 1), I_ 5 [.tk 19] .mv]) .ret) .skip)) (.seq (.reg false [I_ 20 [.tk 6] .mv, I_ 21 [.tk 1] .mv, I_ 22 [.cv (.func 83
  [] []), .sl 20, .sl 21] (.call 3), I_ 8 [.tk 22] .mv]) (.seq (.reg false [I_ 23 [.sl 8] .mv, I_ 24 [.tk 23] .lenS, I_ 25 [.sl 24, .tv 24] (.mkS [.int .i64 0] 1 8), I_ 9 [.tk 25] .mv]) (.seq (.reg false [I_ 26 [.sl 9] .mv, I_ 27
  [.tk 8] .mv, I_ 28 [.tk 26, .tk 27] (.other (Oper.mk (some 28) (Op.call (Call.mk (Callee.builtin Builtin.copy) (Array.mk [Operand.tmp 26, Operand.tmp 27]) (Array.mk [37, 37]))) 3 "seam.go:153" (Array.mk [Edge.mk 0 Ground.data,
  Edge.mk 1 Ground.data]) none) 0)]) (.seq (.reg false [I_ 29 [.tk 9] .mv, I_ 4 [.tk 29] .mv, I_ 5 [.cv (.int .i64 0)] .mv]) .ret))))))
theorem lk40 : linkF Go.Proofs.Try.prog ann40 40 = some (rc40, 30, [.tmp 4, .tmp 5]) := by kernel_rfl
noncomputable def rc41 : RC :=
  .seq (.reg false [I_ 2 [.tk 0] .box, I_ 4 [.cv (.lst [] 0 .full)] (.nil 1), I_ 5 [.cv (.int .i64 0)] .mv]) (.seq (.seq (.reg false [I_ 6 [.sl 2] (.ld (.str 1)), I_ 7 [.sl 1] .mv, I_ 8 [.cv (.func 84 [] []), .sl 6, .sl 7] (.call
  3), I_ 9 [.tv 8, .cv (.int .i64 0)] (.bin .neq)]) (.cond (.sl 9) (.seq (.reg false [I_ 10 [.tv 2] (.ld (.str 1)), I_ 11 [.tk 1] .mv, I_ 12 [.cv (.func 84 [] []), .sl 10, .sl 11] (.call 3), I_ 4 [.cv (.lst [] 0 .full)] (.nil 1),
  I_ 5 [.tk 12] .mv]) .ret) .skip)) (.seq (.reg false [I_ 13 [.tv 2] (.fa 0), I_ 14 [.tv 13] (.ld .one), I_ 15 [.tk 1] .mv, I_ 16 [.tv 14, .tv 15] (.ia 1), I_ 17 [.tv 16] (.ld .one), I_ 18 [.cv (.func 85 [] []), .sl 17] (.call
  3), I_ 4 [.tk 18] .mv, I_ 5 [.cv (.int .i64 0)] .mv]) .ret))
theorem lk41 : linkF Go.Proofs.Try.prog ann41 41 = some (rc41, 19, [.tmp 4, .tmp 5]) := by kernel_rfl
noncomputable def rc42 : RC :=
  .seq (.reg false [I_ 2 [.tk 0] .box, I_ 3 [.tk 1] .box, I_ 4 [.cv (.lst [] 0 .full)] (.nil 1), I_ 5 [.cv (.int .i64 0)] .mv]) (.seq (.reg false [I_ 12 [.tv 2] (.ld (.str 1)), I_ 13 [.sl 3] (.ld .one), I_ 14 [.tv 13] (.buildS 1 1
  [.int .i64 0] [0]), I_ 15 [.cv (.func 75 [] []), .sl 12, .sl 14] (.call 3), I_ 11 [.tk 15] .mv, I_ 16 [.sl 11] (.ext 0), I_ 17 [.tv 11] (.ext 1), I_ 6 [] (.alloc [.nilp]), ⟨none, [.sl 6, .tk 16], none, none, .st 1⟩, I_ 7 [.tk
  17] .mv]) (.seq (.seq (.reg false [I_ 18 [.sl 7] .mv, I_ 19 [.tv 18, .cv (.int .i64 0)] (.bin .neq)]) (.cond (.sl 19) (.seq (.reg false [I_ 20 [.tk 7] .mv, I_ 4 [.cv (.lst [] 0 .full)] (.nil 1), I_ 5 [.tk 20] .mv]) .ret)
  .skip)) (.seq (.reg false [I_ 21 [.sl 6] (.ld .one), I_ 22 [.sl 3] (.ld .one), I_ 23 [.cv (.func 83 [] []), .sl 21, .sl 22] (.call 2), I_ 8 [] (.alloc [.lst [] 0 .full]), ⟨none, [.sl 8, .tk 23], none, none, .st 1⟩]) (.seq (.seq
  (.reg false [I_ 24 [.sl 6] (.ld .one), I_ 25 [.sl 3] (.ld .one), I_ 26 [.cv (.func 86 [] []), .sl 24, .sl 25] (.call 3)]) (.block 0 (.rng (.sl 26) [27] (rngA Go.Proofs.Try.prog 42 0) (rngB Go.Proofs.Try.prog 42 0)))) (.seq
  (.reg false [I_ 35 [.tv 8] (.ld .one), I_ 4 [.tk 35] .mv, I_ 5 [.cv (.int .i64 0)] .mv]) .ret)))))
theorem lk42 : linkF Go.Proofs.Try.prog ann42 42 = some (rc42, 36, [.tmp 4, .tmp 5]) := by kernel_rfl
noncomputable def rc43 : RC :=
  .seq (.reg false [I_ 2 [.tk 0] .box, I_ 4 [.cv (.lst [] 0 .full)] (.nil 1), I_ 5 [.cv (.int .i64 0)] .mv]) (.seq (.seq (.reg false [I_ 6 [.sl 2] (.ld (.str 1)), I_ 7 [.sl 1] .mv, I_ 8 [.cv (.func 84 [] []), .sl 6, .sl 7] (.call
  3), I_ 9 [.tv 8, .cv (.int .i64 0)] (.bin .neq)]) (.cond (.sl 9) (.seq (.reg false [I_ 10 [.tv 2] (.ld (.str 1)), I_ 11 [.tk 1] .mv, I_ 12 [.cv (.func 84 [] []), .sl 10, .sl 11] (.call 3), I_ 4 [.cv (.lst [] 0 .full)] (.nil 1),
  I_ 5 [.tk 12] .mv]) .ret) .skip)) (.seq (.reg false [I_ 13 [.tv 2] (.fa 0), I_ 14 [.tv 13] (.ld .one), I_ 15 [.tk 1] .mv, I_ 16 [.tv 14, .tv 15] (.ia 1), I_ 17 [.tv 16] (.ld .one), I_ 18 [.cv (.func 90 [] []), .sl 17] (.call
  3), I_ 4 [.tk 18] .mv, I_ 5 [.cv (.int .i64 0)] .mv]) .ret))
theorem lk43 : linkF Go.Proofs.Try.prog ann43 43 = some (rc43, 19, [.tmp 4, .tmp 5]) := by kernel_rfl
noncomputable def rc44 : RC :=
  .seq (.reg false [I_ 1 [.tk 0] .box, I_ 2 [.cv (.int .i64 0)] .mv, I_ 3 [.cv (.int .i64 0)] .mv]) (.seq (.reg false [I_ 7 [.tv 1] (.ld (.str 1)), I_ 8 [.cv (.func 75 [] []), .sl 7, .cv (.lst [] 0 .full)] (.call 3), I_ 6 [.tk 8]
  .mv, I_ 9 [.sl 6] (.ext 0), I_ 10 [.tv 6] (.ext 1), I_ 4 [.tk 9] .mv, I_ 5 [.tk 10] .mv]) (.seq (.seq (.reg false [I_ 11 [.sl 5] .mv, I_ 12 [.tv 11, .cv (.int .i64 0)] (.bin .neq)]) (.cond (.sl 12) (.seq (.reg false [I_ 13 [.tk
  5] .mv, I_ 2 [.cv (.int .i64 0)] .mv, I_ 3 [.tk 13] .mv]) .ret) .skip)) (.seq (.reg false [I_ 14 [.tk 4] .mv, I_ 15 [.cv (.func 91 [] []), .sl 14] (.call 3), I_ 16 [.tv 15] (.fld 3 .one), I_ 2 [.tk 16] .mv, I_ 3 [.cv (.int .i64
  0)] .mv]) .ret)))
theorem lk44 : linkF Go.Proofs.Try.prog ann44 44 = some (rc44, 17, [.tmp 2, .tmp 3]) := by kernel_rfl
noncomputable def rc45 : RC :=
  .seq (.reg false [I_ 1 [.tk 0] .box, I_ 2 [.cv (.int .i64 0)] .mv, I_ 3 [.cv (.int .i64 0)] .mv]) (.seq (.seq (.reg false [I_ 4 [.sl 1] (.ld (.str 1)), I_ 5 [.cv (.func 26 [] []), .sl 4] (.call 3), I_ 6 [.tv 5, .cv (.int .i64 0)]
  (.bin .neq)]) (.cond (.sl 6) (.seq (.reg false [I_ 7 [.tv 1] (.ld (.str 1)), I_ 8 [.cv (.func 26 [] []), .sl 7] (.call 3), I_ 2 [.cv (.int .i64 0)] .mv, I_ 3 [.tk 8] .mv]) .ret) .skip)) (.seq (.reg false [I_ 9 [.tv 1] (.ld
  (.str 1)), I_ 10 [.cv (.func 92 [] []), .sl 9] (.call 3), I_ 2 [.tk 10] .mv, I_ 3 [.cv (.int .i64 0)] .mv]) .ret))
theorem lk45 : linkF Go.Proofs.Try.prog ann45 45 = some (rc45, 11, [.tmp 2, .tmp 3]) := by kernel_rfl
noncomputable def rc46 : RC :=
  .seq (.reg false [I_ 2 [.tk 0] .box, I_ 4 [.cv (.lst [] 0 .full)] (.nil 1), I_ 5 [.cv (.int .i64 0)] .mv]) (.seq (.reg false [I_ 10 [.tv 2] (.ld (.str 1)), I_ 11 [.cv (.func 75 [] []), .sl 10, .cv (.lst [] 0 .full)] (.call 3), I_
  9 [.tk 11] .mv, I_ 12 [.sl 9] (.ext 0), I_ 13 [.tv 9] (.ext 1), I_ 6 [.tk 12] .mv, I_ 7 [.tk 13] .mv]) (.seq (.block 0 (.seq (.reg false [I_ 15 [.sl 7] .mv, I_ 16 [.tv 15, .cv (.int .i64 0)] (.bin .neq), I_ 14 [.tk 16] .mv])
  (.cond (.sl 14) (.seq (.reg false [I_ 17 [.tk 7] .mv, I_ 4 [.cv (.lst [] 0 .full)] (.nil 1), I_ 5 [.tk 17] .mv]) .ret) (.seq (.reg false [I_ 19 [.sl 1] .mv, I_ 20 [.tv 19, .cv (.int .i64 0)] (.bin .lss), I_ 18 [.tk 20] .mv])
  (.cond (.sl 18) (.seq (.reg false [I_ 4 [.cv (.lst [] 0 .full)] (.nil 1), I_ 5 [.cv (.int .i64 3)] .mv]) .ret) .skip))))) (.seq (.reg false [I_ 21 [.tk 6] .mv, I_ 22 [.cv (.func 91 [] []), .sl 21] (.call 3), I_ 8 [] (.alloc
  [.lst [] 0 .full, .lst [] 0 .full, .int .i64 0, .int .i64 0]), ⟨none, [.sl 8, .tk 22], none, none, .st 4⟩]) (.seq (.seq (.reg false [I_ 23 [.tk 1] .mv, I_ 24 [.sl 8] (.fa 3), I_ 25 [.tv 24] (.ld .one), I_ 26 [.tv 23, .tv 25]
  (.bin .gtr)]) (.cond (.sl 26) (.seq (.reg false [I_ 4 [.cv (.lst [] 0 .full)] (.nil 1), I_ 5 [.cv (.int .i64 21)] .mv]) .ret) .skip)) (.seq (.reg false [I_ 27 [.tv 8] (.fa 0), I_ 28 [.tv 27] (.ld .one), I_ 4 [.tk 28] .mv, I_ 5
  [.cv (.int .i64 0)] .mv]) .ret)))))
theorem lk46 : linkF Go.Proofs.Try.prog ann46 46 = some (rc46, 29, [.tmp 4, .tmp 5]) := by kernel_rfl
noncomputable def rc47 : RC :=
  .seq (.reg false [I_ 2 [.tk 0] .box, I_ 4 [.cv (.int .i64 0)] .mv]) (.seq (.seq (.reg false [I_ 5 [.sl 2] (.ld (.str 1)), I_ 6 [.cv (.func 26 [] []), .sl 5] (.call 3), I_ 7 [.tv 6, .cv (.int .i64 0)] (.bin .neq)]) (.cond (.sl 7)
  (.seq (.reg false [I_ 8 [.tv 2] (.ld (.str 1)), I_ 9 [.cv (.func 26 [] []), .sl 8] (.call 3), I_ 4 [.tk 9] .mv]) .ret) .skip)) (.seq (.seq (.reg false [I_ 10 [.sl 1] .mv, I_ 11 [.tv 10, .cv (.int .i64 0)] (.bin .lss)]) (.cond
  (.sl 11) (.seq (.reg false [I_ 4 [.cv (.int .i64 3)] .mv]) .ret) .skip)) (.seq (.seq (.reg false [I_ 12 [.tk 1] .mv, I_ 13 [.tv 2] (.ld (.str 1)), I_ 14 [.cv (.func 92 [] []), .sl 13] (.call 3), I_ 15 [.tv 12, .tv 14] (.bin
  .gtr)]) (.cond (.sl 15) (.seq (.reg false [I_ 4 [.cv (.int .i64 21)] .mv]) .ret) .skip)) (.seq (.reg false [I_ 4 [.cv (.int .i64 0)] .mv]) .ret))))
theorem lk47 : linkF Go.Proofs.Try.prog ann47 47 = some (rc47, 16, [.tmp 4]) := by kernel_rfl
noncomputable def rc48 : RC :=
  .seq (.reg false [I_ 1 [.tk 0] .box, I_ 2 [.cv (.bool false)] .mv]) (.seq (.reg false [I_ 3 [.sl 1] (.ld (.str 1)), I_ 4 [.cv (.func 18 [] []), .sl 3] (.call 3), I_ 5 [.tv 4] (.un .not), I_ 6 [.tk 5] .mv, ⟨some 7, [.tv 1], some
  (6, true), none, .ld (.str 1)⟩, ⟨some 8, [.cv (.func 26 [] []), .sl 7], some (6, true), none, .call 3⟩, ⟨some 9, [.tv 8, .cv (.int .i64 0)], some (6, true), none, .bin .eql⟩, I_ 10 [.tv 6, .tv 9, .cv (.bool false)] .pick, I_ 2
  [.tk 10] .mv]) .ret)
theorem lk48 : linkF Go.Proofs.Try.prog ann48 48 = some (rc48, 11, [.tmp 2]) := by kernel_rfl
noncomputable def rc49 : RC :=
  .seq (.reg false [I_ 1 [.tk 0] .box, I_ 2 [.cv (.int .i64 0)] .mv, I_ 3 [.cv (.bool false)] .mv]) (.seq (.reg false [I_ 11 [.sl 1] (.ld (.str 1)), I_ 12 [.cv (.func 33 [] []), .sl 11] (.call 3), I_ 10 [.tk 12] .mv, I_ 13 [.sl 10]
  (.ext 0), I_ 14 [.tv 10] (.ext 1), I_ 4 [.tk 13] .mv, I_ 5 [.tk 14] .mv]) (.seq (.reg false [I_ 16 [.sl 1] (.ld (.str 1)), I_ 17 [.cv (.func 35 [] []), .sl 16] (.call 3), I_ 15 [.tk 17] .mv, I_ 18 [.sl 15] (.ext 0), I_ 19 [.tv
  15] (.ext 1), I_ 6 [.tk 18] .mv, I_ 7 [.tk 19] .mv]) (.seq (.seq (.reg false [I_ 20 [.tk 5] .mv, I_ 21 [.tv 20, .cv (.int .i64 0)] (.bin .neq), I_ 22 [.tk 21] .mv, ⟨some 23, [.tk 7], some (22, false), none, .mv⟩, ⟨some 24, [.tv
  23, .cv (.int .i64 0)], some (22, false), none, .bin .neq⟩, I_ 25 [.tv 22, .cv (.bool true), .tv 24] .pick, I_ 26 [.tk 25] .mv, ⟨some 27, [.sl 6], some (26, false), none, .mv⟩, ⟨some 28, [.cv (.func 19 [] []), .sl 27], some
  (26, false), none, .call 3⟩, I_ 29 [.tv 26, .cv (.bool true), .tv 28] .pick]) (.cond (.sl 29) (.seq (.reg false [I_ 30 [.tk 4] .mv, I_ 2 [.tk 30] .mv, I_ 3 [.cv (.bool false)] .mv]) .ret) .skip)) (.seq (.reg false [I_ 32 [.sl
  1] (.ld (.str 1)), I_ 33 [.sl 6] .mv, I_ 34 [.cv (.func 21 [] []), .sl 32, .sl 33] (.call 3), I_ 31 [.tk 34] .mv, I_ 35 [.sl 31] (.ext 0), I_ 36 [.tv 31] (.ext 1), I_ 8 [.tk 35] .mv, I_ 5 [.tk 36] .mv]) (.seq (.reg false [I_ 38
  [.tv 1] (.ld (.str 1)), I_ 39 [.tk 6] .mv, I_ 40 [.cv (.func 22 [] []), .sl 38, .sl 39] (.call 3), I_ 37 [.tk 40] .mv, I_ 41 [.sl 37] (.ext 0), I_ 42 [.tv 37] (.ext 1), I_ 9 [.tk 41] .mv, I_ 7 [.tk 42] .mv]) (.seq (.reg false
  [I_ 43 [.sl 4] .mv, I_ 44 [.tk 5] .mv, I_ 45 [.tv 44, .cv (.int .i64 0)] (.bin .eql), I_ 46 [.tk 45] .mv, ⟨some 47, [.tk 7], some (46, true), none, .mv⟩, ⟨some 48, [.tv 47, .cv (.int .i64 0)], some (46, true), none, .bin .eql⟩,
  I_ 49 [.tv 46, .tv 48, .cv (.bool false)] .pick, I_ 50 [.tk 49] .mv, ⟨some 51, [.tk 8], some (50, true), none, .mv⟩, ⟨some 52, [.sl 4], some (50, true), none, .mv⟩, ⟨some 53, [.tv 51, .tv 52], some (50, true), none, .bin .eql⟩,
  I_ 54 [.tv 50, .tv 53, .cv (.bool false)] .pick, I_ 55 [.tk 54] .mv, ⟨some 56, [.tk 9], some (55, true), none, .mv⟩, ⟨some 57, [.tk 4], some (55, true), none, .mv⟩, ⟨some 58, [.tv 56, .tv 57], some (55, true), none, .bin .eql⟩,
  I_ 59 [.tv 55, .tv 58, .cv (.bool false)] .pick, I_ 2 [.tk 43] .mv, I_ 3 [.tk 59] .mv]) .ret))))))
theorem lk49 : linkF Go.Proofs.Try.prog ann49 49 = some (rc49, 60, [.tmp 2, .tmp 3]) := by kernel_rfl
noncomputable def rc50 : RC :=
  .seq (.reg false [I_ 2 [.tk 0] .box, I_ 4 [.cv (.lst [] 0 .full)] (.nil 1)]) (.seq (.reg false [I_ 5 [.cv (.lst [] 0 .full)] (.nil 1)]) (.seq (.reg false [I_ 6 [.cv (.int .i64 0)] .mv]) (.seq (.seq (.reg false [I_ 7 [.cv (.int
  .i64 0)] .mv]) (.block 0 (.loop (some [false, true, true, false, false, true, true, true, false, false, false, false, false, false, false, false, false, false, false, false, false, false, false, false, false, false, false,
  false, false, false, false, false, false, false, false, false, false, false, false, false, false, false, false, false, false, false, false, false, false, false, false, false, false, false, false, false, false, false, false,
  false, false, false, false, false, false, false, false, false, false, false, false, false, false, false]) (.seq (.seq (.reg false [I_ 12 [.sl 7] .mv, I_ 13 [.sl 2] (.fa 0), I_ 14 [.tv 13] (.ld .one), I_ 15 [.tk 14] .lenS, I_ 16
  [.tv 12, .tv 15] (.bin .lss)]) (.cond (.sl 16) .skip (.exit 0))) (.seq (.block 1 (.seq (.reg false [I_ 8 [.cv (.lst [] 0 .full)] (.nil 1), I_ 9 [.cv (.lst [] 0 .full)] (.nil 1)]) (.seq (.seq (.reg false [I_ 10 [.cv (.int .i64
  0)] .mv]) (.block 2 (.loop (some [false, true, true, false, false, true, true, true, true, true, true, false, false, false, false, false, false, false, false, false, false, false, false, false, false, false, false, false,
  false, false, false, false, false, false, false, false, false, false, false, false, false, false, false, false, false, false, false, false, false, false, false, false, false, false, false, false, false, false, false, false,
  false, false, false, false, false, false, false, false, false, false, false, false, false, false]) (.seq (.seq (.reg false [I_ 19 [.sl 10] .mv, I_ 20 [.sl 2] (.fa 0), I_ 21 [.tv 20] (.ld .one), I_ 22 [.sl 7] .mv, I_ 23 [.tv 21,
  .tv 22] (.ia 1), I_ 24 [.tv 23] (.ld .one), I_ 25 [.tk 24] .lenS, I_ 26 [.tv 19, .tv 25] (.bin .lss)]) (.cond (.sl 26) .skip (.exit 2))) (.seq (.block 3 (.reg false [I_ 29 [.tk 8] .mv, I_ 30 [.sl 10] .mv, I_ 31 [.tv 30]
  (.buildS 1 1 [.int .i64 0] [0]), I_ 32 [.tk 29, .tk 31] (.app 1 8), I_ 8 [.tk 32] .mv])) (.reg false [I_ 27 [.tk 10] .mv, I_ 28 [.tv 27, .cv (.int .i64 1)] (.bin .add), I_ 10 [.tk 28] .mv])))))) (.seq (.block 4 (.loop (some
  [false, true, true, false, false, true, true, true, true, true, false, false, false, false, false, false, false, false, false, false, false, false, false, false, false, false, false, false, false, false, false, false, false,
  false, false, false, false, false, false, false, false, false, false, false, false, false, false, false, false, false, false, false, false, false, false, false, false, false, false, false, false, false, false, false, false,
  false, false, false, false, false, false, false, false, false]) (.seq (.seq (.reg false [I_ 33 [.sl 8] .mv, I_ 34 [.tk 33] .lenS, I_ 35 [.tv 34, .cv (.int .i64 0)] (.bin .gtr)]) (.cond (.sl 35) .skip (.exit 4))) (.block 5 (.seq
  (.reg false [I_ 11 [.cv (.int .i64 0)] .mv]) (.seq (.seq (.reg false [I_ 36 [.sl 1] .mv, I_ 37 [.tk 36] .lenS, I_ 38 [.tv 37, .cv (.int .i64 0)] (.bin .gtr)]) (.cond (.sl 38) (.seq (.reg false [I_ 39 [.sl 1] .mv, I_ 40 [.sl 6]
  .mv, I_ 41 [.sl 1] .mv, I_ 42 [.tk 41] .lenS, I_ 43 [.tv 40, .tv 42] (.bin .rem), I_ 44 [.tv 39, .tv 43] (.ia 1), I_ 45 [.tv 44] (.ld .one), I_ 46 [.tv 45] (.conv .i64), I_ 47 [.sl 8] .mv, I_ 48 [.tk 47] .lenS, I_ 49 [.tv 46,
  .tv 48] (.bin .rem), I_ 11 [.tk 49] .mv]) (.reg false [I_ 50 [.tk 6] .mv, I_ 51 [.tv 50, .cv (.int .i64 1)] (.bin .add), I_ 6 [.tk 51] .mv])) .skip)) (.seq (.reg false [I_ 52 [.tk 9] .mv, I_ 53 [.sl 8] .mv, I_ 54 [.sl 11] .mv,
  I_ 55 [.tv 53, .tv 54] (.ia 1), I_ 56 [.tv 55] (.ld .one), I_ 57 [.tv 56] (.buildS 1 1 [.int .i64 0] [0]), I_ 58 [.tk 52, .tk 57] (.app 1 8), I_ 9 [.tk 58] .mv]) (.reg true [I_ 59 [] (.buildS 0 1 [.int .i64 0] []), I_ 60 [.sl
  8] .mv, I_ 61 [.sl 11] .mv, I_ 62 [.tk 60, .tk 61] (.slS 1 false true false), I_ 63 [.tk 59, .tk 62] (.app 1 8), I_ 64 [.sl 8] .mv, I_ 65 [.sl 11] .mv, I_ 66 [.tv 65, .cv (.int .i64 1)] (.bin .add), I_ 67 [.tk 64, .tk 66] (.slS
  1 true false false), I_ 68 [.tk 63, .tk 67] (.app 1 8), I_ 8 [.tk 68] .mv])))))))) (.reg false [I_ 69 [.tk 5] .mv, I_ 70 [.tk 9] .mv, I_ 71 [.tv 70] (.buildS 1 1 [.lst [] 0 .full] [0]), I_ 72 [.tk 69, .tk 71] (.app 1 24), I_ 5
  [.tk 72] .mv]))))) (.reg false [I_ 17 [.tk 7] .mv, I_ 18 [.tv 17, .cv (.int .i64 1)] (.bin .add), I_ 7 [.tk 18] .mv])))))) (.seq (.reg false [I_ 73 [.tk 5] .mv, I_ 4 [.tk 73] .mv]) .ret))))
theorem lk50 : linkF Go.Proofs.Try.prog ann50 50 = some (rc50, 74, [.tmp 4]) := by kernel_rfl
noncomputable def rc51 : RC :=
  .seq (.reg false [I_ 4 [.cv (.int .i64 0)] .mv]) (.seq (.reg false [I_ 5 [.cv (.int .i64 0)] .mv]) (.seq (.seq (.reg false [I_ 6 [.cv (.int .i64 0)] .mv]) (.block 0 (.loop (some [true, true, false, false, false, true, true,
  false, false, false, false, false, false, false, false, false, false, false, false, false, false, false]) (.seq (.seq (.reg false [I_ 7 [.sl 6] .mv, I_ 8 [.sl 0] .mv, I_ 9 [.tk 8] .lenS, I_ 10 [.tv 7, .tv 9] (.bin .lss)])
  (.cond (.sl 10) .skip (.exit 0))) (.seq (.block 1 (.seq (.reg false [I_ 13 [.sl 1] .mv, I_ 14 [.sl 0] .mv, I_ 15 [.sl 6] .mv, I_ 16 [.tv 14, .tv 15] (.ia 1), I_ 17 [.tv 16] (.ld .one), I_ 18 [.cv (.func 52 [] []), .sl 13, .sl
  17] (.call 3)]) (.cond (.sl 18) (.reg false [I_ 19 [.tk 5] .mv, I_ 20 [.tv 19, .cv (.int .i64 1)] (.bin .add), I_ 5 [.tk 20] .mv]) .skip))) (.reg false [I_ 11 [.tk 6] .mv, I_ 12 [.tv 11, .cv (.int .i64 1)] (.bin .add), I_ 6
  [.tk 12] .mv])))))) (.seq (.reg false [I_ 21 [.tk 5] .mv, I_ 4 [.tk 21] .mv]) .ret)))
theorem lk51 : linkF Go.Proofs.Try.prog ann51 51 = some (rc51, 22, [.tmp 4]) := by kernel_rfl
noncomputable def rc52 : RC :=
  .seq (.reg false [I_ 4 [.cv (.bool false)] .mv]) (.seq (.seq (.reg false [I_ 5 [.cv (.int .i64 0)] .mv]) (.block 0 (.loop (some [true, true, false, false, false, true, false, false, false, false, false, false, false, false,
  false, false, false, false]) (.seq (.seq (.reg false [I_ 6 [.sl 5] .mv, I_ 7 [.sl 0] .mv, I_ 8 [.tk 7] .lenS, I_ 9 [.tv 6, .tv 8] (.bin .lss)]) (.cond (.sl 9) .skip (.exit 0))) (.seq (.block 1 (.seq (.reg false [I_ 12 [.sl 0]
  .mv, I_ 13 [.sl 5] .mv, I_ 14 [.tv 12, .tv 13] (.ia 1), I_ 15 [.tv 14] (.ld .one), I_ 16 [.sl 1] .mv, I_ 17 [.tv 15, .tv 16] (.bin .eql)]) (.cond (.sl 17) (.seq (.reg false [I_ 4 [.cv (.bool true)] .mv]) .ret) .skip))) (.reg
  false [I_ 10 [.tk 5] .mv, I_ 11 [.tv 10, .cv (.int .i64 1)] (.bin .add), I_ 5 [.tk 11] .mv])))))) (.seq (.reg false [I_ 4 [.cv (.bool false)] .mv]) .ret))
theorem lk52 : linkF Go.Proofs.Try.prog ann52 52 = some (rc52, 18, [.tmp 4]) := by kernel_rfl
noncomputable def rc53 : RC :=
  .seq (.reg false [I_ 2 [.cv (.int .i64 0)] .mv]) (.seq (.reg false [I_ 3 [.cv (.int .i64 0)] .mv]) (.seq (.seq (.reg false [I_ 4 [.cv (.int .i64 0)] .mv]) (.block 0 (.loop (some [true, false, false, true, true, false, false,
  false, false, false, false, false, false, false, false, false, false, false]) (.seq (.seq (.reg false [I_ 5 [.sl 4] .mv, I_ 6 [.sl 0] .mv, I_ 7 [.tk 6] .lenS, I_ 8 [.tv 5, .tv 7] (.bin .lss)]) (.cond (.sl 8) .skip (.exit 0)))
  (.seq (.block 1 (.reg false [I_ 11 [.tk 3] .mv, I_ 12 [.sl 0] .mv, I_ 13 [.sl 4] .mv, I_ 14 [.tv 12, .tv 13] (.ia 1), I_ 15 [.tv 14] (.ld .one), I_ 16 [.tv 11, .tv 15] (.bin .add), I_ 3 [.tk 16] .mv])) (.reg false [I_ 9 [.tk 4]
  .mv, I_ 10 [.tv 9, .cv (.int .i64 1)] (.bin .add), I_ 4 [.tk 10] .mv])))))) (.seq (.reg false [I_ 17 [.tk 3] .mv, I_ 2 [.tk 17] .mv]) .ret)))
theorem lk53 : linkF Go.Proofs.Try.prog ann53 53 = some (rc53, 18, [.tmp 2]) := by kernel_rfl
noncomputable def rc54 : RC :=
  .seq (.reg false [I_ 1 [.tk 0] .box, I_ 2 [.cv (.int .i64 0)] .mv, I_ 3 [.cv (.bool false)] .mv]) (.seq (.reg false [I_ 13 [.sl 1] (.ld (.str 1)), I_ 14 [.cv (.func 44 [] []), .sl 13] (.call 3), I_ 12 [.tk 14] .mv, I_ 15 [.sl 12]
  (.ext 0), I_ 16 [.tv 12] (.ext 1), I_ 4 [.tk 15] .mv, I_ 5 [.tk 16] .mv]) (.seq (.seq (.reg false [I_ 17 [.tk 5] .mv, I_ 18 [.tv 17, .cv (.int .i64 0)] (.bin .neq), I_ 19 [.tk 18] .mv, ⟨some 20, [.sl 4], some (19, false), none,
  .mv⟩, ⟨some 21, [.tv 20, .cv (.int .i64 0)], some (19, false), none, .bin .lss⟩, I_ 22 [.tv 19, .cv (.bool true), .tv 21] .pick, I_ 23 [.tk 22] .mv, ⟨some 24, [.sl 4], some (23, false), none, .mv⟩, ⟨some 25, [.sl 1], some (23,
  false), none, .fa 0⟩, ⟨some 26, [.tv 25], some (23, false), none, .ld .one⟩, ⟨some 27, [.tv 26, .cv (.int .i64 0)], some (23, false), none, .ia 1⟩, ⟨some 28, [.tv 27], some (23, false), none, .ld .one⟩, ⟨some 29, [.cv (.func 53
  [] []), .sl 28], some (23, false), none, .call 3⟩, ⟨some 30, [.tv 24, .tv 29], some (23, false), none, .bin .gtr⟩, I_ 31 [.tv 23, .cv (.bool true), .tv 30] .pick]) (.cond (.sl 31) (.seq (.reg false [I_ 32 [.tk 4] .mv, I_ 2 [.tk
  32] .mv, I_ 3 [.cv (.bool false)] .mv]) .ret) .skip)) (.seq (.reg false [I_ 34 [.sl 1] (.ld (.str 1)), I_ 35 [.sl 4] .mv, I_ 36 [.cv (.func 46 [] []), .sl 34, .sl 35] (.call 3), I_ 33 [.tk 36] .mv, I_ 37 [.sl 33] (.ext 0), I_
  38 [.tv 33] (.ext 1), I_ 6 [.tk 37] .mv, I_ 7 [.tk 38] .mv]) (.seq (.reg false [I_ 40 [.sl 1] (.ld (.str 1)), I_ 41 [.sl 4] .mv, I_ 42 [.tv 41, .cv (.int .i64 1)] (.bin .add), I_ 43 [.cv (.func 46 [] []), .sl 40, .sl 42] (.call
  3), I_ 39 [.tk 43] .mv, I_ 44 [.sl 39] (.ext 0), I_ 45 [.tv 39] (.ext 1), I_ 8 [.tk 44] .mv, I_ 9 [.tk 45] .mv]) (.seq (.seq (.reg false [I_ 46 [.tk 7] .mv, I_ 47 [.tv 46, .cv (.int .i64 0)] (.bin .neq), I_ 48 [.tk 47] .mv,
  ⟨some 49, [.tk 9], some (48, false), none, .mv⟩, ⟨some 50, [.tv 49, .cv (.int .i64 21)], some (48, false), none, .bin .neq⟩, I_ 51 [.tv 48, .cv (.bool true), .tv 50] .pick, I_ 52 [.tk 51] .mv, ⟨some 53, [.sl 6], some (52,
  false), none, .mv⟩, ⟨some 54, [.cv (.func 19 [] []), .sl 53], some (52, false), none, .call 3⟩, I_ 55 [.tv 52, .cv (.bool true), .tv 54] .pick]) (.cond (.sl 55) (.seq (.reg false [I_ 56 [.tk 4] .mv, I_ 2 [.tk 56] .mv, I_ 3 [.cv
  (.bool false)] .mv]) .ret) .skip)) (.seq (.reg false [I_ 58 [.sl 1] (.ld (.str 1)), I_ 59 [.sl 6] .mv, I_ 60 [.cv (.func 30 [] []), .sl 58, .sl 59] (.call 3), I_ 57 [.tk 60] .mv, I_ 61 [.sl 57] (.ext 0), I_ 62 [.tv 57] (.ext
  1), I_ 10 [.tk 61] .mv, I_ 7 [.tk 62] .mv]) (.seq (.reg false [I_ 64 [.tv 1] (.ld (.str 1)), I_ 65 [.tk 6] .mv, I_ 66 [.cv (.func 31 [] []), .sl 64, .sl 65] (.call 3), I_ 63 [.tk 66] .mv, I_ 67 [.sl 63] (.ext 0), I_ 68 [.tv 63]
  (.ext 1), I_ 11 [.tk 67] .mv, I_ 9 [.tk 68] .mv]) (.seq (.reg false [I_ 69 [.sl 4] .mv, I_ 70 [.tk 7] .mv, I_ 71 [.tv 70, .cv (.int .i64 0)] (.bin .eql), I_ 72 [.tk 71] .mv, ⟨some 73, [.tk 9], some (72, true), none, .mv⟩, ⟨some
  74, [.tv 73, .cv (.int .i64 0)], some (72, true), none, .bin .eql⟩, I_ 75 [.tv 72, .tv 74, .cv (.bool false)] .pick, I_ 76 [.tk 75] .mv, ⟨some 77, [.tk 10], some (76, true), none, .mv⟩, ⟨some 78, [.sl 4], some (76, true), none,
  .mv⟩, ⟨some 79, [.tv 77, .tv 78], some (76, true), none, .bin .eql⟩, I_ 80 [.tv 76, .tv 79, .cv (.bool false)] .pick, I_ 81 [.tk 80] .mv, ⟨some 82, [.tk 11], some (81, true), none, .mv⟩, ⟨some 83, [.tk 4], some (81, true),
  none, .mv⟩, ⟨some 84, [.tv 82, .tv 83], some (81, true), none, .bin .eql⟩, I_ 85 [.tv 81, .tv 84, .cv (.bool false)] .pick, I_ 2 [.tk 69] .mv, I_ 3 [.tk 85] .mv]) .ret))))))))
theorem lk54 : linkF Go.Proofs.Try.prog ann54 54 = some (rc54, 86, [.tmp 2, .tmp 3]) := by kernel_rfl
noncomputable def rc55 : RC :=
  .seq (.reg false [I_ 2 [.cv (.lst [] 0 .full)] (.nil 1)]) (.seq (.reg false [I_ 3 [.cv (.lst [] 0 .full)] (.nil 1)]) (.seq (.seq (.reg false [I_ 5 [.sl 0] .mv, I_ 6 [.tk 5] .lenS, I_ 7 [.tv 6, .cv (.int .i64 1)] (.bin .sub), I_ 4
  [.tk 7] .mv]) (.block 0 (.loop (some [true, false, false, true, true, false, false, false, false, false, false, false, false, false, false, false, false, false, false, false]) (.seq (.seq (.reg false [I_ 8 [.sl 4] .mv, I_ 9
  [.tv 8, .cv (.int .i64 0)] (.bin .geq)]) (.cond (.sl 9) .skip (.exit 0))) (.seq (.block 1 (.reg false [I_ 12 [.tk 3] .mv, I_ 13 [.sl 0] .mv, I_ 14 [.sl 4] .mv, I_ 15 [.tv 13, .tv 14] (.ia 1), I_ 16 [.tv 15] (.ld .one), I_ 17
  [.tv 16] (.buildS 1 1 [.int .i64 0] [0]), I_ 18 [.tk 12, .tk 17] (.app 1 8), I_ 3 [.tk 18] .mv])) (.reg false [I_ 10 [.tk 4] .mv, I_ 11 [.tv 10, .cv (.int .i64 1)] (.bin .sub), I_ 4 [.tk 11] .mv])))))) (.seq (.reg false [I_ 19
  [.tk 3] .mv, I_ 2 [.tk 19] .mv]) .ret)))
theorem lk55 : linkF Go.Proofs.Try.prog ann55 55 = some (rc55, 20, [.tmp 2]) := by kernel_rfl
noncomputable def rc56 : RC :=
  .seq (.reg false [I_ 2 [] (.alloc [.lst [] 0 .full])]) (.seq (.reg false [I_ 3 [.tk 0] .mv, I_ 4 [.tv 3] (.build [.lst [] 0 .full] [(0, 1)]), ⟨none, [.sl 2, .tk 4], none, none, .st 1⟩]) .ret)
theorem lk56 : linkF Go.Proofs.Try.prog ann56 56 = some (rc56, 5, [.cell 2 (.str 1)]) := by kernel_rfl
noncomputable def rc57 : RC :=
  .seq (.reg false [I_ 0 [] (.alloc [.lst [] 0 .full])]) (.seq (.reg false [I_ 1 [.cv (.int .i64 2), .cv (.int .i64 3), .cv (.int .i64 5)] (.buildS 3 1 [.int .i64 0] [0, 1, 2]), I_ 2 [.cv (.func 61 [] []), .sl 1] (.call 3), I_ 3
  [.cv (.int .i64 5), .cv (.int .i64 5)] (.buildS 2 1 [.int .i64 0] [0, 1]), I_ 4 [.cv (.func 61 [] []), .sl 3] (.call 3), I_ 5 [.tv 2, .tv 4] (.buildS 2 1 [.lst [] 0 .full] [0, 1]), I_ 6 [.cv (.func 56 [] []), .sl 5] (.call 3),
  ⟨none, [.sl 0, .tk 6], none, none, .st 1⟩]) .ret)
theorem lk57 : linkF Go.Proofs.Try.prog ann57 57 = some (rc57, 7, [.cell 0 (.str 1)]) := by kernel_rfl
noncomputable def rc58 : RC :=
  .seq (.reg false [I_ 0 [] (.alloc [.lst [] 0 .full])]) (.seq (.reg false [I_ 1 [.cv (.int .i64 5), .cv (.int .i64 5)] (.buildS 2 1 [.int .i64 0] [0, 1]), I_ 2 [.cv (.func 61 [] []), .sl 1] (.call 3), I_ 3 [.cv (.int .i64 5), .cv
  (.int .i64 5)] (.buildS 2 1 [.int .i64 0] [0, 1]), I_ 4 [.cv (.func 61 [] []), .sl 3] (.call 3), I_ 5 [.cv (.int .i64 4), .cv (.int .i64 6)] (.buildS 2 1 [.int .i64 0] [0, 1]), I_ 6 [.cv (.func 61 [] []), .sl 5] (.call 3), I_ 7
  [.tv 2, .tv 4, .tv 6] (.buildS 3 1 [.lst [] 0 .full] [0, 1, 2]), I_ 8 [.cv (.func 56 [] []), .sl 7] (.call 3), ⟨none, [.sl 0, .tk 8], none, none, .st 1⟩]) .ret)
theorem lk58 : linkF Go.Proofs.Try.prog ann58 58 = some (rc58, 9, [.cell 0 (.str 1)]) := by kernel_rfl
noncomputable def rc59 : RC :=
  .seq (.reg false [I_ 2 [.cv (.lst [] 0 .full)] (.nil 1)]) (.seq (.reg false [I_ 3 [.tk 0] .mv, I_ 2 [.tk 3] .mv]) .ret)
theorem lk59 : linkF Go.Proofs.Try.prog ann59 59 = some (rc59, 4, [.tmp 2]) := by kernel_rfl
noncomputable def rc60 : RC :=
  .seq (.reg false [I_ 2 [.cv (.lst [] 0 .full)] (.nil 1)]) (.seq (.reg false [I_ 3 [.tk 0] .mv, I_ 2 [.tk 3] .mv]) .ret)
theorem lk60 : linkF Go.Proofs.Try.prog ann60 60 = some (rc60, 4, [.tmp 2]) := by kernel_rfl
end Go.Proofs.Ytlcebaejlnpdeaa.Ab

/- MADE BY PROGRAM (rc.py): functions, looked up. -/
namespace Go.Proofs.Ytlcebaejlnpdeaa.Ab
open Go
noncomputable def rc61 : RC :=
  .seq (.reg false [I_ 2 [.cv (.lst [] 0 .full)] (.nil 1)]) (.seq (.reg false [I_ 3 [.tk 0] .mv, I_ 2 [.tk 3] .mv]) .ret)
theorem lk61 : linkF Go.Proofs.Try.prog ann61 61 = some (rc61, 4, [.tmp 2]) := by kernel_rfl
noncomputable def rc62 : RC :=
  .seq (.reg false [I_ 2 [.tk 0] .box, I_ 4 [.cv (.lst [] 0 .full)] (.nil 1), I_ 5 [.cv (.int .i64 0)] .mv]) (.seq (.reg false [I_ 13 [.sl 2] (.ld (.str 1)), I_ 14 [.cv (.func 75 [] []), .sl 13, .cv (.lst [] 0 .full)] (.call 3), I_
  12 [.tk 14] .mv, I_ 15 [.sl 12] (.ext 0), I_ 16 [.tv 12] (.ext 1), I_ 6 [.tk 15] .mv, I_ 7 [.tk 16] .mv]) (.seq (.block 0 (.seq (.reg false [I_ 18 [.sl 7] .mv, I_ 19 [.tv 18, .cv (.int .i64 0)] (.bin .neq), I_ 17 [.tk 19] .mv])
  (.cond (.sl 17) (.seq (.reg false [I_ 20 [.tk 7] .mv, I_ 4 [.cv (.lst [] 0 .full)] (.nil 1), I_ 5 [.tk 20] .mv]) .ret) (.seq (.reg false [I_ 22 [.sl 1] .mv, I_ 23 [.tk 22] .lenS, I_ 24 [.tv 2] (.fa 0), I_ 25 [.tv 24] (.ld
  .one), I_ 26 [.tk 25] .lenS, I_ 27 [.tv 23, .tv 26] (.bin .neq), I_ 21 [.tk 27] .mv]) (.cond (.sl 21) (.seq (.reg false [I_ 4 [.cv (.lst [] 0 .full)] (.nil 1), I_ 5 [.cv (.int .i64 15)] .mv]) .ret) .skip))))) (.seq (.reg false
  [I_ 28 [.sl 6] .mv, I_ 29 [.tv 28] (.mkF 93 1 0), I_ 8 [.tk 29] .mv]) (.seq (.reg false [I_ 9 [.cv (.lst [] 0 .full)] (.nil 1)]) (.seq (.seq (.reg false [I_ 30 [.tk 1] .mv, I_ 31 [.sl 30] .lenS, I_ 32 [.cv (.int .i64 0)] .mv])
  (.block 1 (.loop (some [false, false, false, false, false, false, true, false, true, true, false, false, false, false, false, false, false, false, false, false, false, false, false, false, false, false, false, false, false,
  false, true, true, true, false, false, false, false, false, false, false, false, false, false, false, false, false, false, false, false, false, false]) (.seq (.reg false [I_ 33 [.sl 32, .sl 31] (.bin .lss)]) (.seq (.cond (.sl
  33) .skip (.exit 1)) (.seq (.block 2 (.seq (.reg false [I_ 34 [.sl 32] .mv, I_ 35 [.sl 30, .sl 32] (.ia 1), I_ 36 [.tv 35] (.ld .one), I_ 10 [.tk 34] .mv, I_ 11 [.tk 36] .mv]) (.seq (.seq (.reg false [I_ 37 [.sl 8] .mv, I_ 38
  [.sl 10] .mv, I_ 39 [.sl 11] .mv, I_ 40 [.sl 37, .sl 38, .sl 39] (.call 3), I_ 41 [.tv 40] (.un .not)]) (.cond (.sl 41) (.seq (.reg false [I_ 4 [.cv (.lst [] 0 .full)] (.nil 1), I_ 5 [.cv (.int .i64 16)] .mv]) .ret) .skip))
  (.reg false [I_ 42 [.tk 9] .mv, I_ 43 [.sl 6] .mv, I_ 44 [.tk 10] .mv, I_ 45 [.tk 11] .mv, I_ 46 [.cv (.func 87 [] []), .sl 43, .sl 44, .sl 45] (.call 3), I_ 47 [.tv 46] (.buildS 1 1 [.lst [] 0 .full] [0]), I_ 48 [.tk 42, .tk
  47] (.app 1 24), I_ 9 [.tk 48] .mv])))) (.reg false [I_ 49 [.tv 32, .cv (.int .i64 1)] (.bin .add), I_ 32 [.tk 49] .mv]))))))) (.seq (.reg false [I_ 50 [.tk 9] .mv, I_ 4 [.tk 50] .mv, I_ 5 [.cv (.int .i64 0)] .mv]) .ret))))))
theorem lk62 : linkF Go.Proofs.Try.prog ann62 62 = some (rc62, 51, [.tmp 4, .tmp 5]) := by kernel_rfl
noncomputable def rc63 : RC :=
  .seq (.reg false [I_ 2 [.cv .junk] .mv]) (.seq (.reg false [I_ 9 [] .mkM, I_ 3 [.tk 9] .mv]) (.seq (.seq (.reg false [I_ 10 [.sl 0] .mv, I_ 11 [.sl 10] .lenS, I_ 12 [.cv (.int .i64 0)] .mv]) (.block 0 (.loop (some [true, false,
  false, true, false, false, false, false, false, false, true, true, true, false, false, false, false, false, false, false, false, false, false, false, false, false, false, false, false, false, false, false, false, false, false,
  false, false, false, false, false, false, false, false, false, false, false, false, false, false, false, false, false, false, false, false, false]) (.seq (.reg false [I_ 13 [.sl 12, .sl 11] (.bin .lss)]) (.seq (.cond (.sl 13)
  .skip (.exit 0)) (.seq (.block 1 (.seq (.reg false [I_ 14 [.sl 12] .mv, I_ 15 [.sl 10, .sl 12] (.ia 1), I_ 16 [.tv 15] (.ld .one), I_ 4 [.tk 14] .mv, I_ 5 [.tk 16] .mv]) (.seq (.reg false [I_ 17 [.tk 5] .mv, I_ 18 [.sl 17]
  .lenS, I_ 19 [.cv (.int .i64 0)] .mv]) (.block 2 (.loop (some [true, false, false, true, true, false, false, false, false, false, true, true, true, false, false, false, false, true, true, true, false, false, false, false,
  false, false, false, false, false, false, false, false, false, false, false, false, false, false, false, false, false, false, false, false, false, false, false, false, false, false, false, false, false, false, false, false])
  (.seq (.reg false [I_ 20 [.sl 19, .sl 18] (.bin .lss)]) (.seq (.cond (.sl 20) .skip (.exit 2)) (.seq (.block 3 (.seq (.reg false [I_ 21 [.sl 17, .sl 19] (.ia 1), I_ 22 [.tv 21] (.ld .one), I_ 7 [.tk 22] .mv]) (.reg false [I_ 23
  [.sl 3] .mv, I_ 24 [.sl 4] .mv, I_ 25 [.tk 7] .mv, I_ 26 [.tv 24, .tv 25] (.build [.int .i64 0, .int .i64 0] [(0, 1), (1, 1)]), ⟨none, [.tv 23, .tv 26, .cv (.int .i64 1)], none, none, .mUp (.str 2)⟩]))) (.reg false [I_ 27 [.tv
  19, .cv (.int .i64 1)] (.bin .add), I_ 19 [.tk 27] .mv]))))))))) (.reg false [I_ 28 [.tv 12, .cv (.int .i64 1)] (.bin .add), I_ 12 [.tk 28] .mv]))))))) (.seq (.seq (.reg false [I_ 29 [.sl 3] .mv, I_ 30 [.tv 29] .rngM]) (.block
  4 (.loop (some [true, false, false, true, false, false, false, false, false, false, false, false, false, false, false, false, false, false, false, false, false, false, false, false, false, false, false, false, false, false,
  true, false, false, false, false, false, false, false, false, false, false, false, false, false, false, false, false, false, false, false, false, false, false, false, false, false]) (.seq (.nxt 30 (some 31) [I_ 32 [.tv 31]
  (.ext 0)]) (.seq (.cond (.sl 32) .skip (.exit 4)) (.block 5 (.seq (.reg false [I_ 33 [.sl 30] .ent, I_ 34 [.tv 33] (.ext 0), I_ 8 [] (.alloc [.int .i64 0, .int .i64 0]), ⟨none, [.sl 8, .tk 34], none, none, .st 2⟩]) (.seq (.reg
  true [I_ 35 [.sl 8] (.fa 0), I_ 36 [.tv 35] (.ld .one), I_ 37 [.tv 36, .cv (.int .i64 1)] (.bin .add), I_ 38 [.sl 0] .mv, I_ 39 [.tk 38] .lenS, I_ 40 [.tv 37, .tv 39] (.bin .eql), I_ 41 [.tk 40] .mv, ⟨some 42, [.sl 0], some
  (41, false), none, .mv⟩, ⟨some 43, [.sl 8], some (41, false), none, .fa 0⟩, ⟨some 44, [.tv 43], some (41, false), none, .ld .one⟩, ⟨some 45, [.tv 44, .cv (.int .i64 1)], some (41, false), none, .bin .add⟩, ⟨some 46, [.tv 42,
  .tv 45], some (41, false), none, .ia 1⟩, ⟨some 47, [.tv 46], some (41, false), none, .ld .one⟩, ⟨some 48, [.sl 8], some (41, false), none, .fa 1⟩, ⟨some 49, [.tv 48], some (41, false), none, .ld .one⟩, ⟨some 50, [.cv (.func 72
  [] []), .sl 47, .sl 49], some (41, false), none, .call 3⟩, ⟨some 51, [.tv 50], some (41, false), none, .un .not⟩, I_ 52 [.sl 41, .cv (.bool true), .tv 51] .pick]) (.cond (.sl 52) (.reg false [I_ 53 [.sl 3] .mv, I_ 54 [.tv 8]
  (.ld (.str 2)), ⟨none, [.tk 53, .tk 54], none, none, .mDel (.str 2)⟩]) .skip))))))))) (.seq (.reg false [I_ 55 [.tk 3] .mv, I_ 2 [.tk 55] .mv]) .ret))))
theorem lk63 : linkF Go.Proofs.Try.prog ann63 63 = some (rc63, 56, [.tmp 2]) := by kernel_rfl
noncomputable def rc64 : RC :=
  .seq (.reg false [I_ 2 [.tk 0] .box, I_ 4 [.cv (.int .i64 0)] .mv]) (.seq (.seq (.reg false [I_ 6 [.sl 2] (.ld (.str 1)), I_ 7 [.cv (.func 26 [] []), .sl 6] (.call 3), I_ 8 [.tv 7, .cv (.int .i64 0)] (.bin .neq)]) (.cond (.sl 8)
  (.seq (.reg false [I_ 9 [.tv 2] (.ld (.str 1)), I_ 10 [.cv (.func 26 [] []), .sl 9] (.call 3), I_ 4 [.tk 10] .mv]) .ret) .skip)) (.seq (.seq (.reg false [I_ 11 [.sl 1] .mv, I_ 12 [.tk 11] .lenS, I_ 13 [.sl 2] (.fa 0), I_ 14
  [.tv 13] (.ld .one), I_ 15 [.tk 14] .lenS, I_ 16 [.tv 12, .tv 15] (.bin .neq)]) (.cond (.sl 16) (.seq (.reg false [I_ 4 [.cv (.int .i64 15)] .mv]) .ret) .skip)) (.seq (.seq (.reg false [I_ 5 [.cv (.int .i64 0)] .mv]) (.block 0
  (.loop (some [false, true, true, false, false, true, false, false, false, false, false, false, false, false, false, false, false, false, false, false, false, false, false, false, false, false, false, false, false, false, false,
  false, false, false, false]) (.seq (.seq (.reg false [I_ 17 [.sl 5] .mv, I_ 18 [.sl 1] .mv, I_ 19 [.tk 18] .lenS, I_ 20 [.tv 17, .tv 19] (.bin .lss)]) (.cond (.sl 20) .skip (.exit 0))) (.seq (.block 1 (.seq (.reg true [I_ 23
  [.sl 1] .mv, I_ 24 [.sl 5] .mv, I_ 25 [.tv 23, .tv 24] (.ia 1), I_ 26 [.tv 25] (.ld .one), I_ 27 [.sl 2] (.fa 0), I_ 28 [.tv 27] (.ld .one), I_ 29 [.sl 5] .mv, I_ 30 [.tv 28, .tv 29] (.ia 1), I_ 31 [.tv 30] (.ld .one), I_ 32
  [.tk 31] .lenS, I_ 33 [.cv (.func 94 [] []), .sl 26, .sl 32] (.call 3), I_ 34 [.tv 33] (.un .not)]) (.cond (.sl 34) (.seq (.reg false [I_ 4 [.cv (.int .i64 16)] .mv]) .ret) .skip))) (.reg false [I_ 21 [.tk 5] .mv, I_ 22 [.tv
  21, .cv (.int .i64 1)] (.bin .add), I_ 5 [.tk 22] .mv])))))) (.seq (.reg false [I_ 4 [.cv (.int .i64 0)] .mv]) .ret))))
theorem lk64 : linkF Go.Proofs.Try.prog ann64 64 = some (rc64, 35, [.tmp 4]) := by kernel_rfl
noncomputable def rc65 : RC :=
  .seq (.reg false [I_ 2 [.tk 0] .box, I_ 4 [.cv (.lst [] 0 .full)] (.nil 1)]) (.seq (.reg false [I_ 5 [.cv (.lst [] 0 .full)] (.nil 1)]) (.seq (.seq (.reg false [I_ 6 [.cv (.int .i64 0)] .mv]) (.block 0 (.loop (some [false, true,
  true, false, false, true, true, false, false, false, false, false, false, false, false, false, false, false, false, false, false, false, false, false, false, false, false]) (.seq (.seq (.reg false [I_ 7 [.sl 6] .mv, I_ 8 [.sl
  1] .mv, I_ 9 [.tk 8] .lenS, I_ 10 [.tv 7, .tv 9] (.bin .lss)]) (.cond (.sl 10) .skip (.exit 0))) (.seq (.block 1 (.reg true [I_ 13 [.tk 5] .mv, I_ 14 [.sl 2] (.fa 0), I_ 15 [.tv 14] (.ld .one), I_ 16 [.sl 6] .mv, I_ 17 [.tv 15,
  .tv 16] (.ia 1), I_ 18 [.tv 17] (.ld .one), I_ 19 [.sl 1] .mv, I_ 20 [.sl 6] .mv, I_ 21 [.tv 19, .tv 20] (.ia 1), I_ 22 [.tv 21] (.ld .one), I_ 23 [.cv (.func 95 [] []), .sl 18, .sl 22] (.call 3), I_ 24 [.tv 23] (.buildS 1 1
  [.lst [] 0 .full] [0]), I_ 25 [.tk 13, .tk 24] (.app 1 24), I_ 5 [.tk 25] .mv])) (.reg false [I_ 11 [.tk 6] .mv, I_ 12 [.tv 11, .cv (.int .i64 1)] (.bin .add), I_ 6 [.tk 12] .mv])))))) (.seq (.reg false [I_ 26 [.tk 5] .mv, I_ 4
  [.tk 26] .mv]) .ret)))
theorem lk65 : linkF Go.Proofs.Try.prog ann65 65 = some (rc65, 27, [.tmp 4]) := by kernel_rfl
noncomputable def rc66 : RC :=
  .seq (.reg false [I_ 2 [.cv (.bool false)] .mv]) (.seq (.reg false [I_ 3 [.tk 0] .mv, I_ 4 [.tk 3] .lenS, I_ 5 [.tv 4] (.buildS 1 1 [.int .i64 0] [0]), I_ 6 [.cv (.func 67 [] []), .cv (.int .i64 1), .cv (.int .i64 5), .sl 5]
  (.call 3), I_ 7 [.tv 6] (.un .not), I_ 2 [.tk 7] .mv]) .ret)
theorem lk66 : linkF Go.Proofs.Try.prog ann66 66 = some (rc66, 8, [.tmp 2]) := by kernel_rfl
noncomputable def rc67 : RC :=
  .seq (.reg false [I_ 3 [.tk 0] .box, I_ 4 [.tk 1] .box, I_ 6 [.cv (.bool false)] .mv]) (.seq (.reg false [I_ 7 [.tk 2] .mv, I_ 8 [.tv 3, .tv 4] (.mkF 97 0 2), I_ 9 [.cv (.func 96 [] []), .sl 7, .sl 8] (.call 6), I_ 10 [.tv 9]
  (.un .not), I_ 6 [.tk 10] .mv]) .ret)
theorem lk67 : linkF Go.Proofs.Try.prog ann67 67 = some (rc67, 11, [.tmp 6]) := by kernel_rfl
noncomputable def rc68 : RC :=
  .seq (.reg false [I_ 2 [.cv (.bool false)] .mv]) (.seq (.reg false [I_ 3 [.tk 0] .mv, I_ 4 [.cv (.func 67 [] []), .cv (.int .i64 1), .cv (.int .i64 100), .sl 3] (.call 3), I_ 5 [.tv 4] (.un .not), I_ 2 [.tk 5] .mv]) .ret)
theorem lk68 : linkF Go.Proofs.Try.prog ann68 68 = some (rc68, 6, [.tmp 2]) := by kernel_rfl
noncomputable def rc69 : RC :=
  .seq (.reg false [I_ 4 [.cv (.bool false)] .mv]) (.seq (.reg false [I_ 5 [.tk 0] .mv, I_ 6 [.tk 1] .mv, I_ 7 [.cv (.func 98 [] []), .sl 5, .sl 6] (.call 6), I_ 8 [.tv 7, .cv (.int .i64 0)] (.bin .geq), I_ 4 [.tk 8] .mv]) .ret)
theorem lk69 : linkF Go.Proofs.Try.prog ann69 69 = some (rc69, 9, [.tmp 4]) := by kernel_rfl
noncomputable def rc70 : RC :=
  .seq (.reg false [I_ 3 [.cv (.bool false)] .mv]) (.seq (.reg true [I_ 4 [.tk 0] .mv, I_ 5 [.cv (.func 71 [] []), .sl 4] (.call 3), I_ 6 [.tv 1] (.fa 0), I_ 7 [.tv 6] (.ld .one), I_ 8 [.tv 7, .cv (.int .i64 0)] (.ia 1), I_ 9 [.tv
  8] (.ld .one), I_ 10 [.cv (.func 71 [] []), .sl 9] (.call 3), I_ 11 [.tv 5, .tv 10] (.bin .neq), I_ 3 [.tk 11] .mv]) .ret)
theorem lk70 : linkF Go.Proofs.Try.prog ann70 70 = some (rc70, 12, [.tmp 3]) := by kernel_rfl
noncomputable def rc71 : RC :=
  .seq (.reg false [I_ 2 [.cv (.int .i64 0)] .mv]) (.seq (.reg false [I_ 3 [.cv (.int .i64 0)] .mv]) (.seq (.seq (.reg false [I_ 6 [.tk 0] .mv, I_ 7 [.sl 6] .lenS, I_ 8 [.cv (.int .i64 0)] .mv]) (.block 0 (.loop (some [false,
  false, false, true, false, false, true, true, true, false, false, false, false, false, false, false, false]) (.seq (.reg false [I_ 9 [.sl 8, .sl 7] (.bin .lss)]) (.seq (.cond (.sl 9) .skip (.exit 0)) (.seq (.block 1 (.seq (.reg
  false [I_ 10 [.sl 6, .sl 8] (.ia 1), I_ 11 [.tv 10] (.ld .one), I_ 5 [.tk 11] .mv]) (.reg false [I_ 12 [.tk 3] .mv, I_ 13 [.tk 5] .mv, I_ 14 [.tv 12, .tv 13] (.bin .add), I_ 3 [.tk 14] .mv]))) (.reg false [I_ 15 [.tv 8, .cv
  (.int .i64 1)] (.bin .add), I_ 8 [.tk 15] .mv]))))))) (.seq (.reg false [I_ 16 [.tk 3] .mv, I_ 2 [.tk 16] .mv]) .ret)))
theorem lk71 : linkF Go.Proofs.Try.prog ann71 71 = some (rc71, 17, [.tmp 2]) := by kernel_rfl
noncomputable def rc72 : RC :=
  .seq (.reg false [I_ 4 [.cv (.bool false)] .mv]) (.seq (.reg false [I_ 5 [.tk 0] .mv, I_ 6 [.tk 1] .mv, I_ 7 [.cv (.func 99 [] []), .sl 5, .sl 6] (.call 3), I_ 8 [.tv 7, .cv (.int .i64 0)] (.bin .geq), I_ 4 [.tk 8] .mv]) .ret)
theorem lk72 : linkF Go.Proofs.Try.prog ann72 72 = some (rc72, 9, [.tmp 4]) := by kernel_rfl
noncomputable def rc73 : RC :=
  .seq (.reg false [I_ 6 [.cv (.int .i64 0)] .mv]) (.seq (.reg false [I_ 12 [.tk 2] .mv, I_ 7 [.tk 12] .mv]) (.seq (.seq (.reg false [I_ 13 [.tk 0] .mv, I_ 14 [.sl 13] .lenS, I_ 15 [.cv (.int .i64 0)] .mv]) (.block 0 (.loop (some
  [false, true, false, false, false, false, false, true, false, false, false, false, false, true, true, true, false, false, false, false, false, false, false, false, false, false, false, false, false, false, false, false, false,
  false, false, false, false]) (.seq (.reg false [I_ 16 [.sl 15, .sl 14] (.bin .lss)]) (.seq (.cond (.sl 16) .skip (.exit 0)) (.seq (.block 1 (.seq (.reg false [I_ 17 [.sl 13, .sl 15] (.ia 1), I_ 18 [.tv 17] (.ld .one), I_ 9 [.tk
  18] .mv]) (.seq (.reg false [I_ 19 [.sl 1] .mv, I_ 20 [.sl 19] .lenS, I_ 21 [.cv (.int .i64 0)] .mv]) (.block 2 (.loop (some [false, true, false, false, false, false, false, true, false, true, false, false, false, true, true,
  true, false, false, false, true, true, true, false, false, false, false, false, false, false, false, false, false, false, false, false, false, false]) (.seq (.reg false [I_ 22 [.sl 21, .sl 20] (.bin .lss)]) (.seq (.cond (.sl
  22) .skip (.exit 2)) (.seq (.block 3 (.seq (.reg false [I_ 23 [.sl 19, .sl 21] (.ia 1), I_ 24 [.tv 23] (.ld .one), I_ 11 [.tk 24] .mv]) (.reg false [I_ 25 [.tk 7] .mv, I_ 26 [.sl 9] .mv, I_ 27 [.sl 11] .mv, I_ 28 [.tv 26, .tv
  27] (.bin .sub), I_ 29 [.tk 11] .mv, I_ 30 [.sl 9] .mv, I_ 31 [.tv 29, .tv 30] (.bin .sub), I_ 32 [.tk 28, .tk 31] .max, I_ 33 [.tk 25, .tk 32] .min, I_ 7 [.tk 33] .mv]))) (.reg false [I_ 34 [.tv 21, .cv (.int .i64 1)] (.bin
  .add), I_ 21 [.tk 34] .mv]))))))))) (.reg false [I_ 35 [.tv 15, .cv (.int .i64 1)] (.bin .add), I_ 15 [.tk 35] .mv]))))))) (.seq (.reg false [I_ 36 [.tk 7] .mv, I_ 6 [.tk 36] .mv]) .ret)))
theorem lk73 : linkF Go.Proofs.Try.prog ann73 73 = some (rc73, 37, [.tmp 6]) := by kernel_rfl
noncomputable def rc74 : RC :=
  .seq (.reg false [I_ 6 [.cv (.int .i64 0)] .mv]) (.seq (.seq (.reg false [I_ 7 [.cv (.int .i64 0)] .mv]) (.block 0 (.loop (some [true, true, true, false, false, false, false, true, false, false, false, false, false, false, false,
  false, false, false, false, false, false, false, false, false, false, false, false, false, false, false, false, false, false, false, false, false, false, false, false, false, false, false, false]) (.seq (.seq (.reg false [I_ 9
  [.sl 7] .mv, I_ 10 [.sl 0] .mv, I_ 11 [.tk 10] .lenS, I_ 12 [.tv 9, .tv 11] (.bin .lss)]) (.cond (.sl 12) .skip (.exit 0))) (.seq (.block 1 (.seq (.reg false [I_ 8 [.cv (.int .i64 0)] .mv]) (.block 2 (.loop (some [true, true,
  true, false, false, false, false, true, true, false, false, false, false, false, false, false, false, false, false, false, false, false, false, false, false, false, false, false, false, false, false, false, false, false, false,
  false, false, false, false, false, false, false, false]) (.seq (.seq (.reg false [I_ 15 [.sl 8] .mv, I_ 16 [.sl 1] .mv, I_ 17 [.tk 16] .lenS, I_ 18 [.tv 15, .tv 17] (.bin .lss)]) (.cond (.sl 18) .skip (.exit 2))) (.seq (.block
  3 (.reg true [I_ 21 [.tk 2] .mv, I_ 22 [.sl 0] .mv, I_ 23 [.sl 7] .mv, I_ 24 [.tv 22, .tv 23] (.ia 1), I_ 25 [.tv 24] (.ld .one), I_ 26 [.sl 1] .mv, I_ 27 [.sl 8] .mv, I_ 28 [.tv 26, .tv 27] (.ia 1), I_ 29 [.tv 28] (.ld .one),
  I_ 30 [.tv 25, .tv 29] (.bin .sub), I_ 31 [.sl 1] .mv, I_ 32 [.sl 8] .mv, I_ 33 [.tv 31, .tv 32] (.ia 1), I_ 34 [.tv 33] (.ld .one), I_ 35 [.sl 0] .mv, I_ 36 [.sl 7] .mv, I_ 37 [.tv 35, .tv 36] (.ia 1), I_ 38 [.tv 37] (.ld
  .one), I_ 39 [.tv 34, .tv 38] (.bin .sub), I_ 40 [.tk 30, .tk 39] .max, I_ 41 [.tk 21, .tk 40] .min, I_ 2 [.tk 41] .mv])) (.reg false [I_ 19 [.tk 8] .mv, I_ 20 [.tv 19, .cv (.int .i64 1)] (.bin .add), I_ 8 [.tk 20] .mv])))))))
  (.reg false [I_ 13 [.tk 7] .mv, I_ 14 [.tv 13, .cv (.int .i64 1)] (.bin .add), I_ 7 [.tk 14] .mv])))))) (.seq (.reg false [I_ 42 [.tk 2] .mv, I_ 6 [.tk 42] .mv]) .ret))
theorem lk74 : linkF Go.Proofs.Try.prog ann74 74 = some (rc74, 43, [.tmp 6]) := by kernel_rfl
noncomputable def rc75 : RC :=
  .seq (.reg false [I_ 2 [.tk 0] .box, I_ 4 [.cv .nilp] .mv, I_ 5 [.cv (.int .i64 0)] .mv]) (.seq (.seq (.reg false [I_ 9 [.sl 2] (.ld (.str 1)), I_ 10 [.cv (.func 25 [] []), .sl 9] (.call 3), I_ 6 [.tk 10] .mv]) (.seq (.reg false
  [I_ 11 [.sl 6] .mv, I_ 12 [.tv 11, .cv (.int .i64 0)] (.bin .neq)]) (.cond (.sl 12) (.seq (.reg false [I_ 13 [.tk 6] .mv, I_ 4 [.cv .nilp] .mv, I_ 5 [.tk 13] .mv]) .ret) .skip))) (.seq (.seq (.reg false [I_ 14 [.tk 1] .mv, I_
  15 [.sl 14] .lenS, I_ 16 [.cv (.int .i64 0)] .mv]) (.block 0 (.loop (some [false, false, true, false, false, false, false, false, false, false, false, false, false, false, true, true, true, false, false, false, false, false,
  false, false, false, false, false, false, false, false, false, false]) (.seq (.reg false [I_ 17 [.sl 16, .sl 15] (.bin .lss)]) (.seq (.cond (.sl 17) .skip (.exit 0)) (.seq (.block 1 (.seq (.reg false [I_ 18 [.sl 14, .sl 16]
  (.ia 1), I_ 19 [.tv 18] (.ld .one), I_ 8 [.tk 19] .mv]) (.seq (.reg false [I_ 20 [.sl 2] (.fa 0), I_ 21 [.tv 20] (.ld .one), I_ 22 [.tk 21] .lenS, I_ 23 [.tv 22, .cv (.int .i64 1)] (.bin .sub), I_ 24 [.tk 8] .mv, I_ 25 [.tv 24]
  (.buildS 1 1 [.int .i64 0] [0]), I_ 26 [.cv (.func 67 [] []), .cv (.int .i64 0), .sl 23, .sl 25] (.call 3), I_ 27 [.tv 26] (.un .not)]) (.cond (.sl 27) (.seq (.reg false [I_ 4 [.cv .nilp] .mv, I_ 5 [.cv (.int .i64 2)] .mv])
  .ret) .skip)))) (.reg false [I_ 28 [.tv 16, .cv (.int .i64 1)] (.bin .add), I_ 16 [.tk 28] .mv]))))))) (.seq (.reg false [I_ 29 [.tv 2] (.ld (.str 1)), I_ 30 [.tv 29] (.build [.lst [] 0 .full] [(0, 1)]), I_ 31 [.tk 30] .box, I_
  4 [.tk 31] .mv, I_ 5 [.cv (.int .i64 0)] .mv]) .ret)))
theorem lk75 : linkF Go.Proofs.Try.prog ann75 75 = some (rc75, 32, [.tmp 4, .tmp 5]) := by kernel_rfl
noncomputable def rc76 : RC :=
  .seq (.reg false [I_ 4 [.cv (.lst [] 0 .full)] (.nil 1)]) (.seq (.reg false [I_ 5 [.cv (.lst [] 0 .full)] (.nil 1)]) (.seq (.seq (.reg false [I_ 8 [.tk 1] .mv, I_ 9 [.sl 8] .lenS, I_ 10 [.cv (.int .i64 0)] .mv]) (.block 0 (.loop
  (some [true, false, false, false, false, true, false, false, true, true, true, false, false, false, false, false, false, false, false, false, false, false, false, false]) (.seq (.reg false [I_ 11 [.sl 10, .sl 9] (.bin .lss)])
  (.seq (.cond (.sl 11) .skip (.exit 0)) (.seq (.block 1 (.seq (.reg false [I_ 12 [.sl 10] .mv, I_ 13 [.sl 8, .sl 10] (.ia 1), I_ 14 [.tv 13] (.ld .one), I_ 6 [.tk 12] .mv, I_ 7 [.tk 14] .mv]) (.reg false [I_ 15 [.tk 5] .mv, I_
  16 [.sl 0] .mv, I_ 17 [.tk 6] .mv, I_ 18 [.tk 7] .mv, I_ 19 [.cv (.func 87 [] []), .sl 16, .sl 17, .sl 18] (.call 3), I_ 20 [.tv 19] (.buildS 1 1 [.lst [] 0 .full] [0]), I_ 21 [.tk 15, .tk 20] (.app 1 24), I_ 5 [.tk 21] .mv])))
  (.reg false [I_ 22 [.tv 10, .cv (.int .i64 1)] (.bin .add), I_ 10 [.tk 22] .mv]))))))) (.seq (.reg false [I_ 23 [.tk 5] .mv, I_ 4 [.tk 23] .mv]) .ret)))
theorem lk76 : linkF Go.Proofs.Try.prog ann76 76 = some (rc76, 24, [.tmp 4]) := by kernel_rfl
noncomputable def rc77 : RC :=
  .seq (.reg false [I_ 1 [.tk 0] .box, I_ 2 [.cv (.lst [] 0 .full)] (.nil 1)]) (.seq (.reg false [I_ 16 [] (.build [.lst [] 0 .full, .lst [] 0 .full, .int .i64 0, .int .i64 0] []), I_ 17 [.tv 16] (.buildS 1 4 [.lst [] 0 .full, .lst
  [] 0 .full, .int .i64 0, .int .i64 0] [0]), I_ 3 [] (.alloc [.lst [] 0 .full]), ⟨none, [.sl 3, .tk 17], none, none, .st 1⟩]) (.seq (.reg false [I_ 4 [] (.alloc [.junk]), ⟨none, [.sl 4, .cv (.func 100 [] [])], none, none, .st
  1⟩]) (.seq (.seq (.reg false [I_ 18 [.sl 1] (.ld .one), I_ 19 [.tv 18] .nilc, I_ 20 [.tv 19] (.fa 0), I_ 21 [.tv 20] (.fa 0), I_ 22 [.tv 21] (.ld .one), I_ 23 [.tk 22] .lenS, I_ 24 [.tv 23, .cv (.int .i64 1)] (.bin .sub), I_ 5
  [] (.alloc [.int .i64 0]), ⟨none, [.sl 5, .tk 24], none, none, .st 1⟩]) (.block 0 (.loop (some [false, true, false, true, true, true, false, false, false, false, false, false, false, false, false, false, false, false, false,
  false, false, false, false, false, false, false, false, false, false, false, false, false, false, false, false, false, false, false, false, false, false, false, false, false, false, false, false, false, false, false, false,
  false, false, false, false, false, false, false, false, false, false, false, false, false, false, false, false, false, false, false, false, false, false, false, false, false, false, false, false, false, false, false, false,
  false, false, false, false, false]) (.seq (.seq (.reg false [I_ 25 [.sl 5] (.ld .one), I_ 26 [.tv 25, .cv (.int .i64 0)] (.bin .geq)]) (.cond (.sl 26) .skip (.exit 0))) (.seq (.block 1 (.seq (.reg false [I_ 6 [] (.alloc [.lst
  [] 0 .full])]) (.seq (.seq (.reg false [I_ 29 [.sl 1] (.ld .one), I_ 30 [.sl 5] (.ld .one), I_ 31 [.cv (.func 86 [] []), .sl 29, .sl 30] (.call 3)]) (.block 2 (.rng (.sl 31) [32] (rngA Go.Proofs.Try.prog 77 0) (rngB
  Go.Proofs.Try.prog 77 0)))) (.reg false [I_ 82 [.tv 6] (.ld .one), ⟨none, [.sl 3, .tk 82], none, none, .st 1⟩])))) (.seq (.seq (.reg false [I_ 83 [.tv 5] (.ld .one)]) (.reg false [I_ 5 [] (.alloc [.int .i64 0]), ⟨none, [.sl 5,
  .tk 83], none, none, .st 1⟩])) (.reg false [I_ 27 [.sl 5] (.ld .one), I_ 28 [.tv 27, .cv (.int .i64 1)] (.bin .sub), ⟨none, [.sl 5, .tk 28], none, none, .st 1⟩]))))))) (.seq (.reg false [I_ 84 [.tv 3] (.ld .one), I_ 85 [.tv 4]
  (.ld .one), I_ 86 [.cv (.func 101 [] []), .sl 84, .sl 85] (.call 3), I_ 87 [.tv 86] (.fld 0 .one), I_ 2 [.tk 87] .mv]) .ret))))
theorem lk77 : linkF Go.Proofs.Try.prog ann77 77 = some (rc77, 88, [.tmp 2]) := by kernel_rfl
noncomputable def rc78 : RC :=
  .seq (.reg false [I_ 1 [.tk 0] .box, I_ 2 [.cv (.int .i64 0)] .mv]) (.seq (.reg false [I_ 6 [.tv 1] (.ld (.str 1)), I_ 7 [.cv (.func 79 [] []), .sl 6] (.call 3), I_ 8 [.tv 7, .cv (.int .i64 0)] (.ia 1), I_ 9 [.tv 8] (.ld .one),
  I_ 3 [.tk 9] .mv]) (.seq (.reg false [I_ 10 [.sl 3] .mv, I_ 11 [.tv 10, .cv (.int .i64 0)] (.ia 1), I_ 12 [.tv 11] (.ld .one), I_ 4 [.tk 12] .mv]) (.seq (.seq (.reg false [I_ 5 [.cv (.int .i64 0)] .mv]) (.block 0 (.loop (some
  [false, false, false, true, true, true, false, false, false, false, false, false, false, false, false, false, false, false, false, false, false, false, false, false, false, false]) (.seq (.seq (.reg false [I_ 13 [.sl 5] .mv, I_
  14 [.sl 3] .mv, I_ 15 [.tk 14] .lenS, I_ 16 [.tv 13, .tv 15] (.bin .lss)]) (.cond (.sl 16) .skip (.exit 0))) (.seq (.block 1 (.reg false [I_ 19 [.tk 4] .mv, I_ 20 [.sl 3] .mv, I_ 21 [.sl 5] .mv, I_ 22 [.tv 20, .tv 21] (.ia 1),
  I_ 23 [.tv 22] (.ld .one), I_ 24 [.tk 19, .tk 23] .min, I_ 4 [.tk 24] .mv])) (.reg false [I_ 17 [.tk 5] .mv, I_ 18 [.tv 17, .cv (.int .i64 1)] (.bin .add), I_ 5 [.tk 18] .mv])))))) (.seq (.reg false [I_ 25 [.tk 4] .mv, I_ 2
  [.tk 25] .mv]) .ret))))
theorem lk78 : linkF Go.Proofs.Try.prog ann78 78 = some (rc78, 26, [.tmp 2]) := by kernel_rfl
noncomputable def rc79 : RC :=
  .seq (.reg false [I_ 1 [.tk 0] .box, I_ 2 [.cv (.lst [] 0 .full)] (.nil 1)]) (.seq (.reg false [I_ 11 [.sl 1] (.fa 0), I_ 12 [.tv 11] (.ld .one), I_ 13 [.tk 12] .lenS, I_ 3 [.tk 13] .mv]) (.seq (.reg false [I_ 14 [.sl 3] .mv, I_
  15 [.sl 14, .tv 14] (.mkS [.lst [] 0 .full] 1 24), I_ 4 [.tk 15] .mv]) (.seq (.reg false [I_ 16 [.sl 4] .mv, I_ 17 [.sl 3] .mv, I_ 18 [.tv 17, .cv (.int .i64 1)] (.bin .sub), I_ 19 [.sl 1] (.fa 0), I_ 20 [.tv 19] (.ld .one), I_
  21 [.sl 3] .mv, I_ 22 [.tv 21, .cv (.int .i64 1)] (.bin .sub), I_ 23 [.tv 20, .tv 22] (.ia 1), I_ 24 [.tv 23] (.ld .one), I_ 25 [.tk 24] .lenS, I_ 26 [.cv (.func 80 [] []), .sl 25] (.call 3), I_ 27 [.tk 26] .lenS, I_ 28 [.sl
  27, .tv 27] (.other (Oper.mk (some 28) (Op.makeSlice 63 (Operand.tmp 27) (Operand.tmp 27)) 63 "ref.go:214" (Array.mk [Edge.mk 11 Ground.data, Edge.mk 11 Ground.data]) none) 1), I_ 29 [.tv 16, .tv 18] (.ia 1), ⟨none, [.tk 29,
  .tk 28], none, none, .st 1⟩]) (.seq (.seq (.reg false [I_ 30 [.tk 3] .mv, I_ 31 [.tv 30, .cv (.int .i64 2)] (.bin .sub), I_ 5 [.tk 31] .mv]) (.block 0 (.loop (some [false, true, false, false, true, true, false, false, false,
  false, false, false, false, false, false, false, false, false, false, false, false, false, false, false, false, false, false, false, false, false, false, false, false, false, false, false, false, false, false, false, false,
  false, false, false, false, false, false, false, false, false, false, false, false, false, false, false, false, false, false, false, false, false, false, false, false, false, false, false, false, false, false, false, false,
  false, false, false, false, false, false, false, false, false, false, false, false, false, false, false, false, false, false, false]) (.seq (.seq (.reg false [I_ 32 [.sl 5] .mv, I_ 33 [.tv 32, .cv (.int .i64 0)] (.bin .geq)])
  (.cond (.sl 33) .skip (.exit 0))) (.seq (.block 1 (.seq (.reg true [I_ 36 [.sl 1] (.fa 0), I_ 37 [.tv 36] (.ld .one), I_ 38 [.sl 5] .mv, I_ 39 [.tv 37, .tv 38] (.ia 1), I_ 40 [.tv 39] (.ld .one), I_ 41 [.cv (.func 81 [] []),
  .sl 40] (.call 3), I_ 42 [.sl 1] (.fa 0), I_ 43 [.tv 42] (.ld .one), I_ 44 [.sl 5] .mv, I_ 45 [.tv 44, .cv (.int .i64 1)] (.bin .add), I_ 46 [.tv 43, .tv 45] (.ia 1), I_ 47 [.tv 46] (.ld .one), I_ 48 [.cv (.func 81 [] []), .sl
  47] (.call 3), I_ 6 [.tk 41] .mv, I_ 7 [.tk 48] .mv]) (.seq (.reg false [I_ 8 [.cv (.int .i64 0)] .mv]) (.block 2 (.loop (some [false, true, false, false, true, true, true, true, true, false, false, false, false, false, false,
  false, false, false, false, false, false, false, false, false, false, false, false, false, false, false, false, false, false, false, false, false, false, false, false, false, false, false, false, false, false, false, false,
  false, false, false, false, false, false, false, false, false, false, false, false, false, false, false, false, false, false, false, false, false, false, false, false, false, false, false, false, false, false, false, false,
  false, false, false, false, false, false, false, false, false, false, false, false, false]) (.seq (.seq (.reg false [I_ 49 [.sl 8] .mv, I_ 50 [.sl 6] .mv, I_ 51 [.tk 50] .lenS, I_ 52 [.tv 49, .tv 51] (.bin .lss)]) (.cond (.sl
  52) .skip (.exit 2))) (.seq (.block 3 (.seq (.reg false [I_ 9 [.cv (.int .i64 100)] .mv]) (.seq (.seq (.reg false [I_ 10 [.cv (.int .i64 0)] .mv]) (.block 4 (.loop (some [false, true, false, false, true, true, true, true, true,
  true, true, false, false, false, false, false, false, false, false, false, false, false, false, false, false, false, false, false, false, false, false, false, false, false, false, false, false, false, false, false, false,
  false, false, false, false, false, false, false, false, false, false, false, false, false, false, false, false, false, false, false, false, false, false, false, false, false, false, false, false, false, false, false, false,
  false, false, false, false, false, false, false, false, false, false, false, false, false, false, false, false, false, false, false]) (.seq (.seq (.reg false [I_ 55 [.sl 10] .mv, I_ 56 [.sl 7] .mv, I_ 57 [.tk 56] .lenS, I_ 58
  [.tv 55, .tv 57] (.bin .lss)]) (.cond (.sl 58) .skip (.exit 4))) (.seq (.block 5 (.reg true [I_ 61 [.tk 9] .mv, I_ 62 [.sl 6] .mv, I_ 63 [.sl 8] .mv, I_ 64 [.tv 62, .tv 63] (.ia 1), I_ 65 [.tv 64] (.ld .one), I_ 66 [.sl 7] .mv,
  I_ 67 [.sl 10] .mv, I_ 68 [.tv 66, .tv 67] (.ia 1), I_ 69 [.tv 68] (.ld .one), I_ 70 [.cv (.func 51 [] []), .sl 65, .sl 69] (.call 3), I_ 71 [.sl 4] .mv, I_ 72 [.sl 5] .mv, I_ 73 [.tv 72, .cv (.int .i64 1)] (.bin .add), I_ 74
  [.tv 71, .tv 73] (.ia 1), I_ 75 [.tv 74] (.ld .one), I_ 76 [.sl 10] .mv, I_ 77 [.tv 75, .tv 76] (.ia 1), I_ 78 [.tv 77] (.ld .one), I_ 79 [.tv 70, .tv 78] (.bin .add), I_ 80 [.tk 61, .tk 79] .min, I_ 9 [.tk 80] .mv])) (.reg
  false [I_ 59 [.tk 10] .mv, I_ 60 [.tv 59, .cv (.int .i64 1)] (.bin .add), I_ 10 [.tk 60] .mv])))))) (.reg false [I_ 81 [.sl 4] .mv, I_ 82 [.sl 5] .mv, I_ 83 [.sl 4] .mv, I_ 84 [.sl 5] .mv, I_ 85 [.tv 83, .tv 84] (.ia 1), I_ 86
  [.tv 85] .take, I_ 87 [.tk 9] .mv, I_ 88 [.tv 87] (.buildS 1 1 [.int .i64 0] [0]), I_ 89 [.tk 86, .tk 88] (.app 1 8), I_ 90 [.tv 81, .tv 82] (.ia 1), ⟨none, [.tk 90, .tk 89], none, none, .st 1⟩])))) (.reg false [I_ 53 [.tk 8]
  .mv, I_ 54 [.tv 53, .cv (.int .i64 1)] (.bin .add), I_ 8 [.tk 54] .mv])))))))) (.reg false [I_ 34 [.tk 5] .mv, I_ 35 [.tv 34, .cv (.int .i64 1)] (.bin .sub), I_ 5 [.tk 35] .mv])))))) (.seq (.reg false [I_ 91 [.tk 4] .mv, I_ 2
  [.tk 91] .mv]) .ret)))))
theorem lk79 : linkF Go.Proofs.Try.prog ann79 79 = some (rc79, 92, [.tmp 2]) := by kernel_rfl
noncomputable def rc80 : RC :=
  .seq (.reg false [I_ 2 [.cv (.lst [] 0 .full)] (.nil 1)]) (.seq (.reg false [I_ 3 [.tk 0] .mv, I_ 4 [.cv (.func 103 [] []), .sl 3, .cv (.lst [] 0 .full)] (.call 3), I_ 2 [.tk 4] .mv]) .ret)
theorem lk80 : linkF Go.Proofs.Try.prog ann80 80 = some (rc80, 5, [.tmp 2]) := by kernel_rfl
noncomputable def rc81 : RC :=
  .seq (.reg false [I_ 2 [.cv (.lst [] 0 .full)] (.nil 1)]) (.seq (.reg false [I_ 6 [.sl 0] .mv, I_ 7 [.tk 6] .lenS, I_ 8 [.cv (.func 80 [] []), .sl 7] (.call 3), I_ 3 [.tk 8] .mv]) (.seq (.reg false [I_ 4 [.cv (.lst [] 0 .full)]
  (.nil 1)]) (.seq (.seq (.reg false [I_ 5 [.cv (.int .i64 0)] .mv]) (.block 0 (.loop (some [true, false, false, true, true, true, false, false, false, false, false, false, false, false, false, false, false, false, false, false,
  false, false, false, false, false]) (.seq (.seq (.reg false [I_ 9 [.sl 5] .mv, I_ 10 [.sl 3] .mv, I_ 11 [.tk 10] .lenS, I_ 12 [.tv 9, .tv 11] (.bin .lss)]) (.cond (.sl 12) .skip (.exit 0))) (.seq (.block 1 (.reg false [I_ 15
  [.tk 4] .mv, I_ 16 [.sl 0] .mv, I_ 17 [.sl 3] .mv, I_ 18 [.sl 5] .mv, I_ 19 [.tv 17, .tv 18] (.ia 1), I_ 20 [.tv 19] (.ld .one), I_ 21 [.cv (.func 95 [] []), .sl 16, .sl 20] (.call 3), I_ 22 [.tv 21] (.buildS 1 1 [.lst [] 0
  .full] [0]), I_ 23 [.tk 15, .tk 22] (.app 1 24), I_ 4 [.tk 23] .mv])) (.reg false [I_ 13 [.tk 5] .mv, I_ 14 [.tv 13, .cv (.int .i64 1)] (.bin .add), I_ 5 [.tk 14] .mv])))))) (.seq (.reg false [I_ 24 [.tk 4] .mv, I_ 2 [.tk 24]
  .mv]) .ret))))
theorem lk81 : linkF Go.Proofs.Try.prog ann81 81 = some (rc81, 25, [.tmp 2]) := by kernel_rfl
noncomputable def rc82 : RC :=
  .seq (.reg false [I_ 2 [.tk 0] .box, I_ 4 [.cv (.int .i64 0)] .mv]) (.seq (.reg false [I_ 5 [.tv 2] (.fa 0), I_ 6 [.tv 5] (.ld .one), I_ 7 [.sl 1] .mv, I_ 8 [.tk 1] .mv, I_ 9 [.tv 8, .cv (.int .i64 2)] (.bin .add), I_ 10 [.tk 6,
  .tk 7, .tk 9] (.slS 1 true true false), I_ 11 [.tv 10] (.build [.lst [] 0 .full] [(0, 1)]), I_ 12 [.cv (.func 78 [] []), .sl 11] (.call 3), I_ 4 [.tk 12] .mv]) .ret)
theorem lk82 : linkF Go.Proofs.Try.prog ann82 82 = some (rc82, 13, [.tmp 4]) := by kernel_rfl
noncomputable def rc83 : RC :=
  .seq (.reg false [I_ 4 [.cv (.lst [] 0 .full)] (.nil 1)]) (.seq (.reg false [I_ 5 [.cv (.lst [] 0 .full)] (.nil 1)]) (.seq (.reg false [I_ 11 [.tk 0] .mv, I_ 12 [.tv 11] .nilc, I_ 13 [.tv 12] (.fa 0), I_ 14 [.tv 13] (.fa 0), I_
  15 [.tv 14] (.ld .one), I_ 16 [.tk 1] .mv, I_ 17 [.tv 15, .tv 16] (.ia 1), I_ 18 [.tv 17] (.ld .one), I_ 6 [.tk 18] .mv]) (.seq (.seq (.reg false [I_ 7 [.cv (.int .i64 1)] .mv]) (.block 0 (.loop (some [false, false, false,
  false, false, true, true, true, false, false, false, false, false, false, false, false, false, false, false, false, false, false, false, false, false, false, false, false, false, false, false, false, false, false, false, false,
  false, false, false, false, false, false, false, false, false, false, false, false, false, false, false]) (.seq (.seq (.reg false [I_ 19 [.sl 7] .mv, I_ 20 [.sl 6] .mv, I_ 21 [.tk 20] .lenS, I_ 22 [.cv (.int .i64 1), .tv 21]
  (.bin .shl), I_ 23 [.tv 22, .cv (.int .i64 1)] (.bin .sub), I_ 24 [.tv 19, .tv 23] (.bin .lss)]) (.cond (.sl 24) .skip (.exit 0))) (.seq (.block 1 (.seq (.reg false [I_ 8 [.cv (.int .i64 0)] .mv]) (.seq (.seq (.reg false [I_ 27
  [.sl 6] .mv, I_ 28 [.sl 27] .lenS, I_ 29 [.cv (.int .i64 0)] .mv]) (.block 2 (.loop (some [false, false, false, false, false, true, true, true, true, false, false, false, false, false, false, false, false, false, false, false,
  false, false, false, false, false, false, false, true, true, true, false, false, false, false, false, false, false, false, false, false, false, false, false, false, false, false, false, false, false, false, false]) (.seq (.reg
  false [I_ 30 [.sl 29, .sl 28] (.bin .lss)]) (.seq (.cond (.sl 30) .skip (.exit 2)) (.seq (.block 3 (.seq (.reg false [I_ 31 [.sl 29] .mv, I_ 32 [.sl 27, .sl 29] (.ia 1), I_ 33 [.tv 32] (.ld .one), I_ 9 [.tk 31] .mv, I_ 10 [.tk
  33] .mv]) (.reg false [I_ 34 [.tk 8] .mv, I_ 35 [.tk 10] .mv, I_ 36 [.sl 7] .mv, I_ 37 [.tk 9] .mv, I_ 38 [.tv 36, .tv 37] (.bin .shr), I_ 39 [.tv 38, .cv (.int .i64 1)] (.bin .and), I_ 40 [.tv 35, .tv 39] (.bin .mul), I_ 41
  [.tv 34, .tv 40] (.bin .add), I_ 8 [.tk 41] .mv]))) (.reg false [I_ 42 [.tv 29, .cv (.int .i64 1)] (.bin .add), I_ 29 [.tk 42] .mv]))))))) (.reg false [I_ 43 [.tk 5] .mv, I_ 44 [.tk 8] .mv, I_ 45 [.tv 44] (.buildS 1 1 [.int
  .i64 0] [0]), I_ 46 [.tk 43, .tk 45] (.app 1 8), I_ 5 [.tk 46] .mv])))) (.reg false [I_ 25 [.tk 7] .mv, I_ 26 [.tv 25, .cv (.int .i64 1)] (.bin .add), I_ 7 [.tk 26] .mv])))))) (.seq (.reg false [⟨some 47, [.tk 5], none, some 5,
  .thaw⟩, I_ 48 [.cv (.func 104 [] []), .tk 47] (.call 1)]) (.seq (.reg false [I_ 49 [.tk 5] .mv, I_ 50 [.cv (.func 105 [] []), .tk 49] (.call 1), I_ 4 [.tk 50] .mv]) .ret)))))
theorem lk83 : linkF Go.Proofs.Try.prog ann83 83 = some (rc83, 51, [.tmp 4]) := by kernel_rfl
noncomputable def rc84 : RC :=
  .seq (.reg false [I_ 2 [.tk 0] .box, I_ 4 [.cv (.int .i64 0)] .mv]) (.seq (.seq (.reg false [I_ 5 [.sl 2] (.ld (.str 1)), I_ 6 [.cv (.func 26 [] []), .sl 5] (.call 3), I_ 7 [.tv 6, .cv (.int .i64 0)] (.bin .neq)]) (.cond (.sl 7)
  (.seq (.reg false [I_ 8 [.tv 2] (.ld (.str 1)), I_ 9 [.cv (.func 26 [] []), .sl 8] (.call 3), I_ 4 [.tk 9] .mv]) .ret) .skip)) (.seq (.seq (.reg false [I_ 10 [.sl 1] .mv, I_ 11 [.tv 10, .cv (.int .i64 0)] (.bin .lss), I_ 12
  [.tk 11] .mv, ⟨some 13, [.tk 1], some (12, false), none, .mv⟩, ⟨some 14, [.tv 2], some (12, false), none, .fa 0⟩, ⟨some 15, [.tv 14], some (12, false), none, .ld .one⟩, ⟨some 16, [.tk 15], some (12, false), none, .lenS⟩, ⟨some
  17, [.tv 13, .tv 16], some (12, false), none, .bin .geq⟩, I_ 18 [.tv 12, .cv (.bool true), .tv 17] .pick]) (.cond (.sl 18) (.seq (.reg false [I_ 4 [.cv (.int .i64 2)] .mv]) .ret) .skip)) (.seq (.reg false [I_ 4 [.cv (.int .i64
  0)] .mv]) .ret)))
theorem lk84 : linkF Go.Proofs.Try.prog ann84 84 = some (rc84, 19, [.tmp 4]) := by kernel_rfl
noncomputable def rc85 : RC :=
  .seq (.reg false [I_ 2 [.cv (.lst [] 0 .full)] (.nil 1)]) (.seq (.reg false [I_ 3 [.tk 0] .mv, I_ 4 [.cv (.func 106 [] []), .sl 3, .cv (.int .i64 1)] (.call 3), I_ 2 [.tk 4] .mv]) .ret)
theorem lk85 : linkF Go.Proofs.Try.prog ann85 85 = some (rc85, 5, [.tmp 2]) := by kernel_rfl
noncomputable def rc86 : RC :=
  .seq (.reg false [I_ 2 [.tk 0] .box, I_ 3 [.tk 1] .box, I_ 4 [.cv .junk] .mv]) (.seq (.reg false [I_ 5 [.tv 2, .tv 3] (.mkF 107 0 2), I_ 4 [.tk 5] .mv]) .ret)
theorem lk86 : linkF Go.Proofs.Try.prog ann86 86 = some (rc86, 6, [.tmp 4]) := by kernel_rfl
noncomputable def rc87 : RC :=
  .seq (.reg false [I_ 6 [.cv (.lst [] 0 .full)] (.nil 1)]) (.seq (.reg false [I_ 7 [.cv (.lst [] 0 .full)] (.nil 1)]) (.seq (.reg false [I_ 8 [.cv (.int .i64 0)] .mv]) (.seq (.seq (.reg false [I_ 11 [.sl 2] .mv, I_ 12 [.tk 2] .mv,
  I_ 13 [.tk 12] .lenS, I_ 14 [.tv 13, .cv (.int .i64 1)] (.bin .sub), I_ 15 [.tk 11, .tk 14] (.slS 1 false true false), I_ 16 [.sl 15] .lenS, I_ 17 [.cv (.int .i64 0)] .mv]) (.block 0 (.loop (some [true, true, false, false,
  false, false, false, true, true, false, false, false, false, false, false, true, true, true, false, false, false, false, false, false, false, false, false, false, false, false, false, false, false, false, false, false, false,
  false, false, false]) (.seq (.reg false [I_ 18 [.sl 17, .sl 16] (.bin .lss)]) (.seq (.cond (.sl 18) .skip (.exit 0)) (.seq (.block 1 (.seq (.reg false [I_ 19 [.sl 15, .sl 17] (.ia 1), I_ 20 [.tv 19] (.ld .one), I_ 10 [.tk 20]
  .mv]) (.seq (.reg false [I_ 21 [.tk 8] .mv, I_ 22 [.sl 0] .mv, I_ 23 [.tv 22] .nilc, I_ 24 [.tv 23] (.fa 0), I_ 25 [.tv 24] (.fa 0), I_ 26 [.tv 25] (.ld .one), I_ 27 [.sl 1] .mv, I_ 28 [.tv 26, .tv 27] (.ia 1), I_ 29 [.tv 28]
  (.ld .one), I_ 30 [.tk 10] .mv, I_ 31 [.tv 29, .tv 30] (.ia 1), I_ 32 [.tv 31] (.ld .one), I_ 33 [.tv 21, .tv 32] (.bin .add), I_ 8 [.tk 33] .mv]) (.reg false [I_ 34 [.tk 7] .mv, I_ 35 [.sl 8] .mv, I_ 36 [.tv 35] (.buildS 1 1
  [.int .i64 0] [0]), I_ 37 [.tk 34, .tk 36] (.app 1 8), I_ 7 [.tk 37] .mv])))) (.reg false [I_ 38 [.tv 17, .cv (.int .i64 1)] (.bin .add), I_ 17 [.tk 38] .mv]))))))) (.seq (.reg false [I_ 39 [.tk 7] .mv, I_ 6 [.tk 39] .mv])
  .ret))))
theorem lk87 : linkF Go.Proofs.Try.prog ann87 87 = some (rc87, 40, [.tmp 6]) := by kernel_rfl
noncomputable def rc88 : RC :=
  .seq (.reg false [I_ 4 [.cv (.lst [] 0 .full)] (.nil 1)]) (.seq (.reg false [I_ 8 [.sl 0] .mv, I_ 9 [.sl 1] .mv, I_ 10 [.cv (.func 110 [] []), .sl 8, .sl 9] (.call 6), I_ 5 [.tk 10] .mv]) (.seq (.seq (.reg false [I_ 11 [.sl 5]
  .mv, I_ 12 [.tv 11, .cv (.int .i64 (-1))] (.bin .eql)]) (.cond (.sl 12) (.seq (.reg false [I_ 13 [.tk 0] .mv, I_ 4 [.tk 13] .mv]) .ret) .skip)) (.seq (.seq (.reg false [I_ 14 [.sl 5] .mv, I_ 15 [.tv 14, .cv (.int .i64 1)] (.bin
  .add), I_ 6 [.tk 15] .mv]) (.block 0 (.loop (some [true, true, false, false, false, true, true, false, false, false, false, false, false, false, false, false, false, false, false, false, false, false, false, false, false,
  false, false, false, false, false, false, false, false, false, false, false, false, false, false, false, false, false]) (.seq (.seq (.reg false [I_ 16 [.sl 6] .mv, I_ 17 [.sl 0] .mv, I_ 18 [.tk 17] .lenS, I_ 19 [.tv 16, .tv 18]
  (.bin .lss)]) (.cond (.sl 19) .skip (.exit 0))) (.seq (.block 1 (.seq (.reg false [I_ 22 [.sl 0] .mv, I_ 23 [.sl 6] .mv, I_ 24 [.tv 22, .tv 23] (.ia 1), I_ 25 [.tv 24] (.ld .one), I_ 7 [.tk 25] .mv]) (.seq (.reg false [I_ 26
  [.sl 1] .mv, I_ 27 [.sl 7] .mv, I_ 28 [.sl 26, .sl 27] (.call 6), I_ 29 [.tv 28] (.un .not)]) (.cond (.sl 29) (.seq (.reg false [I_ 30 [.sl 0] .mv, I_ 31 [.sl 5] .mv, I_ 32 [.tk 7] .mv, I_ 33 [.tv 30, .tv 31] (.ia 1), ⟨none,
  [.tk 33, .tk 32], none, none, .st 1⟩]) (.reg false [I_ 34 [.tk 5] .mv, I_ 35 [.tv 34, .cv (.int .i64 1)] (.bin .add), I_ 5 [.tk 35] .mv])) .skip)))) (.reg false [I_ 20 [.tk 6] .mv, I_ 21 [.tv 20, .cv (.int .i64 1)] (.bin .add),
  I_ 6 [.tk 21] .mv])))))) (.seq (.reg false [I_ 36 [.sl 0] .mv, I_ 37 [.sl 5] .mv, I_ 38 [.tk 36, .tk 37] (.slS 1 true false false), ⟨none, [.tk 38], none, none, .other (Oper.mk none (Op.call (Call.mk (Callee.builtin
  Builtin.clear) (Array.mk [Operand.tmp 38]) (Array.mk [37]))) 0 "slices.go:253" (Array.mk [Edge.mk 2 Ground.data]) none) 0⟩]) (.seq (.reg false [I_ 39 [.tk 0] .mv, I_ 40 [.tk 5] .mv, I_ 41 [.tk 39, .tk 40] (.slS 1 false true
  false), I_ 4 [.tk 41] .mv]) .ret)))))
theorem lk88 : linkF Go.Proofs.Try.prog ann88 88 = some (rc88, 42, [.tmp 4]) := by kernel_rfl
noncomputable def rc89 : RC :=
  .seq (.reg false [I_ 3 [.cv (.bool false)] .mv]) (.seq (.reg false [I_ 4 [.tv 1] (.ld .one), I_ 5 [.tk 0] .mv, I_ 6 [.cv (.func 72 [] []), .sl 4, .sl 5] (.call 3), I_ 7 [.tv 6] (.un .not), I_ 3 [.tk 7] .mv]) .ret)
theorem lk89 : linkF Go.Proofs.Try.prog ann89 89 = some (rc89, 8, [.tmp 3]) := by kernel_rfl
noncomputable def rc90 : RC :=
  .seq (.reg false [I_ 2 [.cv (.lst [] 0 .full)] (.nil 1)]) (.seq (.reg false [I_ 3 [.sl 0] .mv, I_ 4 [.tk 0] .mv, I_ 5 [.tk 4] .lenS, I_ 6 [.cv (.func 80 [] []), .sl 5] (.call 3), I_ 7 [.tk 6] .lenS, I_ 8 [.cv (.func 106 [] []),
  .sl 3, .sl 7] (.call 3), I_ 2 [.tk 8] .mv]) .ret)
theorem lk90 : linkF Go.Proofs.Try.prog ann90 90 = some (rc90, 9, [.tmp 2]) := by kernel_rfl
noncomputable def rc91 : RC :=
  .seq (.reg false [I_ 1 [.tk 0] .box, I_ 2 [] (.alloc [.lst [] 0 .full, .lst [] 0 .full, .int .i64 0, .int .i64 0])]) (.seq (.reg false [I_ 14 [.sl 1] (.ld .one), I_ 15 [.tv 14] .nilc, I_ 16 [.tv 15] (.fa 0), I_ 17 [.tv 16] (.fa
  0), I_ 18 [.tv 17] (.ld .one), I_ 19 [.tv 18, .cv (.int .i64 0)] (.ia 1), I_ 20 [.tv 19] (.ld .one), I_ 21 [.cv (.func 71 [] []), .sl 20] (.call 3), I_ 3 [] (.alloc [.int .i64 0]), ⟨none, [.sl 3, .tk 21], none, none, .st 1⟩])
  (.seq (.reg false [I_ 22 [.sl 3] (.ld .one), I_ 23 [.tv 22] (.build [.lst [] 0 .full, .lst [] 0 .full, .int .i64 0, .int .i64 0] [(3, 1)]), I_ 24 [.tv 23] (.buildS 1 4 [.lst [] 0 .full, .lst [] 0 .full, .int .i64 0, .int .i64
  0] [0]), I_ 4 [] (.alloc [.lst [] 0 .full]), ⟨none, [.sl 4, .tk 24], none, none, .st 1⟩]) (.seq (.reg false [I_ 5 [] (.alloc [.junk]), ⟨none, [.sl 5, .cv (.func 111 [] [])], none, none, .st 1⟩]) (.seq (.seq (.reg false [I_ 25
  [.sl 1] (.ld .one), I_ 26 [.tv 25] .nilc, I_ 27 [.tv 26] (.fa 0), I_ 28 [.tv 27] (.fa 0), I_ 29 [.tv 28] (.ld .one), I_ 30 [.tk 29] .lenS, I_ 31 [.cv (.int .i64 0)] .mv]) (.block 0 (.loop (some [false, true, true, true, true,
  true, false, false, false, false, false, false, false, false, false, false, false, false, false, false, false, false, false, false, false, false, false, false, false, false, true, true, false, false, false, false, false, false,
  false, false, false, false, false, false, false, false, false, false, false, false, false, false, false, false, false, false, false, false, false, false, false, false, false, false, false, false, false, false, false, false,
  false, false, false, false, false, false, false, false, false, false, false, false, false, false, false, false, false, false, false, false]) (.seq (.reg false [I_ 32 [.sl 31, .sl 30] (.bin .lss)]) (.seq (.cond (.sl 32) .skip
  (.exit 0)) (.seq (.block 1 (.seq (.reg false [I_ 33 [.sl 31] .mv, I_ 6 [] (.alloc [.int .i64 0]), ⟨none, [.sl 6, .tk 33], none, none, .st 1⟩]) (.seq (.reg false [I_ 7 [] (.alloc [.lst [] 0 .full])]) (.seq (.seq (.reg false [I_
  34 [.sl 1] (.ld .one), I_ 35 [.sl 6] (.ld .one), I_ 36 [.cv (.func 86 [] []), .sl 34, .sl 35] (.call 3)]) (.block 2 (.rng (.sl 36) [37] (rngA Go.Proofs.Try.prog 91 0) (rngB Go.Proofs.Try.prog 91 0)))) (.reg false [I_ 85 [.tv 7]
  (.ld .one), ⟨none, [.sl 4, .tk 85], none, none, .st 1⟩]))))) (.reg false [I_ 86 [.tv 31, .cv (.int .i64 1)] (.bin .add), I_ 31 [.tk 86] .mv]))))))) (.seq (.reg false [I_ 87 [.tv 4] (.ld .one), I_ 88 [.tv 5] (.ld .one), I_ 89
  [.cv (.func 101 [] []), .sl 87, .sl 88] (.call 3), ⟨none, [.sl 2, .tk 89], none, none, .st 4⟩]) .ret)))))
theorem lk91 : linkF Go.Proofs.Try.prog ann91 91 = some (rc91, 90, [.cell 2 (.str 4)]) := by kernel_rfl
noncomputable def rc92 : RC :=
  .seq (.reg false [I_ 1 [.tk 0] .box, I_ 2 [.cv (.int .i64 0)] .mv]) (.seq (.reg false [I_ 14 [.sl 1] (.fa 0), I_ 15 [.tv 14] (.ld .one), I_ 16 [.tv 15, .cv (.int .i64 0)] (.ia 1), I_ 17 [.tv 16] (.ld .one), I_ 18 [.cv (.func 81
  [] []), .sl 17] (.call 3), I_ 3 [.tk 18] .mv]) (.seq (.reg false [I_ 4 [.cv (.lst [] 0 .full)] (.nil 1)]) (.seq (.seq (.reg false [I_ 5 [.cv (.int .i64 0)] .mv]) (.block 0 (.loop (some [false, true, false, true, true, true,
  false, false, false, false, false, false, false, false, false, false, false, false, false, false, false, false, false, false, false, false, false, false, false, false, false, false, false, false, false, false, false, false,
  false, false, false, false, false, false, false, false, false, false, false, false, false, false, false, false, false, false, false, false, false, false, false, false, false, false, false, false, false, false, false, false,
  false, false, false, false, false, false, false, false, false, false, false, false, false, false, false, false, false, false, false, false, false, false, false, false, false, false, false, false]) (.seq (.seq (.reg false [I_ 19
  [.sl 5] .mv, I_ 20 [.sl 3] .mv, I_ 21 [.tk 20] .lenS, I_ 22 [.tv 19, .tv 21] (.bin .lss)]) (.cond (.sl 22) .skip (.exit 0))) (.seq (.block 1 (.reg false [I_ 25 [.tk 4] .mv, I_ 26 [.sl 1] (.fa 0), I_ 27 [.tv 26] (.ld .one), I_
  28 [.tv 27, .cv (.int .i64 0)] (.ia 1), I_ 29 [.tv 28] (.ld .one), I_ 30 [.cv (.func 53 [] []), .sl 29] (.call 3), I_ 31 [.tv 30] (.buildS 1 1 [.int .i64 0] [0]), I_ 32 [.tk 25, .tk 31] (.app 1 8), I_ 4 [.tk 32] .mv])) (.reg
  false [I_ 23 [.tk 5] .mv, I_ 24 [.tv 23, .cv (.int .i64 1)] (.bin .add), I_ 5 [.tk 24] .mv])))))) (.seq (.seq (.reg false [I_ 6 [.cv (.int .i64 1)] .mv]) (.block 2 (.loop (some [false, true, false, true, true, false, true,
  false, false, false, false, false, false, false, false, false, false, false, false, false, false, false, false, false, false, false, false, false, false, false, false, false, false, false, false, false, false, false, false,
  false, false, false, false, false, false, false, false, false, false, false, false, false, false, false, false, false, false, false, false, false, false, false, false, false, false, false, false, false, false, false, false,
  false, false, false, false, false, false, false, false, false, false, false, false, false, false, false, false, false, false, false, false, false, false, false, false, false, false, false]) (.seq (.seq (.reg false [I_ 33 [.sl
  6] .mv, I_ 34 [.sl 1] (.fa 0), I_ 35 [.tv 34] (.ld .one), I_ 36 [.tk 35] .lenS, I_ 37 [.tv 33, .tv 36] (.bin .lss)]) (.cond (.sl 37) .skip (.exit 2))) (.seq (.block 3 (.seq (.reg false [I_ 40 [.sl 1] (.fa 0), I_ 41 [.tv 40]
  (.ld .one), I_ 42 [.sl 6] .mv, I_ 43 [.tv 41, .tv 42] (.ia 1), I_ 44 [.tv 43] (.ld .one), I_ 45 [.cv (.func 81 [] []), .sl 44] (.call 3), I_ 7 [.tk 45] .mv]) (.seq (.reg false [I_ 8 [.cv (.lst [] 0 .full)] (.nil 1)]) (.seq
  (.seq (.reg false [I_ 9 [.cv (.int .i64 0)] .mv]) (.block 4 (.loop (some [false, true, false, true, true, false, true, true, true, true, false, false, false, false, false, false, false, false, false, false, false, false, false,
  false, false, false, false, false, false, false, false, false, false, false, false, false, false, false, false, false, false, false, false, false, false, false, false, false, false, false, false, false, false, false, false,
  false, false, false, false, false, false, false, false, false, false, false, false, false, false, false, false, false, false, false, false, false, false, false, false, false, false, false, false, false, false, false, false,
  false, false, false, false, false, false, false, false, false, false, false]) (.seq (.seq (.reg false [I_ 46 [.sl 9] .mv, I_ 47 [.sl 7] .mv, I_ 48 [.tk 47] .lenS, I_ 49 [.tv 46, .tv 48] (.bin .lss)]) (.cond (.sl 49) .skip
  (.exit 4))) (.seq (.block 5 (.seq (.reg false [I_ 10 [.cv (.int .i64 0)] .mv]) (.seq (.seq (.reg false [I_ 11 [.cv (.int .i64 0)] .mv]) (.block 6 (.loop (some [false, true, false, true, true, false, true, true, true, true,
  true, true, false, false, false, false, false, false, false, false, false, false, false, false, false, false, false, false, false, false, false, false, false, false, false, false, false, false, false, false, false, false,
  false, false, false, false, false, false, false, false, false, false, false, false, false, false, false, false, false, false, false, false, false, false, false, false, false, false, false, false, false, false, false, false,
  false, false, false, false, false, false, false, false, false, false, false, false, false, false, false, false, false, false, false, false, false, false, false, false]) (.seq (.seq (.reg false [I_ 52 [.sl 11] .mv, I_ 53 [.sl 3]
  .mv, I_ 54 [.tk 53] .lenS, I_ 55 [.tv 52, .tv 54] (.bin .lss)]) (.cond (.sl 55) .skip (.exit 6))) (.seq (.block 7 (.seq (.reg false [I_ 58 [.sl 4] .mv, I_ 59 [.sl 11] .mv, I_ 60 [.tv 58, .tv 59] (.ia 1), I_ 61 [.tv 60] (.ld
  .one), I_ 62 [.sl 10] .mv, I_ 63 [.tv 61, .tv 62] (.bin .gtr)]) (.cond (.sl 63) (.reg true [I_ 64 [.tk 10] .mv, I_ 65 [.sl 3] .mv, I_ 66 [.sl 11] .mv, I_ 67 [.tv 65, .tv 66] (.ia 1), I_ 68 [.tv 67] (.ld .one), I_ 69 [.sl 7]
  .mv, I_ 70 [.sl 9] .mv, I_ 71 [.tv 69, .tv 70] (.ia 1), I_ 72 [.tv 71] (.ld .one), I_ 73 [.sl 4] .mv, I_ 74 [.sl 11] .mv, I_ 75 [.tv 73, .tv 74] (.ia 1), I_ 76 [.tv 75] (.ld .one), I_ 77 [.cv (.func 74 [] []), .sl 68, .sl 72,
  .sl 76] (.call 3), I_ 78 [.tk 64, .tk 77] .max, I_ 10 [.tk 78] .mv]) .skip))) (.reg false [I_ 56 [.tk 11] .mv, I_ 57 [.tv 56, .cv (.int .i64 1)] (.bin .add), I_ 11 [.tk 57] .mv])))))) (.reg false [I_ 79 [.tk 8] .mv, I_ 80 [.tk
  10] .mv, I_ 81 [.tv 80] (.buildS 1 1 [.int .i64 0] [0]), I_ 82 [.tk 79, .tk 81] (.app 1 8), I_ 8 [.tk 82] .mv])))) (.reg false [I_ 50 [.tk 9] .mv, I_ 51 [.tv 50, .cv (.int .i64 1)] (.bin .add), I_ 9 [.tk 51] .mv])))))) (.reg
  false [I_ 83 [.tk 7] .mv, I_ 84 [.tk 8] .mv, I_ 3 [.tk 83] .mv, I_ 4 [.tk 84] .mv]))))) (.reg false [I_ 38 [.tk 6] .mv, I_ 39 [.tv 38, .cv (.int .i64 1)] (.bin .add), I_ 6 [.tk 39] .mv])))))) (.seq (.reg false [I_ 12 [.cv (.int
  .i64 0)] .mv]) (.seq (.seq (.reg false [I_ 13 [.cv (.int .i64 0)] .mv]) (.block 8 (.loop (some [false, false, false, false, true, false, false, false, false, false, false, false, true, true, false, false, false, false, false,
  false, false, false, false, false, false, false, false, false, false, false, false, false, false, false, false, false, false, false, false, false, false, false, false, false, false, false, false, false, false, false, false,
  false, false, false, false, false, false, false, false, false, false, false, false, false, false, false, false, false, false, false, false, false, false, false, false, false, false, false, false, false, false, false, false,
  false, false, false, false, false, false, false, false, false, false, false, false, false, false, false]) (.seq (.seq (.reg false [I_ 85 [.sl 13] .mv, I_ 86 [.sl 4] .mv, I_ 87 [.tk 86] .lenS, I_ 88 [.tv 85, .tv 87] (.bin
  .lss)]) (.cond (.sl 88) .skip (.exit 8))) (.seq (.block 9 (.reg false [I_ 91 [.tk 12] .mv, I_ 92 [.sl 4] .mv, I_ 93 [.sl 13] .mv, I_ 94 [.tv 92, .tv 93] (.ia 1), I_ 95 [.tv 94] (.ld .one), I_ 96 [.tk 91, .tk 95] .max, I_ 12
  [.tk 96] .mv])) (.reg false [I_ 89 [.tk 13] .mv, I_ 90 [.tv 89, .cv (.int .i64 1)] (.bin .add), I_ 13 [.tk 90] .mv])))))) (.seq (.reg false [I_ 97 [.tk 12] .mv, I_ 2 [.tk 97] .mv]) .ret)))))))
theorem lk92 : linkF Go.Proofs.Try.prog ann92 92 = some (rc92, 98, [.tmp 2]) := by kernel_rfl
noncomputable def rc93 : RC :=
  .seq (.reg false [I_ 6 [.cv (.bool false)] .mv]) (.seq (.reg false [I_ 7 [] (.alloc [.int .i64 0, .int .i64 0, .int .i64 0, .int .i64 0, .int .i64 0])]) (.seq (.reg false [I_ 10 [.sl 7] (.other (Oper.mk (some 10) (Op.slice 127
  (Operand.tmp 7) none none none) 63 "bench.go:27" (Array.mk []) none) 0), ⟨none, [.tk 10], none, none, .other (Oper.mk none (Op.call (Call.mk (Callee.builtin Builtin.clear) (Array.mk [Operand.tmp 10]) (Array.mk [63]))) 0
  "bench.go:27" (Array.mk [Edge.mk 0 Ground.data]) none) 0⟩]) (.seq (.seq (.reg false [I_ 11 [.sl 2] .mv, I_ 12 [.sl 11] .lenS, I_ 13 [.cv (.int .i64 0)] .mv]) (.block 0 (.loop (some [true, true, true, false, false, false, false,
  true, false, false, false, true, true, true, false, false, false, false, false, false, false, false, false, false, false, false, false, false, false, false, false, false, false, false, false, false, false, false, false, false,
  false, false, false, false, false, false, false, false, false, false, false, false, false, false, false, false, false]) (.seq (.reg false [I_ 14 [.sl 13, .sl 12] (.bin .lss)]) (.seq (.cond (.sl 14) .skip (.exit 0)) (.seq
  (.block 1 (.seq (.reg false [I_ 15 [.sl 11, .sl 13] (.ia 1), I_ 16 [.tv 15] (.ld .one), I_ 9 [.tk 16] .mv]) (.seq (.seq (.reg false [I_ 17 [.sl 0] .mv, I_ 18 [.tv 17] .nilc, I_ 19 [.tv 18] (.fa 0), I_ 20 [.tv 19] (.fa 0), I_ 21
  [.tv 20] (.ld .one), I_ 22 [.sl 1] .mv, I_ 23 [.tv 21, .tv 22] (.ia 1), I_ 24 [.tv 23] (.ld .one), I_ 25 [.tk 24] .lenS, I_ 26 [.tv 25, .cv (.int .i64 1)] (.bin .sub), I_ 27 [.sl 9] .mv, I_ 28 [.tv 27] (.buildS 1 1 [.int .i64
  0] [0]), I_ 29 [.cv (.func 67 [] []), .cv (.int .i64 0), .sl 26, .sl 28] (.call 3), I_ 30 [.tv 29] (.un .not), I_ 31 [.tk 30] .mv, ⟨some 32, [.sl 9], some (31, false), none, .mv⟩, ⟨some 33, [.sl 7, .tv 32], some (31, false),
  none, .iaA 5 1⟩, ⟨some 34, [.tv 33], some (31, false), none, .ld .one⟩, ⟨some 35, [.tv 34, .cv (.int .i64 0)], some (31, false), none, .bin .gtr⟩, I_ 36 [.tv 31, .cv (.bool true), .tv 35] .pick]) (.cond (.sl 36) (.seq (.reg
  false [I_ 6 [.cv (.bool false)] .mv]) .ret) .skip)) (.reg false [I_ 37 [.tk 9] .mv, I_ 38 [.sl 7, .tv 37] (.iaA 5 1), ⟨none, [.tk 38, .cv (.int .i64 1)], none, none, .st 1⟩])))) (.reg false [I_ 39 [.tv 13, .cv (.int .i64 1)]
  (.bin .add), I_ 13 [.tk 39] .mv]))))))) (.seq (.reg false [I_ 40 [.tv 7] (.ld (.arr 5)), I_ 41 [] (.build [.int .i64 0, .int .i64 0, .int .i64 0, .int .i64 0, .int .i64 0] []), I_ 42 [.tv 40, .tv 41] (.other (Oper.mk (some 42)
  (Op.binOp .neq 127 (Operand.tmp 40) (Operand.tmp 41) 127) 4 "bench.go:34" (Array.mk [Edge.mk 0 Ground.data, Edge.mk 1 Ground.data]) none) 0), I_ 43 [.tk 42] .mv, ⟨some 44, [.tk 2], some (43, true), none, .mv⟩, ⟨some 45, [.tk
  44], some (43, true), none, .lenS⟩, ⟨some 46, [.tk 0], some (43, true), none, .mv⟩, ⟨some 47, [.tv 46], some (43, true), none, .nilc⟩, ⟨some 48, [.tv 47], some (43, true), none, .fa 0⟩, ⟨some 49, [.tv 48], some (43, true),
  none, .fa 0⟩, ⟨some 50, [.tv 49], some (43, true), none, .ld .one⟩, ⟨some 51, [.tk 1], some (43, true), none, .mv⟩, ⟨some 52, [.tv 50, .tv 51], some (43, true), none, .ia 1⟩, ⟨some 53, [.tv 52], some (43, true), none, .ld
  .one⟩, ⟨some 54, [.tk 53], some (43, true), none, .lenS⟩, ⟨some 55, [.tv 45, .tv 54], some (43, true), none, .bin .eql⟩, I_ 56 [.tv 43, .tv 55, .cv (.bool false)] .pick, I_ 6 [.tk 56] .mv]) .ret))))
theorem lk93 : linkF Go.Proofs.Try.prog ann93 93 = some (rc93, 57, [.tmp 6]) := by kernel_rfl
noncomputable def rc94 : RC :=
  .seq (.reg false [I_ 4 [.cv (.bool false)] .mv]) (.seq (.seq (.reg false [I_ 6 [.sl 0] .mv, I_ 7 [.tk 6] .lenS, I_ 8 [.sl 1] .mv, I_ 9 [.tv 7, .tv 8] (.bin .neq)]) (.cond (.sl 9) (.seq (.reg false [I_ 4 [.cv (.bool false)] .mv])
  .ret) .skip)) (.seq (.seq (.reg false [I_ 5 [.cv (.int .i64 0)] .mv]) (.block 0 (.loop (some [true, true, false, false, false, true, false, false, false, false, false, false, false, false, false, false, false, false, false,
  false, false, false, false, false, false, false, false, false, false, false, false, false, false, false, false, false, false, false]) (.seq (.seq (.reg false [I_ 10 [.sl 5] .mv, I_ 11 [.sl 1] .mv, I_ 12 [.tv 10, .tv 11] (.bin
  .lss)]) (.cond (.sl 12) .skip (.exit 0))) (.seq (.block 1 (.seq (.reg true [I_ 15 [.sl 0] .mv, I_ 16 [.sl 5] .mv, I_ 17 [.tv 15, .tv 16] (.ia 1), I_ 18 [.tv 17] (.ld .one), I_ 19 [.tv 18, .cv (.int .i64 0)] (.bin .lss), I_ 20
  [.tk 19] .mv, ⟨some 21, [.sl 0], some (20, false), none, .mv⟩, ⟨some 22, [.sl 5], some (20, false), none, .mv⟩, ⟨some 23, [.tv 21, .tv 22], some (20, false), none, .ia 1⟩, ⟨some 24, [.tv 23], some (20, false), none, .ld .one⟩,
  ⟨some 25, [.sl 1], some (20, false), none, .mv⟩, ⟨some 26, [.tv 24, .tv 25], some (20, false), none, .bin .geq⟩, I_ 27 [.sl 20, .cv (.bool true), .tv 26] .pick, I_ 28 [.tk 27] .mv, ⟨some 29, [.sl 0], some (28, false), none,
  .mv⟩, ⟨some 30, [.sl 5], some (28, false), none, .mv⟩, ⟨some 31, [.tk 29, .tk 30], some (28, false), none, .slS 1 false true false⟩, ⟨some 32, [.sl 0], some (28, false), none, .mv⟩, ⟨some 33, [.sl 5], some (28, false), none,
  .mv⟩, ⟨some 34, [.tv 32, .tv 33], some (28, false), none, .ia 1⟩, ⟨some 35, [.tv 34], some (28, false), none, .ld .one⟩, ⟨some 36, [.cv (.func 112 [] []), .sl 31, .sl 35], some (28, false), none, .call 3⟩, I_ 37 [.sl 28, .cv
  (.bool true), .tv 36] .pick]) (.cond (.sl 37) (.seq (.reg false [I_ 4 [.cv (.bool false)] .mv]) .ret) .skip))) (.reg false [I_ 13 [.tk 5] .mv, I_ 14 [.tv 13, .cv (.int .i64 1)] (.bin .add), I_ 5 [.tk 14] .mv])))))) (.seq (.reg
  false [I_ 4 [.cv (.bool true)] .mv]) .ret)))
theorem lk94 : linkF Go.Proofs.Try.prog ann94 94 = some (rc94, 38, [.tmp 4]) := by kernel_rfl
noncomputable def rc95 : RC :=
  .seq (.reg false [I_ 4 [.cv (.lst [] 0 .full)] (.nil 1)]) (.seq (.reg false [I_ 5 [.cv (.lst [] 0 .full)] (.nil 1)]) (.seq (.reg false [I_ 6 [.cv (.int .i64 0)] .mv]) (.seq (.seq (.reg false [I_ 7 [.cv (.int .i64 0)] .mv])
  (.block 0 (.loop (some [true, true, false, false, false, true, true, true, false, false, false, false, false, false, false, false, false, false, false, false, false, false, false, false, false, false, false, false, false])
  (.seq (.seq (.reg false [I_ 8 [.sl 7] .mv, I_ 9 [.tv 8, .cv (.int .i64 1)] (.bin .add), I_ 10 [.sl 1] .mv, I_ 11 [.tk 10] .lenS, I_ 12 [.tv 9, .tv 11] (.bin .lss)]) (.cond (.sl 12) .skip (.exit 0))) (.seq (.block 1 (.seq (.reg
  false [I_ 15 [.tk 6] .mv, I_ 16 [.sl 0] .mv, I_ 17 [.sl 1] .mv, I_ 18 [.sl 7] .mv, I_ 19 [.tv 17, .tv 18] (.ia 1), I_ 20 [.tv 19] (.ld .one), I_ 21 [.tv 16, .tv 20] (.ia 1), I_ 22 [.tv 21] (.ld .one), I_ 23 [.tv 15, .tv 22]
  (.bin .add), I_ 6 [.tk 23] .mv]) (.reg false [I_ 24 [.tk 5] .mv, I_ 25 [.sl 6] .mv, I_ 26 [.tv 25] (.buildS 1 1 [.int .i64 0] [0]), I_ 27 [.tk 24, .tk 26] (.app 1 8), I_ 5 [.tk 27] .mv]))) (.reg false [I_ 13 [.tk 7] .mv, I_ 14
  [.tv 13, .cv (.int .i64 1)] (.bin .add), I_ 7 [.tk 14] .mv])))))) (.seq (.reg false [I_ 28 [.tk 5] .mv, I_ 4 [.tk 28] .mv]) .ret))))
theorem lk95 : linkF Go.Proofs.Try.prog ann95 95 = some (rc95, 29, [.tmp 4]) := by kernel_rfl
noncomputable def rc96 : RC :=
  .seq (.reg false [I_ 4 [.cv (.bool false)] .mv]) (.seq (.reg false [I_ 5 [.tk 0] .mv, I_ 6 [.tk 1] .mv, I_ 7 [.cv (.func 110 [] []), .sl 5, .sl 6] (.call 6), I_ 8 [.tv 7, .cv (.int .i64 0)] (.bin .geq), I_ 4 [.tk 8] .mv]) .ret)
theorem lk96 : linkF Go.Proofs.Try.prog ann96 96 = some (rc96, 9, [.tmp 4]) := by kernel_rfl
noncomputable def rc97 : RC :=
  .seq (.reg false [I_ 4 [.cv (.bool false)] .mv]) (.seq (.reg false [I_ 5 [.sl 0] .mv, I_ 6 [.tv 1] (.ld .one), I_ 7 [.tv 5, .tv 6] (.bin .lss), I_ 8 [.tk 7] .mv, ⟨some 9, [.tk 0], some (8, false), none, .mv⟩, ⟨some 10, [.tv 2],
  some (8, false), none, .ld .one⟩, ⟨some 11, [.tv 9, .tv 10], some (8, false), none, .bin .gtr⟩, I_ 12 [.tv 8, .cv (.bool true), .tv 11] .pick, I_ 4 [.tk 12] .mv]) .ret)
theorem lk97 : linkF Go.Proofs.Try.prog ann97 97 = some (rc97, 13, [.tmp 4]) := by kernel_rfl
noncomputable def rc98 : RC :=
  .seq (.reg false [I_ 4 [.cv (.int .i64 0)] .mv]) (.seq (.seq (.reg false [I_ 6 [.sl 0] .mv, I_ 7 [.tk 6] .lenS, I_ 8 [.cv (.int .i64 0)] .mv]) (.block 0 (.loop (some [true, true, false, false, false, false, false, true, true,
  false, false, false, false, false, false, false, false, false, false]) (.seq (.reg false [I_ 9 [.sl 8, .sl 7] (.bin .lss)]) (.seq (.cond (.sl 9) .skip (.exit 0)) (.seq (.block 1 (.seq (.reg false [I_ 10 [.sl 8] .mv, I_ 5 [.tk
  10] .mv]) (.seq (.reg false [I_ 11 [.sl 1] .mv, I_ 12 [.sl 0] .mv, I_ 13 [.sl 5] .mv, I_ 14 [.tv 12, .tv 13] (.ia 1), I_ 15 [.tv 14] (.ld .one), I_ 16 [.sl 11, .sl 15] (.call 6)]) (.cond (.sl 16) (.seq (.reg false [I_ 17 [.tk
  5] .mv, I_ 4 [.tk 17] .mv]) .ret) .skip)))) (.reg false [I_ 18 [.tv 8, .cv (.int .i64 1)] (.bin .add), I_ 8 [.tk 18] .mv]))))))) (.seq (.reg false [I_ 4 [.cv (.int .i64 (-1))] .mv]) .ret))
theorem lk98 : linkF Go.Proofs.Try.prog ann98 98 = some (rc98, 19, [.tmp 4]) := by kernel_rfl
noncomputable def rc99 : RC :=
  .seq (.reg false [I_ 4 [.cv (.int .i64 0)] .mv]) (.seq (.seq (.reg false [I_ 6 [.sl 0] .mv, I_ 7 [.tk 6] .lenS, I_ 8 [.cv (.int .i64 0)] .mv]) (.block 0 (.loop (some [true, true, false, false, false, false, false, true, true,
  false, false, false, false, false, false, false, false, false, false]) (.seq (.reg false [I_ 9 [.sl 8, .sl 7] (.bin .lss)]) (.seq (.cond (.sl 9) .skip (.exit 0)) (.seq (.block 1 (.seq (.reg false [I_ 10 [.sl 8] .mv, I_ 5 [.tk
  10] .mv]) (.seq (.reg false [I_ 11 [.sl 1] .mv, I_ 12 [.sl 0] .mv, I_ 13 [.sl 5] .mv, I_ 14 [.tv 12, .tv 13] (.ia 1), I_ 15 [.tv 14] (.ld .one), I_ 16 [.tv 11, .tv 15] (.bin .eql)]) (.cond (.sl 16) (.seq (.reg false [I_ 17 [.tk
  5] .mv, I_ 4 [.tk 17] .mv]) .ret) .skip)))) (.reg false [I_ 18 [.tv 8, .cv (.int .i64 1)] (.bin .add), I_ 8 [.tk 18] .mv]))))))) (.seq (.reg false [I_ 4 [.cv (.int .i64 (-1))] .mv]) .ret))
theorem lk99 : linkF Go.Proofs.Try.prog ann99 99 = some (rc99, 19, [.tmp 4]) := by kernel_rfl
noncomputable def rc100 : RC :=
  .seq (.reg false [I_ 2 [.tk 0] .box, I_ 3 [.tk 1] .box, I_ 4 [.cv (.bool false)] .mv]) (.seq (.reg false [I_ 5 [.tv 2] (.fa 2), I_ 6 [.tv 5] (.ld .one), I_ 7 [.tv 3] (.fa 2), I_ 8 [.tv 7] (.ld .one), I_ 9 [.tv 6, .tv 8] (.bin
  .lss), I_ 4 [.tk 9] .mv]) .ret)
theorem lk100 : linkF Go.Proofs.Try.prog ann100 100 = some (rc100, 10, [.tmp 4]) := by kernel_rfl
noncomputable def rc101 : RC :=
  .seq (.reg false [I_ 4 [] (.alloc [.lst [] 0 .full, .lst [] 0 .full, .int .i64 0, .int .i64 0])]) (.seq (.reg false [I_ 8 [.sl 0] .mv, I_ 9 [.tv 8, .cv (.int .i64 0)] (.ia 4), I_ 10 [.tv 9] (.ld (.str 4)), I_ 5 [] (.alloc [.lst
  [] 0 .full, .lst [] 0 .full, .int .i64 0, .int .i64 0]), ⟨none, [.sl 5, .tk 10], none, none, .st 4⟩]) (.seq (.seq (.reg false [I_ 11 [.tk 0] .mv, I_ 12 [.tk 11, .cv (.int .i64 1)] (.slS 4 true false false), I_ 13 [.sl 12]
  .lenS, I_ 14 [.cv (.int .i64 0)] .mv]) (.block 0 (.loop (some [false, true, false, false, true, true, false, false, false, false, false, false, true, true, true, false, false, false, false, false, false, false, false, false,
  false]) (.seq (.reg false [I_ 15 [.sl 14, .sl 13] (.bin .lss)]) (.seq (.cond (.sl 15) .skip (.exit 0)) (.seq (.block 1 (.seq (.reg false [I_ 16 [.sl 12, .sl 14] (.ia 4), I_ 17 [.tv 16] (.ld (.str 4)), I_ 7 [] (.alloc [.lst [] 0
  .full, .lst [] 0 .full, .int .i64 0, .int .i64 0]), ⟨none, [.sl 7, .tk 17], none, none, .st 4⟩]) (.seq (.reg false [I_ 18 [.sl 1] .mv, I_ 19 [.sl 7] (.ld (.str 4)), I_ 20 [.sl 5] (.ld (.str 4)), I_ 21 [.sl 18, .sl 19, .sl 20]
  (.call 6)]) (.cond (.sl 21) (.reg false [I_ 22 [.tv 7] (.ld (.str 4)), ⟨none, [.sl 5, .tk 22], none, none, .st 4⟩]) .skip)))) (.reg false [I_ 23 [.tv 14, .cv (.int .i64 1)] (.bin .add), I_ 14 [.tk 23] .mv]))))))) (.seq (.reg
  false [I_ 24 [.tv 5] (.ld (.str 4)), ⟨none, [.sl 4, .tk 24], none, none, .st 4⟩]) .ret)))
theorem lk101 : linkF Go.Proofs.Try.prog ann101 101 = some (rc101, 25, [.cell 4 (.str 4)]) := by kernel_rfl
noncomputable def rc102 : RC :=
  .seq (.reg false [I_ 2 [.cv (.lst [] 0 .full)] (.nil 1)]) (.seq (.reg false [I_ 3 [.cv (.int .i64 0)] .mv]) (.seq (.seq (.reg false [I_ 9 [.sl 0] .mv, I_ 10 [.sl 9] .lenS, I_ 11 [.cv (.int .i64 0)] .mv]) (.block 0 (.loop (some
  [true, false, false, true, false, false, false, false, false, true, true, true, false, false, false, false, false, false, false, false, false, false, false, false, false, false, false, false, false, false, false, false, false,
  false, false, false]) (.seq (.reg false [I_ 12 [.sl 11, .sl 10] (.bin .lss)]) (.seq (.cond (.sl 12) .skip (.exit 0)) (.seq (.block 1 (.seq (.reg false [I_ 13 [.sl 9, .sl 11] (.ia 1), I_ 14 [.tv 13] (.ld .one), I_ 5 [.tk 14]
  .mv]) (.seq (.reg false [I_ 15 [.tk 3] .mv, I_ 16 [.tk 5] .mv, I_ 17 [.tk 16] .lenS, I_ 18 [.tv 15, .tv 17] (.bin .add), I_ 3 [.tk 18] .mv]) (.seq (.reg false [I_ 19 [.sl 3] .mv, I_ 20 [.tv 19, .cv (.int .i64 0)] (.bin .lss)])
  (.cond (.sl 20) (.reg false [I_ 21 [.cv (.str (ByteArray.mk (Array.mk [108, 101, 110, 32, 111, 117, 116, 32, 111, 102, 32, 114, 97, 110, 103, 101])))] (.other (Oper.mk (some 21) (Op.makeInterface 9 (Operand.const (Value.string
  (ByteArray.mk (Array.mk [108, 101, 110, 32, 111, 117, 116, 32, 111, 102, 32, 114, 97, 110, 103, 101]))))) 20 "slices.go:496" (Array.mk []) none) 0), ⟨none, [.tv 21], none, none, .other (Oper.mk none (Op.panic (Operand.tmp 21))
  0 "slices.go:496" (Array.mk [Edge.mk 0 Ground.data]) none) 0⟩]) .skip))))) (.reg false [I_ 22 [.tv 11, .cv (.int .i64 1)] (.bin .add), I_ 11 [.tk 22] .mv]))))))) (.seq (.reg false [I_ 23 [.tk 3] .mv, I_ 24 [.cv (.func 113 []
  []), .cv (.lst [] 0 .full), .sl 23] (.call 0), I_ 6 [.tk 24] .mv]) (.seq (.seq (.reg false [I_ 25 [.tk 0] .mv, I_ 26 [.sl 25] .lenS, I_ 27 [.cv (.int .i64 0)] .mv]) (.block 2 (.loop (some [false, false, false, false, false,
  false, true, false, false, false, false, false, false, false, false, false, false, false, false, false, false, false, false, false, false, true, true, true, false, false, false, false, false, false, false, false]) (.seq (.reg
  false [I_ 28 [.sl 27, .sl 26] (.bin .lss)]) (.seq (.cond (.sl 28) .skip (.exit 2)) (.seq (.block 3 (.seq (.reg false [I_ 29 [.sl 25, .sl 27] (.ia 1), I_ 30 [.tv 29] (.ld .one), I_ 8 [.tk 30] .mv]) (.reg false [I_ 31 [.tk 6]
  .mv, I_ 32 [.tk 8] .mv, I_ 33 [.tk 31, .tk 32] (.app 1 24), I_ 6 [.tk 33] .mv]))) (.reg false [I_ 34 [.tv 27, .cv (.int .i64 1)] (.bin .add), I_ 27 [.tk 34] .mv]))))))) (.seq (.reg false [I_ 35 [.tk 6] .mv, I_ 2 [.tk 35] .mv])
  .ret)))))
theorem lk102 : linkF Go.Proofs.Try.prog ann102 102 = some (rc102, 36, [.tmp 2]) := by kernel_rfl
noncomputable def rc103 : RC :=
  .seq (.reg false [I_ 4 [.cv (.lst [] 0 .full)] (.nil 1)]) (.seq (.seq (.reg false [I_ 7 [.sl 1] .mv, I_ 8 [.tk 7] .lenS, I_ 9 [.sl 0] .mv, I_ 10 [.tv 8, .tv 9] (.bin .eql)]) (.cond (.sl 10) (.seq (.reg false [I_ 11 [.tk 1] .mv,
  I_ 12 [.tv 11] (.buildS 1 1 [.lst [] 0 .full] [0]), I_ 4 [.tk 12] .mv]) .ret) .skip)) (.seq (.reg false [I_ 5 [.cv (.lst [] 0 .full)] (.nil 1)]) (.seq (.seq (.reg false [I_ 6 [.cv (.int .i64 0)] .mv]) (.block 0 (.loop (some
  [true, true, false, false, false, true, true, false, false, false, false, false, false, false, false, false, false, false, false, false, false, false, false, false, false, false, false, false, false, false, false, false,
  false]) (.seq (.seq (.reg false [I_ 13 [.sl 6] .mv, I_ 14 [.sl 0] .mv, I_ 15 [.tv 13, .tv 14] (.bin .lss)]) (.cond (.sl 15) .skip (.exit 0))) (.seq (.block 1 (.seq (.reg false [I_ 18 [.sl 1] .mv, I_ 19 [.sl 6] .mv, I_ 20 [.cv
  (.func 112 [] []), .sl 18, .sl 19] (.call 3), I_ 21 [.tv 20] (.un .not)]) (.cond (.sl 21) (.reg false [I_ 22 [.tk 5] .mv, I_ 23 [.sl 0] .mv, I_ 24 [] (.buildS 0 1 [.int .i64 0] []), I_ 25 [.sl 1] .mv, I_ 26 [.tk 24, .tk 25]
  (.app 1 8), I_ 27 [.sl 6] .mv, I_ 28 [.tv 27] (.buildS 1 1 [.int .i64 0] [0]), I_ 29 [.tk 26, .tk 28] (.app 1 8), I_ 30 [.cv (.func 103 [] []), .sl 23, .sl 29] (.call 3), I_ 31 [.tk 22, .tk 30] (.app 1 24), I_ 5 [.tk 31] .mv])
  .skip))) (.reg false [I_ 16 [.tk 6] .mv, I_ 17 [.tv 16, .cv (.int .i64 1)] (.bin .add), I_ 6 [.tk 17] .mv])))))) (.seq (.reg false [I_ 32 [.tk 5] .mv, I_ 4 [.tk 32] .mv]) .ret))))
theorem lk103 : linkF Go.Proofs.Try.prog ann103 103 = some (rc103, 33, [.tmp 4]) := by kernel_rfl
noncomputable def rc104 : RC :=
  .seq (.reg false [I_ 3 [.sl 0] .mv, I_ 4 [.tk 3] .lenS, I_ 2 [.tk 4] .mv]) (.reg false [I_ 5 [.tk 0] .mv, I_ 6 [.sl 2] .mv, I_ 7 [.tk 2] .mv, I_ 8 [.tv 7] (.conv .u64), I_ 9 [.cv (.func 115 [] []), .sl 8] (.call 3), I_ 10 [.cv
  (.func 114 [] []), .tk 5, .cv (.int .i64 0), .tk 6, .tk 9] (.call 1)])
theorem lk104 : linkF Go.Proofs.Try.prog ann104 104 = some (rc104, 11, []) := by kernel_rfl
noncomputable def rc105 : RC :=
  .seq (.reg false [I_ 2 [.cv (.lst [] 0 .full)] (.nil 1)]) (.seq (.seq (.reg false [I_ 6 [.sl 0] .mv, I_ 7 [.tk 6] .lenS, I_ 8 [.tv 7, .cv (.int .i64 2)] (.bin .lss)]) (.cond (.sl 8) (.seq (.reg false [I_ 9 [.tk 0] .mv, I_ 2 [.tk
  9] .mv]) .ret) .skip)) (.seq (.seq (.reg false [I_ 3 [.cv (.int .i64 1)] .mv]) (.block 0 (.loop (some [true, false, false, true, false, false, false, false, false, false, false, false, false, false, false, false, false, false,
  false, false, false, false, false, false, false, false, false, false, false, false, false, false, false, false, false, false, false, false, false, false, false, false, false, false, false, false, false, false, false, false,
  false, false, false, false, false, false, false, false, false, false, false]) (.seq (.seq (.reg false [I_ 10 [.sl 3] .mv, I_ 11 [.sl 0] .mv, I_ 12 [.tk 11] .lenS, I_ 13 [.tv 10, .tv 12] (.bin .lss)]) (.cond (.sl 13) .skip
  (.exit 0))) (.seq (.block 1 (.seq (.reg true [I_ 16 [.sl 0] .mv, I_ 17 [.sl 3] .mv, I_ 18 [.tv 16, .tv 17] (.ia 1), I_ 19 [.tv 18] (.ld .one), I_ 20 [.sl 0] .mv, I_ 21 [.sl 3] .mv, I_ 22 [.tv 21, .cv (.int .i64 1)] (.bin .sub),
  I_ 23 [.tv 20, .tv 22] (.ia 1), I_ 24 [.tv 23] (.ld .one), I_ 25 [.tv 19, .tv 24] (.bin .eql)]) (.cond (.sl 25) (.seq (.reg false [I_ 26 [.sl 0] .mv, I_ 27 [.sl 3] .mv, I_ 28 [.tk 26, .tk 27] (.slS 1 true false false), I_ 4
  [.tk 28] .mv]) (.seq (.seq (.reg false [I_ 5 [.cv (.int .i64 1)] .mv]) (.block 2 (.loop (some [true, false, false, true, true, true, false, false, false, false, false, false, false, false, false, false, false, false, false,
  false, false, false, false, false, false, false, false, false, false, false, false, false, false, false, false, false, false, false, false, false, false, false, false, false, false, false, false, false, false, false, false,
  false, false, false, false, false, false, false, false, false, false]) (.seq (.seq (.reg false [I_ 29 [.sl 5] .mv, I_ 30 [.sl 4] .mv, I_ 31 [.tk 30] .lenS, I_ 32 [.tv 29, .tv 31] (.bin .lss)]) (.cond (.sl 32) .skip (.exit 2)))
  (.seq (.block 3 (.seq (.reg true [I_ 35 [.sl 4] .mv, I_ 36 [.sl 5] .mv, I_ 37 [.tv 35, .tv 36] (.ia 1), I_ 38 [.tv 37] (.ld .one), I_ 39 [.sl 4] .mv, I_ 40 [.sl 5] .mv, I_ 41 [.tv 40, .cv (.int .i64 1)] (.bin .sub), I_ 42 [.tv
  39, .tv 41] (.ia 1), I_ 43 [.tv 42] (.ld .one), I_ 44 [.tv 38, .tv 43] (.bin .neq)]) (.cond (.sl 44) (.seq (.reg false [I_ 45 [.sl 0] .mv, I_ 46 [.sl 3] .mv, I_ 47 [.sl 4] .mv, I_ 48 [.sl 5] .mv, I_ 49 [.tv 47, .tv 48] (.ia 1),
  I_ 50 [.tv 49] (.ld .one), I_ 51 [.tv 45, .tv 46] (.ia 1), ⟨none, [.tk 51, .tk 50], none, none, .st 1⟩]) (.reg false [I_ 52 [.tk 3] .mv, I_ 53 [.tv 52, .cv (.int .i64 1)] (.bin .add), I_ 3 [.tk 53] .mv])) .skip))) (.reg false
  [I_ 33 [.tk 5] .mv, I_ 34 [.tv 33, .cv (.int .i64 1)] (.bin .add), I_ 5 [.tk 34] .mv])))))) (.seq (.reg false [I_ 54 [.sl 0] .mv, I_ 55 [.sl 3] .mv, I_ 56 [.tk 54, .tk 55] (.slS 1 true false false), ⟨none, [.tk 56], none, none,
  .other (Oper.mk none (Op.call (Call.mk (Callee.builtin Builtin.clear) (Array.mk [Operand.tmp 56]) (Array.mk [37]))) 0 "slices.go:385" (Array.mk [Edge.mk 2 Ground.data]) none) 0⟩]) (.seq (.reg false [I_ 57 [.tk 0] .mv, I_ 58
  [.tk 3] .mv, I_ 59 [.tk 57, .tk 58] (.slS 1 false true false), I_ 2 [.tk 59] .mv]) .ret)))) .skip))) (.reg false [I_ 14 [.tk 3] .mv, I_ 15 [.tv 14, .cv (.int .i64 1)] (.bin .add), I_ 3 [.tk 15] .mv])))))) (.seq (.reg false [I_
  60 [.tk 0] .mv, I_ 2 [.tk 60] .mv]) .ret)))
theorem lk105 : linkF Go.Proofs.Try.prog ann105 105 = some (rc105, 61, [.tmp 2]) := by kernel_rfl
noncomputable def rc106 : RC :=
  .seq (.reg false [I_ 4 [.cv (.lst [] 0 .full)] (.nil 1)]) (.seq (.reg false [I_ 10 [.sl 0] .mv, I_ 11 [.cv (.func 81 [] []), .sl 10] (.call 3), I_ 5 [.tk 11] .mv]) (.seq (.reg false [I_ 6 [.cv (.lst [] 0 .full)] (.nil 1)]) (.seq
  (.seq (.reg false [I_ 7 [.cv (.int .i64 1)] .mv]) (.block 0 (.loop (some [true, true, false, false, false, true, true, true, false, false, false, false, false, false, false, false, false, false, false, false, false, false,
  false, false, false, false, false, false, false, false, false, false, false, false, false, false, false, false, false, false]) (.seq (.seq (.reg false [I_ 12 [.sl 7] .mv, I_ 13 [.sl 0] .mv, I_ 14 [.cv (.func 53 [] []), .sl 13]
  (.call 3), I_ 15 [.tv 12, .tv 14] (.bin .lss)]) (.cond (.sl 15) .skip (.exit 0))) (.seq (.block 1 (.seq (.reg false [I_ 8 [.cv (.int .i64 0)] .mv]) (.seq (.seq (.reg false [I_ 9 [.cv (.int .i64 0)] .mv]) (.block 2 (.loop (some
  [true, true, false, false, false, true, true, true, true, true, false, false, false, false, false, false, false, false, false, false, false, false, false, false, false, false, false, false, false, false, false, false, false,
  false, false, false, false, false, false, false]) (.seq (.seq (.reg false [I_ 18 [.sl 9] .mv, I_ 19 [.sl 5] .mv, I_ 20 [.tk 19] .lenS, I_ 21 [.tv 18, .tv 20] (.bin .lss)]) (.cond (.sl 21) .skip (.exit 2))) (.seq (.block 3 (.seq
  (.reg false [I_ 24 [.sl 5] .mv, I_ 25 [.sl 9] .mv, I_ 26 [.tv 24, .tv 25] (.ia 1), I_ 27 [.tv 26] (.ld .one), I_ 28 [.sl 7] .mv, I_ 29 [.cv (.func 52 [] []), .sl 27, .sl 28] (.call 3)]) (.cond (.sl 29) (.reg false [I_ 30 [.tk
  8] .mv, I_ 31 [.tv 30, .cv (.int .i64 1)] (.bin .add), I_ 8 [.tk 31] .mv]) .skip))) (.reg false [I_ 22 [.tk 9] .mv, I_ 23 [.tv 22, .cv (.int .i64 1)] (.bin .add), I_ 9 [.tk 23] .mv])))))) (.seq (.reg false [I_ 32 [.tk 8] .mv,
  I_ 33 [.sl 1] .mv, I_ 34 [.tv 32, .tv 33] (.bin .geq)]) (.cond (.sl 34) (.reg false [I_ 35 [.tk 6] .mv, I_ 36 [.sl 7] .mv, I_ 37 [.tv 36] (.buildS 1 1 [.int .i64 0] [0]), I_ 38 [.tk 35, .tk 37] (.app 1 8), I_ 6 [.tk 38] .mv])
  .skip))))) (.reg false [I_ 16 [.tk 7] .mv, I_ 17 [.tv 16, .cv (.int .i64 1)] (.bin .add), I_ 7 [.tk 17] .mv])))))) (.seq (.reg false [I_ 39 [.tk 6] .mv, I_ 4 [.tk 39] .mv]) .ret))))
theorem lk106 : linkF Go.Proofs.Try.prog ann106 106 = some (rc106, 40, [.tmp 4]) := by kernel_rfl
noncomputable def rc107 : RC :=
  .seq (.reg false [I_ 4 [.cv (.lst [] 0 .full)] (.nil 1)]) (.seq (.seq (.reg true [I_ 8 [.tv 1] (.ld .one), I_ 9 [.tv 8] .nilc, I_ 10 [.tv 9] (.fa 0), I_ 11 [.tv 10] (.fa 0), I_ 12 [.tv 11] (.ld .one), I_ 13 [.tv 2] (.ld .one), I_
  14 [.tv 12, .tv 13] (.ia 1), I_ 15 [.tv 14] (.ld .one), I_ 16 [.tk 15] .lenS, I_ 17 [.cv (.int .i64 0)] .mv]) (.block 0 (.loop (some [true, false, false, false, true, false, false, false, false, false, false, false, false,
  false, false, false, true, true, false, false, false, false, false, false, false, false, false, false, false, false, false, false, false, false, false, false, false, false, false, false, false, false, false, false, false,
  false, false, false, false, false, false, false, false, false, false, false, false, false, false, false, false, false, false, false, false, false, false, false, false, false, false, false, false, false, false, false, false,
  false, false, false, false, false, false, false, false, false, false, false, false]) (.seq (.reg false [I_ 18 [.sl 17, .sl 16] (.bin .lss)]) (.seq (.cond (.sl 18) .skip (.exit 0)) (.seq (.block 1 (.seq (.reg false [I_ 19 [.sl
  17] .mv, I_ 5 [.tk 19] .mv]) (.reg false [I_ 20 [.sl 4] .mv, I_ 21 [.sl 4] .mv, I_ 22 [.tk 21] .lenS, I_ 23 [.tk 4] .mv, I_ 24 [.tk 23] .lenS, I_ 25 [.tk 20, .tk 22, .tk 24] (.slS 1 false true true), I_ 26 [.tk 5] .mv, I_ 27
  [.tv 26] (.buildS 1 1 [.int .i64 0] [0]), I_ 28 [.tk 25, .tk 27] (.app 1 8), ⟨some 4, [.tk 28], none, some 28, .thaw⟩]))) (.reg false [I_ 29 [.tv 17, .cv (.int .i64 1)] (.bin .add), I_ 17 [.tk 29] .mv]))))))) (.block 2 (.loop
  (some [true, false, false, false, true, false, false, false, false, false, false, false, false, false, false, false, false, false, false, false, false, false, false, false, false, false, false, false, false, false, false,
  false, false, false, false, false, false, false, false, false, false, false, false, false, false, false, false, false, false, false, false, false, false, false, false, false, false, false, false, false, false, false, false,
  false, false, false, false, false, false, false, false, false, false, false, false, false, false, false, false, false, false, false, false, false, false, false, false, false, false]) (.block 3 (.seq (.seq (.reg false [I_ 30
  [.sl 0] .mv, I_ 31 [.sl 4] .mv, I_ 32 [.cv (.func 108 [] []), .sl 31] (.call 6), I_ 33 [.tk 30, .tk 32] (.call 1), I_ 34 [.tv 33] (.un .not)]) (.cond (.sl 34) .ret .skip)) (.seq (.reg false [I_ 35 [.sl 4] .mv, I_ 36 [.tk 35]
  .lenS, I_ 37 [.tv 36, .cv (.int .i64 2)] (.bin .sub), I_ 6 [.tk 37] .mv]) (.seq (.block 4 (.loop (some [true, false, false, false, true, false, true, false, false, false, false, false, false, false, false, false, false, false,
  false, false, false, false, false, false, false, false, false, false, false, false, false, false, false, false, false, false, false, false, false, false, false, false, false, false, false, false, false, false, false, false,
  false, false, false, false, false, false, false, false, false, false, false, false, false, false, false, false, false, false, false, false, false, false, false, false, false, false, false, false, false, false, false, false,
  false, false, false, false, false, false, false]) (.seq (.seq (.reg true [I_ 38 [.sl 6] .mv, I_ 39 [.tv 38, .cv (.int .i64 0)] (.bin .geq), I_ 40 [.tk 39] .mv, ⟨some 41, [.sl 4], some (40, true), none, .mv⟩, ⟨some 42, [.sl 6],
  some (40, true), none, .mv⟩, ⟨some 43, [.tv 41, .tv 42], some (40, true), none, .ia 1⟩, ⟨some 44, [.tv 43], some (40, true), none, .ld .one⟩, ⟨some 45, [.sl 4], some (40, true), none, .mv⟩, ⟨some 46, [.sl 6], some (40, true),
  none, .mv⟩, ⟨some 47, [.tv 46, .cv (.int .i64 1)], some (40, true), none, .bin .add⟩, ⟨some 48, [.tv 45, .tv 47], some (40, true), none, .ia 1⟩, ⟨some 49, [.tv 48], some (40, true), none, .ld .one⟩, ⟨some 50, [.tv 44, .tv 49],
  some (40, true), none, .bin .gtr⟩, I_ 51 [.sl 40, .tv 50, .cv (.bool false)] .pick]) (.cond (.sl 51) .skip (.exit 4))) (.block 5 (.reg false [I_ 52 [.tk 6] .mv, I_ 53 [.tv 52, .cv (.int .i64 1)] (.bin .sub), I_ 6 [.tk 53]
  .mv]))))) (.seq (.seq (.reg false [I_ 54 [.sl 6] .mv, I_ 55 [.tv 54, .cv (.int .i64 0)] (.bin .lss)]) (.cond (.sl 55) .ret .skip)) (.seq (.reg false [I_ 56 [.sl 4] .mv, I_ 57 [.tk 56] .lenS, I_ 58 [.tv 57, .cv (.int .i64 1)]
  (.bin .sub), I_ 7 [.tk 58] .mv]) (.seq (.block 6 (.loop (some [true, false, false, false, true, false, true, true, false, false, false, false, false, false, false, false, false, false, false, false, false, false, false, false,
  false, false, false, false, false, false, false, false, false, false, false, false, false, false, false, false, false, false, false, false, false, false, false, false, false, false, false, false, false, false, false, false,
  false, false, false, false, false, false, false, false, false, false, false, false, false, false, false, false, false, false, false, false, false, false, false, false, false, false, false, false, false, false, false, false,
  false]) (.seq (.seq (.reg true [I_ 59 [.sl 4] .mv, I_ 60 [.sl 7] .mv, I_ 61 [.tv 59, .tv 60] (.ia 1), I_ 62 [.tv 61] (.ld .one), I_ 63 [.sl 4] .mv, I_ 64 [.sl 6] .mv, I_ 65 [.tv 63, .tv 64] (.ia 1), I_ 66 [.tv 65] (.ld .one),
  I_ 67 [.tv 62, .tv 66] (.bin .lss)]) (.cond (.sl 67) .skip (.exit 6))) (.block 7 (.reg false [I_ 68 [.tk 7] .mv, I_ 69 [.tv 68, .cv (.int .i64 1)] (.bin .sub), I_ 7 [.tk 69] .mv]))))) (.seq (.reg true [I_ 70 [.sl 4] .mv, I_ 71
  [.sl 6] .mv, I_ 72 [.sl 4] .mv, I_ 73 [.sl 7] .mv, I_ 74 [.sl 4] .mv, I_ 75 [.sl 7] .mv, I_ 76 [.tv 74, .tv 75] (.ia 1), I_ 77 [.tv 76] (.ld .one), I_ 78 [.sl 4] .mv, I_ 79 [.sl 6] .mv, I_ 80 [.tv 78, .tv 79] (.ia 1), I_ 81
  [.tv 80] (.ld .one), I_ 82 [.tv 70, .tv 71] (.ia 1), ⟨none, [.tk 82, .tk 77], none, none, .st 1⟩, I_ 83 [.tv 72, .tv 73] (.ia 1), ⟨none, [.tk 83, .tk 81], none, none, .st 1⟩]) (.reg false [I_ 84 [.sl 4] .mv, I_ 85 [.tk 6] .mv,
  I_ 86 [.tv 85, .cv (.int .i64 1)] (.bin .add), I_ 87 [.tk 84, .tk 86] (.slS 1 true false false), I_ 88 [.cv (.func 109 [] []), .tk 87] (.call 1)]))))))))))))
theorem lk107 : linkF Go.Proofs.Try.prog ann107 107 = some (rc107, 89, []) := by kernel_rfl
noncomputable def rc108 : RC :=
  .seq (.reg false [I_ 2 [.cv (.lst [] 0 .full)] (.nil 1)]) (.seq (.seq (.reg false [I_ 3 [.sl 0] .mv, I_ 4 [.tv 3, .cv (.lst [] 0 .full)] (.other (Oper.mk (some 4) (Op.binOp .eql 63 (Operand.tmp 3) (Operand.const (Value.slice none
  0 0)) 63) 4 "slices.go:357" (Array.mk [Edge.mk 0 Ground.data]) none) 0)]) (.cond (.sl 4) (.seq (.reg false [I_ 2 [.cv (.lst [] 0 .full)] (.nil 1)]) .ret) .skip)) (.seq (.reg false [I_ 5 [] (.buildS 0 1 [.int .i64 0] []), I_ 6
  [.tk 0] .mv, I_ 7 [.tk 5, .tk 6] (.app 1 8), I_ 2 [.tk 7] .mv]) .ret))
theorem lk108 : linkF Go.Proofs.Try.prog ann108 108 = some (rc108, 8, [.tmp 2]) := by kernel_rfl
noncomputable def rc109 : RC :=
  .seq (.reg false [I_ 4 [.sl 0] .mv, I_ 5 [.tk 4] .lenS, I_ 6 [.tv 5, .cv (.int .i64 1)] (.bin .sub), I_ 2 [.cv (.int .i64 0)] .mv, I_ 3 [.tk 6] .mv]) (.block 0 (.loop (some [true, false, true, true, false, false, false, false,
  false, false, false, false, false, false, false, false, false, false, false, false, false, false, false, false, false, false, false, false]) (.seq (.seq (.reg false [I_ 7 [.sl 2] .mv, I_ 8 [.sl 3] .mv, I_ 9 [.tv 7, .tv 8] (.bin
  .lss)]) (.cond (.sl 9) .skip (.exit 0))) (.seq (.block 1 (.reg true [I_ 14 [.sl 0] .mv, I_ 15 [.sl 2] .mv, I_ 16 [.sl 0] .mv, I_ 17 [.sl 3] .mv, I_ 18 [.sl 0] .mv, I_ 19 [.sl 3] .mv, I_ 20 [.tv 18, .tv 19] (.ia 1), I_ 21 [.tv
  20] (.ld .one), I_ 22 [.sl 0] .mv, I_ 23 [.sl 2] .mv, I_ 24 [.tv 22, .tv 23] (.ia 1), I_ 25 [.tv 24] (.ld .one), I_ 26 [.tv 14, .tv 15] (.ia 1), ⟨none, [.tk 26, .tk 21], none, none, .st 1⟩, I_ 27 [.tv 16, .tv 17] (.ia 1),
  ⟨none, [.tk 27, .tk 25], none, none, .st 1⟩])) (.reg false [I_ 10 [.tk 2] .mv, I_ 11 [.tv 10, .cv (.int .i64 1)] (.bin .add), I_ 12 [.tk 3] .mv, I_ 13 [.tv 12, .cv (.int .i64 1)] (.bin .sub), I_ 2 [.tk 11] .mv, I_ 3 [.tk 13]
  .mv])))))
theorem lk109 : linkF Go.Proofs.Try.prog ann109 109 = some (rc109, 28, []) := by kernel_rfl
noncomputable def rc110 : RC :=
  .seq (.reg false [I_ 4 [.cv (.int .i64 0)] .mv]) (.seq (.seq (.reg false [I_ 6 [.sl 0] .mv, I_ 7 [.tk 6] .lenS, I_ 8 [.cv (.int .i64 0)] .mv]) (.block 0 (.loop (some [true, true, false, false, false, false, false, true, true,
  false, false, false, false, false, false, false, false, false, false]) (.seq (.reg false [I_ 9 [.sl 8, .sl 7] (.bin .lss)]) (.seq (.cond (.sl 9) .skip (.exit 0)) (.seq (.block 1 (.seq (.reg false [I_ 10 [.sl 8] .mv, I_ 5 [.tk
  10] .mv]) (.seq (.reg false [I_ 11 [.sl 1] .mv, I_ 12 [.sl 0] .mv, I_ 13 [.sl 5] .mv, I_ 14 [.tv 12, .tv 13] (.ia 1), I_ 15 [.tv 14] (.ld .one), I_ 16 [.sl 11, .sl 15] (.call 6)]) (.cond (.sl 16) (.seq (.reg false [I_ 17 [.tk
  5] .mv, I_ 4 [.tk 17] .mv]) .ret) .skip)))) (.reg false [I_ 18 [.tv 8, .cv (.int .i64 1)] (.bin .add), I_ 8 [.tk 18] .mv]))))))) (.seq (.reg false [I_ 4 [.cv (.int .i64 (-1))] .mv]) .ret))
theorem lk110 : linkF Go.Proofs.Try.prog ann110 110 = some (rc110, 19, [.tmp 4]) := by kernel_rfl
noncomputable def rc111 : RC :=
  .seq (.reg false [I_ 2 [.tk 0] .box, I_ 3 [.tk 1] .box, I_ 4 [.cv (.bool false)] .mv]) (.seq (.reg false [I_ 5 [.tv 2] (.fa 3), I_ 6 [.tv 5] (.ld .one), I_ 7 [.tv 3] (.fa 3), I_ 8 [.tv 7] (.ld .one), I_ 9 [.tv 6, .tv 8] (.bin
  .gtr), I_ 4 [.tk 9] .mv]) .ret)
theorem lk111 : linkF Go.Proofs.Try.prog ann111 111 = some (rc111, 10, [.tmp 4]) := by kernel_rfl
noncomputable def rc112 : RC :=
  .seq (.reg false [I_ 4 [.cv (.bool false)] .mv]) (.seq (.seq (.reg false [I_ 5 [.cv (.int .i64 0)] .mv]) (.block 0 (.loop (some [true, true, false, false, false, true, false, false, false, false, false, false, false, false,
  false, false, false, false]) (.seq (.seq (.reg false [I_ 6 [.sl 5] .mv, I_ 7 [.sl 0] .mv, I_ 8 [.tk 7] .lenS, I_ 9 [.tv 6, .tv 8] (.bin .lss)]) (.cond (.sl 9) .skip (.exit 0))) (.seq (.block 1 (.seq (.reg false [I_ 12 [.sl 0]
  .mv, I_ 13 [.sl 5] .mv, I_ 14 [.tv 12, .tv 13] (.ia 1), I_ 15 [.tv 14] (.ld .one), I_ 16 [.sl 1] .mv, I_ 17 [.tv 15, .tv 16] (.bin .eql)]) (.cond (.sl 17) (.seq (.reg false [I_ 4 [.cv (.bool true)] .mv]) .ret) .skip))) (.reg
  false [I_ 10 [.tk 5] .mv, I_ 11 [.tv 10, .cv (.int .i64 1)] (.bin .add), I_ 5 [.tk 11] .mv])))))) (.seq (.reg false [I_ 4 [.cv (.bool false)] .mv]) .ret))
theorem lk112 : linkF Go.Proofs.Try.prog ann112 112 = some (rc112, 18, [.tmp 4]) := by kernel_rfl
noncomputable def rc113 : RC :=
  .seq (.reg false [I_ 4 [.cv (.lst [] 0 .full)] (.nil 1)]) (.seq (.seq (.reg false [I_ 5 [.sl 1] .mv, I_ 6 [.tv 5, .cv (.int .i64 0)] (.bin .lss)]) (.cond (.sl 6) (.reg false [I_ 7 [.cv (.str (ByteArray.mk (Array.mk [99, 97, 110,
  110, 111, 116, 32, 98, 101, 32, 110, 101, 103, 97, 116, 105, 118, 101])))] (.other (Oper.mk (some 7) (Op.makeInterface 9 (Operand.const (Value.string (ByteArray.mk (Array.mk [99, 97, 110, 110, 111, 116, 32, 98, 101, 32, 110,
  101, 103, 97, 116, 105, 118, 101]))))) 20 "slices.go:424" (Array.mk []) none) 0), ⟨none, [.tv 7], none, none, .other (Oper.mk none (Op.panic (Operand.tmp 7)) 0 "slices.go:424" (Array.mk [Edge.mk 0 Ground.data]) none) 0⟩])
  .skip)) (.seq (.seq (.reg false [I_ 8 [.tk 1] .mv, I_ 9 [.sl 0] .mv, I_ 10 [.tk 9] (.other (Oper.mk (some 10) (Op.call (Call.mk (Callee.builtin Builtin.cap) (Array.mk [Operand.tmp 9]) (Array.mk [25]))) 3 "slices.go:426"
  (Array.mk [Edge.mk 1 Ground.data]) none) 0), I_ 11 [.sl 0] .mv, I_ 12 [.tk 11] .lenS, I_ 13 [.tv 10, .tv 12] (.bin .sub), I_ 14 [.tv 8, .tv 13] (.bin .sub), I_ 1 [.tk 14] .mv]) (.seq (.reg false [I_ 15 [.sl 1] .mv, I_ 16 [.tv
  15, .cv (.int .i64 0)] (.bin .gtr)]) (.cond (.sl 16) (.reg false [I_ 17 [.sl 0] .mv, I_ 18 [.sl 0] .mv, I_ 19 [.tk 18] (.other (Oper.mk (some 19) (Op.call (Call.mk (Callee.builtin Builtin.cap) (Array.mk [Operand.tmp 18])
  (Array.mk [25]))) 3 "slices.go:428" (Array.mk [Edge.mk 1 Ground.data]) none) 0), I_ 20 [.tk 17, .tk 19] (.slS 1 false true false), I_ 21 [.tk 1] .mv, I_ 22 [.tk 20, .tk 21] (.other (Oper.mk (some 22) (Op.call (Call.mk
  (Callee.builtin Builtin.append) (Array.mk [Operand.tmp 20, Operand.tmp 21]) (Array.mk [25, 3]))) 25 "slices.go:428" (Array.mk [Edge.mk 3 Ground.data, Edge.mk 4 Ground.data]) none) 0), I_ 23 [.tk 0] .mv, I_ 24 [.tk 23] .lenS, I_
  25 [.tk 22, .tk 24] (.slS 1 false true false), I_ 0 [.tk 25] .mv]) .skip))) (.seq (.reg false [I_ 26 [.tk 0] .mv, I_ 4 [.tk 26] .mv]) .ret)))
theorem lk113 : linkF Go.Proofs.Try.prog ann113 113 = some (rc113, 27, [.tmp 4]) := by kernel_rfl
end Go.Proofs.Ytlcebaejlnpdeaa.Ab
