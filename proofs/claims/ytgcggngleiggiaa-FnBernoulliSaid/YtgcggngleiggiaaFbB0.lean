/-
Values that BernoulliModulo tells, and the lists of the reference. Conditions: none (closed terms).
-/
import Derived.Test.YtgcggngleiggiaaPr17
namespace Go.Proofs.Ytgcggngleiggiaa.Pure
open Go.RowKit Go.Proofs.Ytgcggngleiggiaa.Pr Go.Proofs.YtgcggngleiggiaaW.PrintWords Go.Proofs.YtgcggngleiggiaaW.PrintLast
set_option maxRecDepth 100000
theorem list5 : spec_l10Bernoulli.f 5000 5 = some [1, 2, 1] := by kernel_rfl
theorem impl5_2 : impl_BernoulliModulo.f 5000 5 2 = some (1, 0) := by kernel_rfl
theorem list7 : spec_l10Bernoulli.f 5000 7 = some [1, 3, 6, 0, 3] := by kernel_rfl
theorem impl7_2 : impl_BernoulliModulo.f 5000 7 2 = some (6, 0) := by kernel_rfl
theorem impl7_4 : impl_BernoulliModulo.f 5000 7 4 = some (3, 0) := by kernel_rfl
theorem list11 : spec_l10Bernoulli.f 5000 11 = some [1, 5, 2, 0, 4, 0, 5, 0, 4] := by kernel_rfl
theorem impl11_2 : impl_BernoulliModulo.f 5000 11 2 = some (2, 0) := by kernel_rfl
theorem impl11_4 : impl_BernoulliModulo.f 5000 11 4 = some (4, 0) := by kernel_rfl
theorem impl11_6 : impl_BernoulliModulo.f 5000 11 6 = some (5, 0) := by kernel_rfl
theorem impl11_8 : impl_BernoulliModulo.f 5000 11 8 = some (4, 0) := by kernel_rfl
theorem list13 : spec_l10Bernoulli.f 5000 13 = some [1, 6, 11, 0, 3, 0, 9, 0, 3, 0, 5] := by kernel_rfl
theorem impl13_2 : impl_BernoulliModulo.f 5000 13 2 = some (11, 0) := by kernel_rfl
theorem impl13_4 : impl_BernoulliModulo.f 5000 13 4 = some (3, 0) := by kernel_rfl
theorem impl13_6 : impl_BernoulliModulo.f 5000 13 6 = some (9, 0) := by kernel_rfl
theorem impl13_8 : impl_BernoulliModulo.f 5000 13 8 = some (3, 0) := by kernel_rfl
theorem impl13_10 : impl_BernoulliModulo.f 5000 13 10 = some (5, 0) := by kernel_rfl
theorem list17 : spec_l10Bernoulli.f 5000 17 = some [1, 8, 3, 0, 13, 0, 15, 0, 13, 0, 6, 0, 4, 0, 4] := by kernel_rfl
theorem impl17_2 : impl_BernoulliModulo.f 5000 17 2 = some (3, 0) := by kernel_rfl
theorem impl17_4 : impl_BernoulliModulo.f 5000 17 4 = some (13, 0) := by kernel_rfl
theorem impl17_6 : impl_BernoulliModulo.f 5000 17 6 = some (15, 0) := by kernel_rfl
theorem impl17_8 : impl_BernoulliModulo.f 5000 17 8 = some (13, 0) := by kernel_rfl
theorem impl17_10 : impl_BernoulliModulo.f 5000 17 10 = some (6, 0) := by kernel_rfl
theorem impl17_12 : impl_BernoulliModulo.f 5000 17 12 = some (4, 0) := by kernel_rfl
theorem impl17_14 : impl_BernoulliModulo.f 5000 17 14 = some (4, 0) := by kernel_rfl
theorem list19 : spec_l10Bernoulli.f 5000 19 = some [1, 9, 16, 0, 12, 0, 5, 0, 12, 0, 9, 0, 17, 0, 17, 0, 15] := by kernel_rfl
theorem impl19_2 : impl_BernoulliModulo.f 5000 19 2 = some (16, 0) := by kernel_rfl
theorem impl19_4 : impl_BernoulliModulo.f 5000 19 4 = some (12, 0) := by kernel_rfl
theorem impl19_6 : impl_BernoulliModulo.f 5000 19 6 = some (5, 0) := by kernel_rfl
theorem impl19_8 : impl_BernoulliModulo.f 5000 19 8 = some (12, 0) := by kernel_rfl
theorem impl19_10 : impl_BernoulliModulo.f 5000 19 10 = some (9, 0) := by kernel_rfl
theorem impl19_12 : impl_BernoulliModulo.f 5000 19 12 = some (17, 0) := by kernel_rfl
theorem impl19_14 : impl_BernoulliModulo.f 5000 19 14 = some (17, 0) := by kernel_rfl
theorem impl19_16 : impl_BernoulliModulo.f 5000 19 16 = some (15, 0) := by kernel_rfl
theorem list41 : spec_l10Bernoulli.f 5000 41 = some [1, 20, 7, 0, 15, 0, 1, 0, 15, 0, 33, 0, 31, 0, 8, 0, 20, 0, 2, 0, 4, 0, 24, 0, 2, 0, 36, 0, 18, 0, 33, 0, 8, 0, 20, 0, 39, 0, 31] := by kernel_rfl
theorem impl41_2 : impl_BernoulliModulo.f 5000 41 2 = some (7, 0) := by kernel_rfl
theorem impl41_4 : impl_BernoulliModulo.f 5000 41 4 = some (15, 0) := by kernel_rfl
theorem impl41_6 : impl_BernoulliModulo.f 5000 41 6 = some (1, 0) := by kernel_rfl
theorem impl41_8 : impl_BernoulliModulo.f 5000 41 8 = some (15, 0) := by kernel_rfl
theorem impl41_10 : impl_BernoulliModulo.f 5000 41 10 = some (33, 0) := by kernel_rfl
theorem impl41_12 : impl_BernoulliModulo.f 5000 41 12 = some (31, 0) := by kernel_rfl
theorem impl41_14 : impl_BernoulliModulo.f 5000 41 14 = some (8, 0) := by kernel_rfl
theorem impl41_16 : impl_BernoulliModulo.f 5000 41 16 = some (20, 0) := by kernel_rfl
theorem impl41_18 : impl_BernoulliModulo.f 5000 41 18 = some (2, 0) := by kernel_rfl
theorem impl41_20 : impl_BernoulliModulo.f 5000 41 20 = some (4, 0) := by kernel_rfl
theorem impl41_22 : impl_BernoulliModulo.f 5000 41 22 = some (24, 0) := by kernel_rfl
theorem impl41_24 : impl_BernoulliModulo.f 5000 41 24 = some (2, 0) := by kernel_rfl
theorem impl41_26 : impl_BernoulliModulo.f 5000 41 26 = some (36, 0) := by kernel_rfl
theorem impl41_28 : impl_BernoulliModulo.f 5000 41 28 = some (18, 0) := by kernel_rfl
theorem impl41_30 : impl_BernoulliModulo.f 5000 41 30 = some (33, 0) := by kernel_rfl
theorem impl41_32 : impl_BernoulliModulo.f 5000 41 32 = some (8, 0) := by kernel_rfl
theorem impl41_34 : impl_BernoulliModulo.f 5000 41 34 = some (20, 0) := by kernel_rfl
theorem impl41_36 : impl_BernoulliModulo.f 5000 41 36 = some (39, 0) := by kernel_rfl
theorem impl41_38 : impl_BernoulliModulo.f 5000 41 38 = some (31, 0) := by kernel_rfl
theorem list61 : spec_l10Bernoulli.f 5000 61 = some [1, 30, 51, 0, 2, 0, 16, 0, 2, 0, 1, 0, 42, 0, 52, 0, 38, 0, 26, 0, 33, 0, 13, 0, 21, 0, 59, 0, 24, 0, 58, 0, 33, 0, 51, 0, 7, 0, 58, 0, 35, 0, 7, 0, 34, 0, 58, 0, 57, 0, 9, 0, 25, 0, 49, 0, 45, 0, 38] := by kernel_rfl
theorem impl61_2 : impl_BernoulliModulo.f 5000 61 2 = some (51, 0) := by kernel_rfl
theorem impl61_4 : impl_BernoulliModulo.f 5000 61 4 = some (2, 0) := by kernel_rfl
theorem impl61_6 : impl_BernoulliModulo.f 5000 61 6 = some (16, 0) := by kernel_rfl
theorem impl61_8 : impl_BernoulliModulo.f 5000 61 8 = some (2, 0) := by kernel_rfl
theorem impl61_10 : impl_BernoulliModulo.f 5000 61 10 = some (1, 0) := by kernel_rfl
theorem impl61_12 : impl_BernoulliModulo.f 5000 61 12 = some (42, 0) := by kernel_rfl
theorem impl61_14 : impl_BernoulliModulo.f 5000 61 14 = some (52, 0) := by kernel_rfl
theorem impl61_16 : impl_BernoulliModulo.f 5000 61 16 = some (38, 0) := by kernel_rfl
theorem impl61_18 : impl_BernoulliModulo.f 5000 61 18 = some (26, 0) := by kernel_rfl
theorem impl61_20 : impl_BernoulliModulo.f 5000 61 20 = some (33, 0) := by kernel_rfl
theorem impl61_22 : impl_BernoulliModulo.f 5000 61 22 = some (13, 0) := by kernel_rfl
theorem impl61_24 : impl_BernoulliModulo.f 5000 61 24 = some (21, 0) := by kernel_rfl
theorem impl61_26 : impl_BernoulliModulo.f 5000 61 26 = some (59, 0) := by kernel_rfl
theorem impl61_28 : impl_BernoulliModulo.f 5000 61 28 = some (24, 0) := by kernel_rfl
theorem impl61_30 : impl_BernoulliModulo.f 5000 61 30 = some (58, 0) := by kernel_rfl
theorem impl61_32 : impl_BernoulliModulo.f 5000 61 32 = some (33, 0) := by kernel_rfl
theorem impl61_34 : impl_BernoulliModulo.f 5000 61 34 = some (51, 0) := by kernel_rfl
theorem impl61_36 : impl_BernoulliModulo.f 5000 61 36 = some (7, 0) := by kernel_rfl
theorem impl61_38 : impl_BernoulliModulo.f 5000 61 38 = some (58, 0) := by kernel_rfl
theorem impl61_40 : impl_BernoulliModulo.f 5000 61 40 = some (35, 0) := by kernel_rfl
theorem impl61_42 : impl_BernoulliModulo.f 5000 61 42 = some (7, 0) := by kernel_rfl
theorem impl61_44 : impl_BernoulliModulo.f 5000 61 44 = some (34, 0) := by kernel_rfl
theorem impl61_46 : impl_BernoulliModulo.f 5000 61 46 = some (58, 0) := by kernel_rfl
theorem impl61_48 : impl_BernoulliModulo.f 5000 61 48 = some (57, 0) := by kernel_rfl
theorem impl61_50 : impl_BernoulliModulo.f 5000 61 50 = some (9, 0) := by kernel_rfl
theorem impl61_52 : impl_BernoulliModulo.f 5000 61 52 = some (25, 0) := by kernel_rfl
theorem impl61_54 : impl_BernoulliModulo.f 5000 61 54 = some (49, 0) := by kernel_rfl
theorem impl61_56 : impl_BernoulliModulo.f 5000 61 56 = some (45, 0) := by kernel_rfl
theorem impl61_58 : impl_BernoulliModulo.f 5000 61 58 = some (38, 0) := by kernel_rfl
end Go.Proofs.Ytgcggngleiggiaa.Pure
