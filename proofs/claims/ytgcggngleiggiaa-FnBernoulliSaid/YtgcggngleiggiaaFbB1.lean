/-
Values that BernoulliModulo tells, and the lists of the reference. Conditions: none (closed terms).
-/
import Derived.Test.YtgcggngleiggiaaPr17
namespace Go.Proofs.Ytgcggngleiggiaa.Pure
open Go.RowKit Go.Proofs.Ytgcggngleiggiaa.Pr Go.Proofs.YtgcggngleiggiaaW.PrintWords Go.Proofs.YtgcggngleiggiaaW.PrintLast
set_option maxRecDepth 100000
theorem list23 : spec_l10Bernoulli.f 5000 23 = some [1, 11, 4, 0, 13, 0, 17, 0, 13, 0, 6, 0, 10, 0, 5, 0, 10, 0, 9, 0, 15] := by kernel_rfl
theorem impl23_2 : impl_BernoulliModulo.f 5000 23 2 = some (4, 0) := by kernel_rfl
theorem impl23_4 : impl_BernoulliModulo.f 5000 23 4 = some (13, 0) := by kernel_rfl
theorem impl23_6 : impl_BernoulliModulo.f 5000 23 6 = some (17, 0) := by kernel_rfl
theorem impl23_8 : impl_BernoulliModulo.f 5000 23 8 = some (13, 0) := by kernel_rfl
theorem impl23_10 : impl_BernoulliModulo.f 5000 23 10 = some (6, 0) := by kernel_rfl
theorem impl23_12 : impl_BernoulliModulo.f 5000 23 12 = some (10, 0) := by kernel_rfl
theorem impl23_14 : impl_BernoulliModulo.f 5000 23 14 = some (5, 0) := by kernel_rfl
theorem impl23_16 : impl_BernoulliModulo.f 5000 23 16 = some (10, 0) := by kernel_rfl
theorem impl23_18 : impl_BernoulliModulo.f 5000 23 18 = some (9, 0) := by kernel_rfl
theorem impl23_20 : impl_BernoulliModulo.f 5000 23 20 = some (15, 0) := by kernel_rfl
theorem list29 : spec_l10Bernoulli.f 5000 29 = some [1, 14, 5, 0, 28, 0, 9, 0, 28, 0, 26, 0, 23, 0, 6, 0, 9, 0, 9, 0, 13, 0, 25, 0, 8, 0, 27] := by kernel_rfl
theorem impl29_2 : impl_BernoulliModulo.f 5000 29 2 = some (5, 0) := by kernel_rfl
theorem impl29_4 : impl_BernoulliModulo.f 5000 29 4 = some (28, 0) := by kernel_rfl
theorem impl29_6 : impl_BernoulliModulo.f 5000 29 6 = some (9, 0) := by kernel_rfl
theorem impl29_8 : impl_BernoulliModulo.f 5000 29 8 = some (28, 0) := by kernel_rfl
theorem impl29_10 : impl_BernoulliModulo.f 5000 29 10 = some (26, 0) := by kernel_rfl
theorem impl29_12 : impl_BernoulliModulo.f 5000 29 12 = some (23, 0) := by kernel_rfl
theorem impl29_14 : impl_BernoulliModulo.f 5000 29 14 = some (6, 0) := by kernel_rfl
theorem impl29_16 : impl_BernoulliModulo.f 5000 29 16 = some (9, 0) := by kernel_rfl
theorem impl29_18 : impl_BernoulliModulo.f 5000 29 18 = some (9, 0) := by kernel_rfl
theorem impl29_20 : impl_BernoulliModulo.f 5000 29 20 = some (13, 0) := by kernel_rfl
theorem impl29_22 : impl_BernoulliModulo.f 5000 29 22 = some (25, 0) := by kernel_rfl
theorem impl29_24 : impl_BernoulliModulo.f 5000 29 24 = some (8, 0) := by kernel_rfl
theorem impl29_26 : impl_BernoulliModulo.f 5000 29 26 = some (27, 0) := by kernel_rfl
theorem list43 : spec_l10Bernoulli.f 5000 43 = some [1, 21, 36, 0, 10, 0, 42, 0, 10, 0, 32, 0, 6, 0, 37, 0, 8, 0, 20, 0, 36, 0, 21, 0, 28, 0, 17, 0, 25, 0, 8, 0, 9, 0, 24, 0, 12, 0, 11, 0, 15] := by kernel_rfl
theorem impl43_2 : impl_BernoulliModulo.f 5000 43 2 = some (36, 0) := by kernel_rfl
theorem impl43_4 : impl_BernoulliModulo.f 5000 43 4 = some (10, 0) := by kernel_rfl
theorem impl43_6 : impl_BernoulliModulo.f 5000 43 6 = some (42, 0) := by kernel_rfl
theorem impl43_8 : impl_BernoulliModulo.f 5000 43 8 = some (10, 0) := by kernel_rfl
theorem impl43_10 : impl_BernoulliModulo.f 5000 43 10 = some (32, 0) := by kernel_rfl
theorem impl43_12 : impl_BernoulliModulo.f 5000 43 12 = some (6, 0) := by kernel_rfl
theorem impl43_14 : impl_BernoulliModulo.f 5000 43 14 = some (37, 0) := by kernel_rfl
theorem impl43_16 : impl_BernoulliModulo.f 5000 43 16 = some (8, 0) := by kernel_rfl
theorem impl43_18 : impl_BernoulliModulo.f 5000 43 18 = some (20, 0) := by kernel_rfl
theorem impl43_20 : impl_BernoulliModulo.f 5000 43 20 = some (36, 0) := by kernel_rfl
theorem impl43_22 : impl_BernoulliModulo.f 5000 43 22 = some (21, 0) := by kernel_rfl
theorem impl43_24 : impl_BernoulliModulo.f 5000 43 24 = some (28, 0) := by kernel_rfl
theorem impl43_26 : impl_BernoulliModulo.f 5000 43 26 = some (17, 0) := by kernel_rfl
theorem impl43_28 : impl_BernoulliModulo.f 5000 43 28 = some (25, 0) := by kernel_rfl
theorem impl43_30 : impl_BernoulliModulo.f 5000 43 30 = some (8, 0) := by kernel_rfl
theorem impl43_32 : impl_BernoulliModulo.f 5000 43 32 = some (9, 0) := by kernel_rfl
theorem impl43_34 : impl_BernoulliModulo.f 5000 43 34 = some (24, 0) := by kernel_rfl
theorem impl43_36 : impl_BernoulliModulo.f 5000 43 36 = some (12, 0) := by kernel_rfl
theorem impl43_38 : impl_BernoulliModulo.f 5000 43 38 = some (11, 0) := by kernel_rfl
theorem impl43_40 : impl_BernoulliModulo.f 5000 43 40 = some (15, 0) := by kernel_rfl
theorem list59 : spec_l10Bernoulli.f 5000 59 = some [1, 29, 10, 0, 57, 0, 52, 0, 57, 0, 26, 0, 49, 0, 11, 0, 43, 0, 20, 0, 16, 0, 48, 0, 22, 0, 28, 0, 7, 0, 28, 0, 2, 0, 50, 0, 45, 0, 17, 0, 6, 0, 57, 0, 0, 0, 1, 0, 30, 0, 26, 0, 44, 0, 12, 0, 31] := by kernel_rfl
theorem impl59_2 : impl_BernoulliModulo.f 5000 59 2 = some (10, 0) := by kernel_rfl
theorem impl59_4 : impl_BernoulliModulo.f 5000 59 4 = some (57, 0) := by kernel_rfl
theorem impl59_6 : impl_BernoulliModulo.f 5000 59 6 = some (52, 0) := by kernel_rfl
theorem impl59_8 : impl_BernoulliModulo.f 5000 59 8 = some (57, 0) := by kernel_rfl
theorem impl59_10 : impl_BernoulliModulo.f 5000 59 10 = some (26, 0) := by kernel_rfl
theorem impl59_12 : impl_BernoulliModulo.f 5000 59 12 = some (49, 0) := by kernel_rfl
theorem impl59_14 : impl_BernoulliModulo.f 5000 59 14 = some (11, 0) := by kernel_rfl
theorem impl59_16 : impl_BernoulliModulo.f 5000 59 16 = some (43, 0) := by kernel_rfl
theorem impl59_18 : impl_BernoulliModulo.f 5000 59 18 = some (20, 0) := by kernel_rfl
theorem impl59_20 : impl_BernoulliModulo.f 5000 59 20 = some (16, 0) := by kernel_rfl
theorem impl59_22 : impl_BernoulliModulo.f 5000 59 22 = some (48, 0) := by kernel_rfl
theorem impl59_24 : impl_BernoulliModulo.f 5000 59 24 = some (22, 0) := by kernel_rfl
theorem impl59_26 : impl_BernoulliModulo.f 5000 59 26 = some (28, 0) := by kernel_rfl
theorem impl59_28 : impl_BernoulliModulo.f 5000 59 28 = some (7, 0) := by kernel_rfl
theorem impl59_30 : impl_BernoulliModulo.f 5000 59 30 = some (28, 0) := by kernel_rfl
theorem impl59_32 : impl_BernoulliModulo.f 5000 59 32 = some (2, 0) := by kernel_rfl
theorem impl59_34 : impl_BernoulliModulo.f 5000 59 34 = some (50, 0) := by kernel_rfl
theorem impl59_36 : impl_BernoulliModulo.f 5000 59 36 = some (45, 0) := by kernel_rfl
theorem impl59_38 : impl_BernoulliModulo.f 5000 59 38 = some (17, 0) := by kernel_rfl
theorem impl59_40 : impl_BernoulliModulo.f 5000 59 40 = some (6, 0) := by kernel_rfl
theorem impl59_42 : impl_BernoulliModulo.f 5000 59 42 = some (57, 0) := by kernel_rfl
theorem impl59_44 : impl_BernoulliModulo.f 5000 59 44 = some (0, 0) := by kernel_rfl
theorem impl59_46 : impl_BernoulliModulo.f 5000 59 46 = some (1, 0) := by kernel_rfl
theorem impl59_48 : impl_BernoulliModulo.f 5000 59 48 = some (30, 0) := by kernel_rfl
theorem impl59_50 : impl_BernoulliModulo.f 5000 59 50 = some (26, 0) := by kernel_rfl
theorem impl59_52 : impl_BernoulliModulo.f 5000 59 52 = some (44, 0) := by kernel_rfl
theorem impl59_54 : impl_BernoulliModulo.f 5000 59 54 = some (12, 0) := by kernel_rfl
theorem impl59_56 : impl_BernoulliModulo.f 5000 59 56 = some (31, 0) := by kernel_rfl
end Go.Proofs.Ytgcggngleiggiaa.Pure
