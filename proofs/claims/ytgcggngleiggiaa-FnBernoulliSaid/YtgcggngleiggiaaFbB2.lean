/-
Values that BernoulliModulo tells, and the lists of the reference. Conditions: none (closed terms).
-/
import Derived.Test.YtgcggngleiggiaaPr17
namespace Go.Proofs.Ytgcggngleiggiaa.Pure
open Go.RowKit Go.Proofs.Ytgcggngleiggiaa.Pr Go.Proofs.YtgcggngleiggiaaW.PrintWords Go.Proofs.YtgcggngleiggiaaW.PrintLast
set_option maxRecDepth 100000
theorem list31 : spec_l10Bernoulli.f 5000 31 = some [1, 15, 26, 0, 1, 0, 17, 0, 1, 0, 9, 0, 11, 0, 27, 0, 14, 0, 23, 0, 13, 0, 22, 0, 14, 0, 8, 0, 14] := by kernel_rfl
theorem impl31_2 : impl_BernoulliModulo.f 5000 31 2 = some (26, 0) := by kernel_rfl
theorem impl31_4 : impl_BernoulliModulo.f 5000 31 4 = some (1, 0) := by kernel_rfl
theorem impl31_6 : impl_BernoulliModulo.f 5000 31 6 = some (17, 0) := by kernel_rfl
theorem impl31_8 : impl_BernoulliModulo.f 5000 31 8 = some (1, 0) := by kernel_rfl
theorem impl31_10 : impl_BernoulliModulo.f 5000 31 10 = some (9, 0) := by kernel_rfl
theorem impl31_12 : impl_BernoulliModulo.f 5000 31 12 = some (11, 0) := by kernel_rfl
theorem impl31_14 : impl_BernoulliModulo.f 5000 31 14 = some (27, 0) := by kernel_rfl
theorem impl31_16 : impl_BernoulliModulo.f 5000 31 16 = some (14, 0) := by kernel_rfl
theorem impl31_18 : impl_BernoulliModulo.f 5000 31 18 = some (23, 0) := by kernel_rfl
theorem impl31_20 : impl_BernoulliModulo.f 5000 31 20 = some (13, 0) := by kernel_rfl
theorem impl31_22 : impl_BernoulliModulo.f 5000 31 22 = some (22, 0) := by kernel_rfl
theorem impl31_24 : impl_BernoulliModulo.f 5000 31 24 = some (14, 0) := by kernel_rfl
theorem impl31_26 : impl_BernoulliModulo.f 5000 31 26 = some (8, 0) := by kernel_rfl
theorem impl31_28 : impl_BernoulliModulo.f 5000 31 28 = some (14, 0) := by kernel_rfl
theorem list37 : spec_l10Bernoulli.f 5000 37 = some [1, 18, 31, 0, 16, 0, 15, 0, 16, 0, 4, 0, 17, 0, 32, 0, 22, 0, 31, 0, 15, 0, 15, 0, 17, 0, 12, 0, 29, 0, 2, 0, 0, 0, 2] := by kernel_rfl
theorem impl37_2 : impl_BernoulliModulo.f 5000 37 2 = some (31, 0) := by kernel_rfl
theorem impl37_4 : impl_BernoulliModulo.f 5000 37 4 = some (16, 0) := by kernel_rfl
theorem impl37_6 : impl_BernoulliModulo.f 5000 37 6 = some (15, 0) := by kernel_rfl
theorem impl37_8 : impl_BernoulliModulo.f 5000 37 8 = some (16, 0) := by kernel_rfl
theorem impl37_10 : impl_BernoulliModulo.f 5000 37 10 = some (4, 0) := by kernel_rfl
theorem impl37_12 : impl_BernoulliModulo.f 5000 37 12 = some (17, 0) := by kernel_rfl
theorem impl37_14 : impl_BernoulliModulo.f 5000 37 14 = some (32, 0) := by kernel_rfl
theorem impl37_16 : impl_BernoulliModulo.f 5000 37 16 = some (22, 0) := by kernel_rfl
theorem impl37_18 : impl_BernoulliModulo.f 5000 37 18 = some (31, 0) := by kernel_rfl
theorem impl37_20 : impl_BernoulliModulo.f 5000 37 20 = some (15, 0) := by kernel_rfl
theorem impl37_22 : impl_BernoulliModulo.f 5000 37 22 = some (15, 0) := by kernel_rfl
theorem impl37_24 : impl_BernoulliModulo.f 5000 37 24 = some (17, 0) := by kernel_rfl
theorem impl37_26 : impl_BernoulliModulo.f 5000 37 26 = some (12, 0) := by kernel_rfl
theorem impl37_28 : impl_BernoulliModulo.f 5000 37 28 = some (29, 0) := by kernel_rfl
theorem impl37_30 : impl_BernoulliModulo.f 5000 37 30 = some (2, 0) := by kernel_rfl
theorem impl37_32 : impl_BernoulliModulo.f 5000 37 32 = some (0, 0) := by kernel_rfl
theorem impl37_34 : impl_BernoulliModulo.f 5000 37 34 = some (2, 0) := by kernel_rfl
theorem list47 : spec_l10Bernoulli.f 5000 47 = some [1, 23, 8, 0, 36, 0, 28, 0, 36, 0, 25, 0, 27, 0, 9, 0, 40, 0, 31, 0, 41, 0, 45, 0, 21, 0, 15, 0, 3, 0, 4, 0, 13, 0, 27, 0, 3, 0, 40, 0, 39, 0, 24, 0, 24] := by kernel_rfl
theorem impl47_2 : impl_BernoulliModulo.f 5000 47 2 = some (8, 0) := by kernel_rfl
theorem impl47_4 : impl_BernoulliModulo.f 5000 47 4 = some (36, 0) := by kernel_rfl
theorem impl47_6 : impl_BernoulliModulo.f 5000 47 6 = some (28, 0) := by kernel_rfl
theorem impl47_8 : impl_BernoulliModulo.f 5000 47 8 = some (36, 0) := by kernel_rfl
theorem impl47_10 : impl_BernoulliModulo.f 5000 47 10 = some (25, 0) := by kernel_rfl
theorem impl47_12 : impl_BernoulliModulo.f 5000 47 12 = some (27, 0) := by kernel_rfl
theorem impl47_14 : impl_BernoulliModulo.f 5000 47 14 = some (9, 0) := by kernel_rfl
theorem impl47_16 : impl_BernoulliModulo.f 5000 47 16 = some (40, 0) := by kernel_rfl
theorem impl47_18 : impl_BernoulliModulo.f 5000 47 18 = some (31, 0) := by kernel_rfl
theorem impl47_20 : impl_BernoulliModulo.f 5000 47 20 = some (41, 0) := by kernel_rfl
theorem impl47_22 : impl_BernoulliModulo.f 5000 47 22 = some (45, 0) := by kernel_rfl
theorem impl47_24 : impl_BernoulliModulo.f 5000 47 24 = some (21, 0) := by kernel_rfl
theorem impl47_26 : impl_BernoulliModulo.f 5000 47 26 = some (15, 0) := by kernel_rfl
theorem impl47_28 : impl_BernoulliModulo.f 5000 47 28 = some (3, 0) := by kernel_rfl
theorem impl47_30 : impl_BernoulliModulo.f 5000 47 30 = some (4, 0) := by kernel_rfl
theorem impl47_32 : impl_BernoulliModulo.f 5000 47 32 = some (13, 0) := by kernel_rfl
theorem impl47_34 : impl_BernoulliModulo.f 5000 47 34 = some (27, 0) := by kernel_rfl
theorem impl47_36 : impl_BernoulliModulo.f 5000 47 36 = some (3, 0) := by kernel_rfl
theorem impl47_38 : impl_BernoulliModulo.f 5000 47 38 = some (40, 0) := by kernel_rfl
theorem impl47_40 : impl_BernoulliModulo.f 5000 47 40 = some (39, 0) := by kernel_rfl
theorem impl47_42 : impl_BernoulliModulo.f 5000 47 42 = some (24, 0) := by kernel_rfl
theorem impl47_44 : impl_BernoulliModulo.f 5000 47 44 = some (24, 0) := by kernel_rfl
theorem list53 : spec_l10Bernoulli.f 5000 53 = some [1, 26, 9, 0, 30, 0, 24, 0, 30, 0, 33, 0, 49, 0, 10, 0, 51, 0, 12, 0, 2, 0, 23, 0, 18, 0, 38, 0, 21, 0, 11, 0, 3, 0, 37, 0, 8, 0, 30, 0, 6, 0, 46, 0, 38, 0, 43, 0, 40, 0, 49] := by kernel_rfl
theorem impl53_2 : impl_BernoulliModulo.f 5000 53 2 = some (9, 0) := by kernel_rfl
theorem impl53_4 : impl_BernoulliModulo.f 5000 53 4 = some (30, 0) := by kernel_rfl
theorem impl53_6 : impl_BernoulliModulo.f 5000 53 6 = some (24, 0) := by kernel_rfl
theorem impl53_8 : impl_BernoulliModulo.f 5000 53 8 = some (30, 0) := by kernel_rfl
theorem impl53_10 : impl_BernoulliModulo.f 5000 53 10 = some (33, 0) := by kernel_rfl
theorem impl53_12 : impl_BernoulliModulo.f 5000 53 12 = some (49, 0) := by kernel_rfl
theorem impl53_14 : impl_BernoulliModulo.f 5000 53 14 = some (10, 0) := by kernel_rfl
theorem impl53_16 : impl_BernoulliModulo.f 5000 53 16 = some (51, 0) := by kernel_rfl
theorem impl53_18 : impl_BernoulliModulo.f 5000 53 18 = some (12, 0) := by kernel_rfl
theorem impl53_20 : impl_BernoulliModulo.f 5000 53 20 = some (2, 0) := by kernel_rfl
theorem impl53_22 : impl_BernoulliModulo.f 5000 53 22 = some (23, 0) := by kernel_rfl
theorem impl53_24 : impl_BernoulliModulo.f 5000 53 24 = some (18, 0) := by kernel_rfl
theorem impl53_26 : impl_BernoulliModulo.f 5000 53 26 = some (38, 0) := by kernel_rfl
theorem impl53_28 : impl_BernoulliModulo.f 5000 53 28 = some (21, 0) := by kernel_rfl
theorem impl53_30 : impl_BernoulliModulo.f 5000 53 30 = some (11, 0) := by kernel_rfl
theorem impl53_32 : impl_BernoulliModulo.f 5000 53 32 = some (3, 0) := by kernel_rfl
theorem impl53_34 : impl_BernoulliModulo.f 5000 53 34 = some (37, 0) := by kernel_rfl
theorem impl53_36 : impl_BernoulliModulo.f 5000 53 36 = some (8, 0) := by kernel_rfl
theorem impl53_38 : impl_BernoulliModulo.f 5000 53 38 = some (30, 0) := by kernel_rfl
theorem impl53_40 : impl_BernoulliModulo.f 5000 53 40 = some (6, 0) := by kernel_rfl
theorem impl53_42 : impl_BernoulliModulo.f 5000 53 42 = some (46, 0) := by kernel_rfl
theorem impl53_44 : impl_BernoulliModulo.f 5000 53 44 = some (38, 0) := by kernel_rfl
theorem impl53_46 : impl_BernoulliModulo.f 5000 53 46 = some (43, 0) := by kernel_rfl
theorem impl53_48 : impl_BernoulliModulo.f 5000 53 48 = some (40, 0) := by kernel_rfl
theorem impl53_50 : impl_BernoulliModulo.f 5000 53 50 = some (49, 0) := by kernel_rfl
end Go.Proofs.Ytgcggngleiggiaa.Pure
