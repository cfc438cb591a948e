/- Several texts in one: see the remarks ahead of each part. No condition but those told there. -/
import Derived.Test.YtbmlhdecnfplaaaProg
import Derived.Test.YtbmlhdecnfplaaaK7
import Derived.WalkKit
import Derived.Test.YtbmlhdecnfplaaaK4
import Derived.Lib.Mul64
/- Facts on the types of the program, by number. No condition. -/
namespace Go.Proofs.Ytbmlhdecnfplaaa
set_option linter.unusedVariables false
set_option linter.unusedSimpArgs false
open Go Go.RowKit
theorem sc2 : scal Try.prog 2 = true := by kernel_rfl
theorem sz2 : siz Try.prog 2 = some 1 := by kernel_rfl
theorem ze2 : zer Try.prog 2 = some (.int .i64 0) := by kernel_rfl
theorem sc3 : scal Try.prog 3 = true := by kernel_rfl
theorem sz3 : siz Try.prog 3 = some 1 := by kernel_rfl
theorem ze3 : zer Try.prog 3 = some (.int .i64 0) := by kernel_rfl
theorem sc4 : scal Try.prog 4 = true := by kernel_rfl
theorem sz4 : siz Try.prog 4 = some 1 := by kernel_rfl
theorem ze4 : zer Try.prog 4 = some (.bool false) := by kernel_rfl
theorem sc5 : scal Try.prog 5 = true := by kernel_rfl
theorem sz5 : siz Try.prog 5 = some 1 := by kernel_rfl
theorem ze5 : zer Try.prog 5 = some (.int .u8 0) := by kernel_rfl
theorem sc6 : scal Try.prog 6 = true := by kernel_rfl
theorem sz6 : siz Try.prog 6 = some 1 := by kernel_rfl
theorem ze6 : zer Try.prog 6 = some (.int .u8 0) := by kernel_rfl
theorem ag7 : aggOf Try.prog 7 = some 4 := by kernel_rfl
theorem sz7 : siz Try.prog 7 = some 4 := by kernel_rfl
theorem ze7 : zer Try.prog 7 = some (.agg #[.int .i64 0, .int .i64 0, .bool false, .int .u8 0]) := by kernel_rfl
theorem fl7_0 : fld Try.prog 7 0 = some 0 := by kernel_rfl
theorem fl7_1 : fld Try.prog 7 1 = some 1 := by kernel_rfl
theorem fl7_2 : fld Try.prog 7 2 = some 2 := by kernel_rfl
theorem fl7_3 : fld Try.prog 7 3 = some 3 := by kernel_rfl
theorem pl7 : places Try.prog 7 = some [(0, 1), (1, 1), (2, 1), (3, 1)] := by kernel_rfl
theorem ag8 : aggOf Try.prog 8 = some 4 := by kernel_rfl
theorem sz8 : siz Try.prog 8 = some 4 := by kernel_rfl
theorem ze8 : zer Try.prog 8 = some (.agg #[.int .i64 0, .int .i64 0, .bool false, .int .u8 0]) := by kernel_rfl
theorem fl8_0 : fld Try.prog 8 0 = some 0 := by kernel_rfl
theorem fl8_1 : fld Try.prog 8 1 = some 1 := by kernel_rfl
theorem fl8_2 : fld Try.prog 8 2 = some 2 := by kernel_rfl
theorem fl8_3 : fld Try.prog 8 3 = some 3 := by kernel_rfl
theorem pl8 : places Try.prog 8 = some [(0, 1), (1, 1), (2, 1), (3, 1)] := by kernel_rfl
theorem sc9 : scal Try.prog 9 = true := by kernel_rfl
theorem sz9 : siz Try.prog 9 = some 1 := by kernel_rfl
theorem ze9 : zer Try.prog 9 = some (str []) := by kernel_rfl
theorem sc10 : scal Try.prog 10 = true := by kernel_rfl
theorem sz10 : siz Try.prog 10 = some 1 := by kernel_rfl
theorem ze10 : zer Try.prog 10 = some (str []) := by kernel_rfl
theorem sc11 : scal Try.prog 11 = true := by kernel_rfl
theorem sz11 : siz Try.prog 11 = some 1 := by kernel_rfl
theorem ze11 : zer Try.prog 11 = some (str []) := by kernel_rfl
theorem sc12 : scal Try.prog 12 = true := by kernel_rfl
theorem sz12 : siz Try.prog 12 = some 1 := by kernel_rfl
theorem ze12 : zer Try.prog 12 = some (.int .u64 0) := by kernel_rfl
theorem ag13 : aggOf Try.prog 13 = some 2 := by kernel_rfl
theorem sz13 : siz Try.prog 13 = some 2 := by kernel_rfl
theorem ze13 : zer Try.prog 13 = some (.agg #[str [], .int .u64 0]) := by kernel_rfl
theorem fl13_0 : fld Try.prog 13 0 = some 0 := by kernel_rfl
theorem fl13_1 : fld Try.prog 13 1 = some 1 := by kernel_rfl
theorem pl13 : places Try.prog 13 = some [(0, 1), (1, 1)] := by kernel_rfl
theorem ag14 : aggOf Try.prog 14 = some 2 := by kernel_rfl
theorem sz14 : siz Try.prog 14 = some 2 := by kernel_rfl
theorem ze14 : zer Try.prog 14 = some (.agg #[str [], .int .u64 0]) := by kernel_rfl
theorem fl14_0 : fld Try.prog 14 0 = some 0 := by kernel_rfl
theorem fl14_1 : fld Try.prog 14 1 = some 1 := by kernel_rfl
theorem pl14 : places Try.prog 14 = some [(0, 1), (1, 1)] := by kernel_rfl
theorem sc15 : scal Try.prog 15 = true := by kernel_rfl
theorem sz15 : siz Try.prog 15 = some 1 := by kernel_rfl
theorem ze15 : zer Try.prog 15 = some (.pointer none) := by kernel_rfl
theorem sc16 : scal Try.prog 16 = true := by kernel_rfl
theorem sz16 : siz Try.prog 16 = some 1 := by kernel_rfl
theorem ze16 : zer Try.prog 16 = some (.pointer none) := by kernel_rfl
theorem sc17 : scal Try.prog 17 = true := by kernel_rfl
theorem sz17 : siz Try.prog 17 = some 1 := by kernel_rfl
theorem ze17 : zer Try.prog 17 = some (.pointer none) := by kernel_rfl
theorem ag18 : aggOf Try.prog 18 = some 1 := by kernel_rfl
theorem sz18 : siz Try.prog 18 = some 1 := by kernel_rfl
theorem ze18 : zer Try.prog 18 = some (.agg #[.pointer none]) := by kernel_rfl
theorem fl18_0 : fld Try.prog 18 0 = some 0 := by kernel_rfl
theorem pl18 : places Try.prog 18 = some [(0, 1)] := by kernel_rfl
theorem ag19 : aggOf Try.prog 19 = some 1 := by kernel_rfl
theorem sz19 : siz Try.prog 19 = some 1 := by kernel_rfl
theorem ze19 : zer Try.prog 19 = some (.agg #[.pointer none]) := by kernel_rfl
theorem fl19_0 : fld Try.prog 19 0 = some 0 := by kernel_rfl
theorem pl19 : places Try.prog 19 = some [(0, 1)] := by kernel_rfl
theorem sc20 : scal Try.prog 20 = true := by kernel_rfl
theorem sz20 : siz Try.prog 20 = some 1 := by kernel_rfl
theorem ze20 : zer Try.prog 20 = some (.nilIface) := by kernel_rfl
theorem sc21 : scal Try.prog 21 = true := by kernel_rfl
theorem sz21 : siz Try.prog 21 = some 1 := by kernel_rfl
theorem ze21 : zer Try.prog 21 = some (.int .i32 0) := by kernel_rfl
theorem ag22 : aggOf Try.prog 22 = some 32 := by kernel_rfl
theorem sz22 : siz Try.prog 22 = some 32 := by kernel_rfl
theorem ze22 : zer Try.prog 22 = some (.agg #[.int .u8 0, .int .u8 0, .int .u8 0, .int .u8 0, .int .u8 0, .int .u8 0, .int .u8 0, .int .u8 0, .int .u8 0, .int .u8 0, .int .u8 0, .int .u8 0, .int .u8 0, .int .u8 0, .int .u8 0, .int .u8 0, .int .u8 0, .int .u8 0, .int .u8 0, .int .u8 0, .int .u8 0, .int .u8 0, .int .u8 0, .int .u8 0, .int .u8 0, .int .u8 0, .int .u8 0, .int .u8 0, .int .u8 0, .int .u8 0, .int .u8 0, .int .u8 0]) := by kernel_rfl
theorem ae22 : aelt Try.prog 22 = some (32, 5, 1) := by kernel_rfl
theorem ag23 : aggOf Try.prog 23 = some 32 := by kernel_rfl
theorem sz23 : siz Try.prog 23 = some 32 := by kernel_rfl
theorem ze23 : zer Try.prog 23 = some (.agg #[.int .u8 0, .int .u8 0, .int .u8 0, .int .u8 0, .int .u8 0, .int .u8 0, .int .u8 0, .int .u8 0, .int .u8 0, .int .u8 0, .int .u8 0, .int .u8 0, .int .u8 0, .int .u8 0, .int .u8 0, .int .u8 0, .int .u8 0, .int .u8 0, .int .u8 0, .int .u8 0, .int .u8 0, .int .u8 0, .int .u8 0, .int .u8 0, .int .u8 0, .int .u8 0, .int .u8 0, .int .u8 0, .int .u8 0, .int .u8 0, .int .u8 0, .int .u8 0]) := by kernel_rfl
theorem ae23 : aelt Try.prog 23 = some (32, 5, 1) := by kernel_rfl
theorem ag24 : aggOf Try.prog 24 = some 20 := by kernel_rfl
theorem sz24 : siz Try.prog 24 = some 20 := by kernel_rfl
theorem ze24 : zer Try.prog 24 = some (.agg #[.int .u8 0, .int .u8 0, .int .u8 0, .int .u8 0, .int .u8 0, .int .u8 0, .int .u8 0, .int .u8 0, .int .u8 0, .int .u8 0, .int .u8 0, .int .u8 0, .int .u8 0, .int .u8 0, .int .u8 0, .int .u8 0, .int .u8 0, .int .u8 0, .int .u8 0, .int .u8 0]) := by kernel_rfl
theorem ae24 : aelt Try.prog 24 = some (20, 5, 1) := by kernel_rfl
theorem ag25 : aggOf Try.prog 25 = some 20 := by kernel_rfl
theorem sz25 : siz Try.prog 25 = some 20 := by kernel_rfl
theorem ze25 : zer Try.prog 25 = some (.agg #[.int .u8 0, .int .u8 0, .int .u8 0, .int .u8 0, .int .u8 0, .int .u8 0, .int .u8 0, .int .u8 0, .int .u8 0, .int .u8 0, .int .u8 0, .int .u8 0, .int .u8 0, .int .u8 0, .int .u8 0, .int .u8 0, .int .u8 0, .int .u8 0, .int .u8 0, .int .u8 0]) := by kernel_rfl
theorem ae25 : aelt Try.prog 25 = some (20, 5, 1) := by kernel_rfl
theorem ag26 : aggOf Try.prog 26 = some 256 := by kernel_rfl
theorem sz26 : siz Try.prog 26 = some 256 := by kernel_rfl
theorem ae26 : aelt Try.prog 26 = some (256, 5, 1) := by kernel_rfl
theorem sc27 : scal Try.prog 27 = true := by kernel_rfl
theorem sz27 : siz Try.prog 27 = some 1 := by kernel_rfl
theorem ze27 : zer Try.prog 27 = some (.int .u64 0) := by kernel_rfl
theorem ag28 : aggOf Try.prog 28 = some 4 := by kernel_rfl
theorem sz28 : siz Try.prog 28 = some 4 := by kernel_rfl
theorem ze28 : zer Try.prog 28 = some (.agg #[.int .u64 0, .int .u64 0, .int .u64 0, .int .u64 0]) := by kernel_rfl
theorem ae28 : aelt Try.prog 28 = some (4, 27, 1) := by kernel_rfl
theorem ag29 : aggOf Try.prog 29 = some 4 := by kernel_rfl
theorem sz29 : siz Try.prog 29 = some 4 := by kernel_rfl
theorem ze29 : zer Try.prog 29 = some (.agg #[.int .u64 0, .int .u64 0, .int .u64 0, .int .u64 0]) := by kernel_rfl
theorem ae29 : aelt Try.prog 29 = some (4, 27, 1) := by kernel_rfl
theorem sc30 : scal Try.prog 30 = true := by kernel_rfl
theorem sz30 : siz Try.prog 30 = some 1 := by kernel_rfl
theorem ze30 : zer Try.prog 30 = some (.slice none 0 0) := by kernel_rfl
theorem se30 : selt Try.prog 30 = some (5, 1) := by kernel_rfl
theorem ag31 : aggOf Try.prog 31 = some 8 := by kernel_rfl
theorem sz31 : siz Try.prog 31 = some 8 := by kernel_rfl
theorem ze31 : zer Try.prog 31 = some (.agg #[.int .u8 0, .int .u8 0, .int .u8 0, .int .u8 0, .int .u8 0, .int .u8 0, .int .u8 0, .int .u8 0]) := by kernel_rfl
theorem ae31 : aelt Try.prog 31 = some (8, 5, 1) := by kernel_rfl
theorem ag32 : aggOf Try.prog 32 = some 556 := by kernel_rfl
theorem sz32 : siz Try.prog 32 = some 556 := by kernel_rfl
theorem fl32_0 : fld Try.prog 32 0 = some 0 := by kernel_rfl
theorem fl32_1 : fld Try.prog 32 1 = some 1 := by kernel_rfl
theorem fl32_2 : fld Try.prog 32 2 = some 33 := by kernel_rfl
theorem fl32_3 : fld Try.prog 32 3 = some 65 := by kernel_rfl
theorem fl32_4 : fld Try.prog 32 4 = some 85 := by kernel_rfl
theorem fl32_5 : fld Try.prog 32 5 = some 117 := by kernel_rfl
theorem fl32_6 : fld Try.prog 32 6 = some 149 := by kernel_rfl
theorem fl32_7 : fld Try.prog 32 7 = some 181 := by kernel_rfl
theorem fl32_8 : fld Try.prog 32 8 = some 437 := by kernel_rfl
theorem fl32_9 : fld Try.prog 32 9 = some 441 := by kernel_rfl
theorem fl32_10 : fld Try.prog 32 10 = some 442 := by kernel_rfl
theorem fl32_11 : fld Try.prog 32 11 = some 443 := by kernel_rfl
theorem fl32_12 : fld Try.prog 32 12 = some 444 := by kernel_rfl
theorem fl32_13 : fld Try.prog 32 13 = some 445 := by kernel_rfl
theorem fl32_14 : fld Try.prog 32 14 = some 446 := by kernel_rfl
theorem fl32_15 : fld Try.prog 32 15 = some 478 := by kernel_rfl
theorem fl32_16 : fld Try.prog 32 16 = some 486 := by kernel_rfl
theorem fl32_17 : fld Try.prog 32 17 = some 490 := by kernel_rfl
theorem fl32_18 : fld Try.prog 32 18 = some 522 := by kernel_rfl
theorem fl32_19 : fld Try.prog 32 19 = some 523 := by kernel_rfl
theorem fl32_20 : fld Try.prog 32 20 = some 524 := by kernel_rfl
theorem pl32 : places Try.prog 32 = some [(0, 1), (1, 32), (33, 32), (65, 20), (85, 32), (117, 32), (149, 32), (181, 256), (437, 4), (441, 1), (442, 1), (443, 1), (444, 1), (445, 1), (446, 32), (478, 8), (486, 4), (490, 32), (522, 1), (523, 1), (524, 32)] := by kernel_rfl
theorem ag33 : aggOf Try.prog 33 = some 556 := by kernel_rfl
theorem sz33 : siz Try.prog 33 = some 556 := by kernel_rfl
theorem fl33_0 : fld Try.prog 33 0 = some 0 := by kernel_rfl
theorem fl33_1 : fld Try.prog 33 1 = some 1 := by kernel_rfl
theorem fl33_2 : fld Try.prog 33 2 = some 33 := by kernel_rfl
theorem fl33_3 : fld Try.prog 33 3 = some 65 := by kernel_rfl
theorem fl33_4 : fld Try.prog 33 4 = some 85 := by kernel_rfl
theorem fl33_5 : fld Try.prog 33 5 = some 117 := by kernel_rfl
theorem fl33_6 : fld Try.prog 33 6 = some 149 := by kernel_rfl
theorem fl33_7 : fld Try.prog 33 7 = some 181 := by kernel_rfl
theorem fl33_8 : fld Try.prog 33 8 = some 437 := by kernel_rfl
theorem fl33_9 : fld Try.prog 33 9 = some 441 := by kernel_rfl
theorem fl33_10 : fld Try.prog 33 10 = some 442 := by kernel_rfl
theorem fl33_11 : fld Try.prog 33 11 = some 443 := by kernel_rfl
theorem fl33_12 : fld Try.prog 33 12 = some 444 := by kernel_rfl
theorem fl33_13 : fld Try.prog 33 13 = some 445 := by kernel_rfl
theorem fl33_14 : fld Try.prog 33 14 = some 446 := by kernel_rfl
theorem fl33_15 : fld Try.prog 33 15 = some 478 := by kernel_rfl
theorem fl33_16 : fld Try.prog 33 16 = some 486 := by kernel_rfl
theorem fl33_17 : fld Try.prog 33 17 = some 490 := by kernel_rfl
theorem fl33_18 : fld Try.prog 33 18 = some 522 := by kernel_rfl
theorem fl33_19 : fld Try.prog 33 19 = some 523 := by kernel_rfl
theorem fl33_20 : fld Try.prog 33 20 = some 524 := by kernel_rfl
theorem pl33 : places Try.prog 33 = some [(0, 1), (1, 32), (33, 32), (65, 20), (85, 32), (117, 32), (149, 32), (181, 256), (437, 4), (441, 1), (442, 1), (443, 1), (444, 1), (445, 1), (446, 32), (478, 8), (486, 4), (490, 32), (522, 1), (523, 1), (524, 32)] := by kernel_rfl
theorem sc42 : scal Try.prog 42 = true := by kernel_rfl
theorem sz42 : siz Try.prog 42 = some 1 := by kernel_rfl
theorem ze42 : zer Try.prog 42 = some (.slice none 0 0) := by kernel_rfl
theorem se42 : selt Try.prog 42 = some (80, 1) := by kernel_rfl
theorem sc43 : scal Try.prog 43 = true := by kernel_rfl
theorem sz43 : siz Try.prog 43 = some 1 := by kernel_rfl
theorem ze43 : zer Try.prog 43 = some (.slice none 0 0) := by kernel_rfl
theorem se43 : selt Try.prog 43 = some (80, 1) := by kernel_rfl
theorem ag52 : aggOf Try.prog 52 = some 26 := by kernel_rfl
theorem sz52 : siz Try.prog 52 = some 26 := by kernel_rfl
theorem ze52 : zer Try.prog 52 = some (.agg #[.int .i64 0, .int .u64 0, .int .u64 0, .int .u64 0, .int .u64 0, .int .u64 0, .int .u64 0, .int .u64 0, .int .i64 0, .int .i64 0, .int .u64 0, .int .u64 0, .int .u64 0, .int .u64 0, .int .u64 0, .int .u64 0, .int .u64 0, .int .u64 0, .int .u64 0, .int .u64 0, .int .u64 0, .int .u64 0, .int .u64 0, .int .u64 0, .int .u64 0, .int .u64 0]) := by kernel_rfl
theorem fl52_0 : fld Try.prog 52 0 = some 0 := by kernel_rfl
theorem fl52_1 : fld Try.prog 52 1 = some 1 := by kernel_rfl
theorem fl52_2 : fld Try.prog 52 2 = some 2 := by kernel_rfl
theorem fl52_3 : fld Try.prog 52 3 = some 3 := by kernel_rfl
theorem fl52_4 : fld Try.prog 52 4 = some 4 := by kernel_rfl
theorem fl52_5 : fld Try.prog 52 5 = some 5 := by kernel_rfl
theorem fl52_6 : fld Try.prog 52 6 = some 6 := by kernel_rfl
theorem fl52_7 : fld Try.prog 52 7 = some 7 := by kernel_rfl
theorem fl52_8 : fld Try.prog 52 8 = some 8 := by kernel_rfl
theorem fl52_9 : fld Try.prog 52 9 = some 9 := by kernel_rfl
theorem fl52_10 : fld Try.prog 52 10 = some 10 := by kernel_rfl
theorem fl52_11 : fld Try.prog 52 11 = some 11 := by kernel_rfl
theorem fl52_12 : fld Try.prog 52 12 = some 12 := by kernel_rfl
theorem fl52_13 : fld Try.prog 52 13 = some 13 := by kernel_rfl
theorem fl52_14 : fld Try.prog 52 14 = some 14 := by kernel_rfl
theorem fl52_15 : fld Try.prog 52 15 = some 15 := by kernel_rfl
theorem fl52_16 : fld Try.prog 52 16 = some 16 := by kernel_rfl
theorem fl52_17 : fld Try.prog 52 17 = some 17 := by kernel_rfl
theorem fl52_18 : fld Try.prog 52 18 = some 18 := by kernel_rfl
theorem fl52_19 : fld Try.prog 52 19 = some 19 := by kernel_rfl
theorem fl52_20 : fld Try.prog 52 20 = some 20 := by kernel_rfl
theorem fl52_21 : fld Try.prog 52 21 = some 21 := by kernel_rfl
theorem fl52_22 : fld Try.prog 52 22 = some 22 := by kernel_rfl
theorem fl52_23 : fld Try.prog 52 23 = some 23 := by kernel_rfl
theorem fl52_24 : fld Try.prog 52 24 = some 24 := by kernel_rfl
theorem fl52_25 : fld Try.prog 52 25 = some 25 := by kernel_rfl
theorem pl52 : places Try.prog 52 = some [(0, 1), (1, 1), (2, 1), (3, 1), (4, 1), (5, 1), (6, 1), (7, 1), (8, 1), (9, 1), (10, 1), (11, 1), (12, 1), (13, 1), (14, 1), (15, 1), (16, 1), (17, 1), (18, 1), (19, 1), (20, 1), (21, 1), (22, 1), (23, 1), (24, 1), (25, 1)] := by kernel_rfl
theorem ag53 : aggOf Try.prog 53 = some 26 := by kernel_rfl
theorem sz53 : siz Try.prog 53 = some 26 := by kernel_rfl
theorem ze53 : zer Try.prog 53 = some (.agg #[.int .i64 0, .int .u64 0, .int .u64 0, .int .u64 0, .int .u64 0, .int .u64 0, .int .u64 0, .int .u64 0, .int .i64 0, .int .i64 0, .int .u64 0, .int .u64 0, .int .u64 0, .int .u64 0, .int .u64 0, .int .u64 0, .int .u64 0, .int .u64 0, .int .u64 0, .int .u64 0, .int .u64 0, .int .u64 0, .int .u64 0, .int .u64 0, .int .u64 0, .int .u64 0]) := by kernel_rfl
theorem fl53_0 : fld Try.prog 53 0 = some 0 := by kernel_rfl
theorem fl53_1 : fld Try.prog 53 1 = some 1 := by kernel_rfl
theorem fl53_2 : fld Try.prog 53 2 = some 2 := by kernel_rfl
theorem fl53_3 : fld Try.prog 53 3 = some 3 := by kernel_rfl
theorem fl53_4 : fld Try.prog 53 4 = some 4 := by kernel_rfl
theorem fl53_5 : fld Try.prog 53 5 = some 5 := by kernel_rfl
theorem fl53_6 : fld Try.prog 53 6 = some 6 := by kernel_rfl
theorem fl53_7 : fld Try.prog 53 7 = some 7 := by kernel_rfl
theorem fl53_8 : fld Try.prog 53 8 = some 8 := by kernel_rfl
theorem fl53_9 : fld Try.prog 53 9 = some 9 := by kernel_rfl
theorem fl53_10 : fld Try.prog 53 10 = some 10 := by kernel_rfl
theorem fl53_11 : fld Try.prog 53 11 = some 11 := by kernel_rfl
theorem fl53_12 : fld Try.prog 53 12 = some 12 := by kernel_rfl
theorem fl53_13 : fld Try.prog 53 13 = some 13 := by kernel_rfl
theorem fl53_14 : fld Try.prog 53 14 = some 14 := by kernel_rfl
theorem fl53_15 : fld Try.prog 53 15 = some 15 := by kernel_rfl
theorem fl53_16 : fld Try.prog 53 16 = some 16 := by kernel_rfl
theorem fl53_17 : fld Try.prog 53 17 = some 17 := by kernel_rfl
theorem fl53_18 : fld Try.prog 53 18 = some 18 := by kernel_rfl
theorem fl53_19 : fld Try.prog 53 19 = some 19 := by kernel_rfl
theorem fl53_20 : fld Try.prog 53 20 = some 20 := by kernel_rfl
theorem fl53_21 : fld Try.prog 53 21 = some 21 := by kernel_rfl
theorem fl53_22 : fld Try.prog 53 22 = some 22 := by kernel_rfl
theorem fl53_23 : fld Try.prog 53 23 = some 23 := by kernel_rfl
theorem fl53_24 : fld Try.prog 53 24 = some 24 := by kernel_rfl
theorem fl53_25 : fld Try.prog 53 25 = some 25 := by kernel_rfl
theorem pl53 : places Try.prog 53 = some [(0, 1), (1, 1), (2, 1), (3, 1), (4, 1), (5, 1), (6, 1), (7, 1), (8, 1), (9, 1), (10, 1), (11, 1), (12, 1), (13, 1), (14, 1), (15, 1), (16, 1), (17, 1), (18, 1), (19, 1), (20, 1), (21, 1), (22, 1), (23, 1), (24, 1), (25, 1)] := by kernel_rfl
theorem sc54 : scal Try.prog 54 = true := by kernel_rfl
theorem sz54 : siz Try.prog 54 = some 1 := by kernel_rfl
theorem ze54 : zer Try.prog 54 = some (.int .i64 0) := by kernel_rfl
theorem sc59 : scal Try.prog 59 = true := by kernel_rfl
theorem sz59 : siz Try.prog 59 = some 1 := by kernel_rfl
theorem ze59 : zer Try.prog 59 = some (.slice none 0 0) := by kernel_rfl
theorem se59 : selt Try.prog 59 = some (27, 1) := by kernel_rfl
theorem sc80 : scal Try.prog 80 = true := by kernel_rfl
theorem sz80 : siz Try.prog 80 = some 1 := by kernel_rfl
theorem ze80 : zer Try.prog 80 = some (.int .u32 0) := by kernel_rfl
theorem sc81 : scal Try.prog 81 = true := by kernel_rfl
theorem sz81 : siz Try.prog 81 = some 1 := by kernel_rfl
theorem ze81 : zer Try.prog 81 = some (.int .u64 0) := by kernel_rfl
theorem ag87 : aggOf Try.prog 87 = some 2 := by kernel_rfl
theorem sz87 : siz Try.prog 87 = some 2 := by kernel_rfl
theorem ze87 : zer Try.prog 87 = some (.agg #[.int .i64 0, .int .u64 0]) := by kernel_rfl
theorem fl87_0 : fld Try.prog 87 0 = some 0 := by kernel_rfl
theorem fl87_1 : fld Try.prog 87 1 = some 1 := by kernel_rfl
theorem pl87 : places Try.prog 87 = some [(0, 1), (1, 1)] := by kernel_rfl
theorem ag88 : aggOf Try.prog 88 = some 2 := by kernel_rfl
theorem sz88 : siz Try.prog 88 = some 2 := by kernel_rfl
theorem ze88 : zer Try.prog 88 = some (.agg #[.int .i64 0, .int .u64 0]) := by kernel_rfl
theorem fl88_0 : fld Try.prog 88 0 = some 0 := by kernel_rfl
theorem fl88_1 : fld Try.prog 88 1 = some 1 := by kernel_rfl
theorem pl88 : places Try.prog 88 = some [(0, 1), (1, 1)] := by kernel_rfl
theorem ag95 : aggOf Try.prog 95 = some 2 := by kernel_rfl
theorem sz95 : siz Try.prog 95 = some 2 := by kernel_rfl
theorem ze95 : zer Try.prog 95 = some (.agg #[.int .u64 0, .int .u64 0]) := by kernel_rfl
theorem ae95 : aelt Try.prog 95 = some (2, 27, 1) := by kernel_rfl
theorem sc96 : scal Try.prog 96 = true := by kernel_rfl
theorem sz96 : siz Try.prog 96 = some 1 := by kernel_rfl
theorem ze96 : zer Try.prog 96 = some (.slice none 0 0) := by kernel_rfl
theorem se96 : selt Try.prog 96 = some (95, 2) := by kernel_rfl
theorem sc101 : scal Try.prog 101 = true := by kernel_rfl
theorem sz101 : siz Try.prog 101 = some 1 := by kernel_rfl
theorem ze101 : zer Try.prog 101 = some (.slice none 0 0) := by kernel_rfl
theorem se101 : selt Try.prog 101 = some (88, 2) := by kernel_rfl
theorem ag105 : aggOf Try.prog 105 = some 25 := by kernel_rfl
theorem sz105 : siz Try.prog 105 = some 25 := by kernel_rfl
theorem ze105 : zer Try.prog 105 = some (.agg #[.int .u64 0, .int .u64 0, .int .u64 0, .int .u64 0, .int .u64 0, .int .u64 0, .int .u64 0, .int .u64 0, .int .u64 0, .int .u64 0, .int .u64 0, .int .u64 0, .int .u64 0, .int .u64 0, .int .u64 0, .int .u64 0, .int .u64 0, .int .u64 0, .int .u64 0, .int .u64 0, .int .u64 0, .int .u64 0, .int .u64 0, .int .u64 0, .int .u64 0]) := by kernel_rfl
theorem ae105 : aelt Try.prog 105 = some (25, 27, 1) := by kernel_rfl
theorem sc107 : scal Try.prog 107 = true := by kernel_rfl
theorem sz107 : siz Try.prog 107 = some 1 := by kernel_rfl
theorem ze107 : zer Try.prog 107 = some (.pointer none) := by kernel_rfl
theorem ag109 : aggOf Try.prog 109 = some 25 := by kernel_rfl
theorem sz109 : siz Try.prog 109 = some 25 := by kernel_rfl
theorem ze109 : zer Try.prog 109 = some (.agg #[.int .u64 0, .int .u64 0, .int .u64 0, .int .u64 0, .int .u64 0, .int .u64 0, .int .u64 0, .int .u64 0, .int .u64 0, .int .u64 0, .int .u64 0, .int .u64 0, .int .u64 0, .int .u64 0, .int .u64 0, .int .u64 0, .int .u64 0, .int .u64 0, .int .u64 0, .int .u64 0, .int .u64 0, .int .u64 0, .int .u64 0, .int .u64 0, .int .u64 0]) := by kernel_rfl
theorem ae109 : aelt Try.prog 109 = some (25, 27, 1) := by kernel_rfl
theorem ag110 : aggOf Try.prog 110 = some 26 := by kernel_rfl
theorem sz110 : siz Try.prog 110 = some 26 := by kernel_rfl
theorem ze110 : zer Try.prog 110 = some (.agg #[.int .u64 0, .int .u64 0, .int .u64 0, .int .u64 0, .int .u64 0, .int .u64 0, .int .u64 0, .int .u64 0, .int .u64 0, .int .u64 0, .int .u64 0, .int .u64 0, .int .u64 0, .int .u64 0, .int .u64 0, .int .u64 0, .int .u64 0, .int .u64 0, .int .u64 0, .int .u64 0, .int .u64 0, .int .u64 0, .int .u64 0, .int .u64 0, .int .u64 0, .slice none 0 0]) := by kernel_rfl
theorem fl110_0 : fld Try.prog 110 0 = some 0 := by kernel_rfl
theorem fl110_1 : fld Try.prog 110 1 = some 25 := by kernel_rfl
theorem pl110 : places Try.prog 110 = some [(0, 25), (25, 1)] := by kernel_rfl
theorem ag111 : aggOf Try.prog 111 = some 26 := by kernel_rfl
theorem sz111 : siz Try.prog 111 = some 26 := by kernel_rfl
theorem ze111 : zer Try.prog 111 = some (.agg #[.int .u64 0, .int .u64 0, .int .u64 0, .int .u64 0, .int .u64 0, .int .u64 0, .int .u64 0, .int .u64 0, .int .u64 0, .int .u64 0, .int .u64 0, .int .u64 0, .int .u64 0, .int .u64 0, .int .u64 0, .int .u64 0, .int .u64 0, .int .u64 0, .int .u64 0, .int .u64 0, .int .u64 0, .int .u64 0, .int .u64 0, .int .u64 0, .int .u64 0, .slice none 0 0]) := by kernel_rfl
theorem fl111_0 : fld Try.prog 111 0 = some 0 := by kernel_rfl
theorem fl111_1 : fld Try.prog 111 1 = some 25 := by kernel_rfl
theorem pl111 : places Try.prog 111 = some [(0, 25), (25, 1)] := by kernel_rfl
theorem ag114 : aggOf Try.prog 114 = some 5 := by kernel_rfl
theorem sz114 : siz Try.prog 114 = some 5 := by kernel_rfl
theorem ze114 : zer Try.prog 114 = some (.agg #[.int .u64 0, .int .u64 0, .int .u64 0, .int .u64 0, .int .u64 0]) := by kernel_rfl
theorem ae114 : aelt Try.prog 114 = some (5, 27, 1) := by kernel_rfl
theorem sc117 : scal Try.prog 117 = true := by kernel_rfl
theorem sz117 : siz Try.prog 117 = some 1 := by kernel_rfl
theorem ze117 : zer Try.prog 117 = some (.pointer none) := by kernel_rfl
theorem ag118 : aggOf Try.prog 118 = some 136 := by kernel_rfl
theorem sz118 : siz Try.prog 118 = some 136 := by kernel_rfl
theorem ae118 : aelt Try.prog 118 = some (136, 5, 1) := by kernel_rfl
theorem sc119 : scal Try.prog 119 = true := by kernel_rfl
theorem sz119 : siz Try.prog 119 = some 1 := by kernel_rfl
theorem ze119 : zer Try.prog 119 = some (.nilIface) := by kernel_rfl
theorem sc120 : scal Try.prog 120 = true := by kernel_rfl
theorem sz120 : siz Try.prog 120 = some 1 := by kernel_rfl
theorem ze120 : zer Try.prog 120 = some (.nilIface) := by kernel_rfl
theorem ag121 : aggOf Try.prog 121 = some 24 := by kernel_rfl
theorem sz121 : siz Try.prog 121 = some 24 := by kernel_rfl
theorem ze121 : zer Try.prog 121 = some (.agg #[.int .u64 0, .int .u64 0, .int .u64 0, .int .u64 0, .int .u64 0, .int .u64 0, .int .u64 0, .int .u64 0, .int .u64 0, .int .u64 0, .int .u64 0, .int .u64 0, .int .u64 0, .int .u64 0, .int .u64 0, .int .u64 0, .int .u64 0, .int .u64 0, .int .u64 0, .int .u64 0, .int .u64 0, .int .u64 0, .int .u64 0, .int .u64 0]) := by kernel_rfl
theorem ae121 : aelt Try.prog 121 = some (24, 27, 1) := by kernel_rfl
theorem sc123 : scal Try.prog 123 = true := by kernel_rfl
theorem sz123 : siz Try.prog 123 = some 1 := by kernel_rfl
theorem ze123 : zer Try.prog 123 = some (.pointer none) := by kernel_rfl
theorem ag125 : aggOf Try.prog 125 = some 4 := by kernel_rfl
theorem sz125 : siz Try.prog 125 = some 4 := by kernel_rfl
theorem ze125 : zer Try.prog 125 = some (.agg #[.pointer none, .pointer none, .pointer none, str []]) := by kernel_rfl
theorem fl125_0 : fld Try.prog 125 0 = some 0 := by kernel_rfl
theorem fl125_1 : fld Try.prog 125 1 = some 1 := by kernel_rfl
theorem fl125_2 : fld Try.prog 125 2 = some 2 := by kernel_rfl
theorem fl125_3 : fld Try.prog 125 3 = some 3 := by kernel_rfl
theorem pl125 : places Try.prog 125 = some [(0, 1), (1, 1), (2, 1), (3, 1)] := by kernel_rfl
theorem ag126 : aggOf Try.prog 126 = some 4 := by kernel_rfl
theorem sz126 : siz Try.prog 126 = some 4 := by kernel_rfl
theorem ze126 : zer Try.prog 126 = some (.agg #[.pointer none, .pointer none, .pointer none, str []]) := by kernel_rfl
theorem fl126_0 : fld Try.prog 126 0 = some 0 := by kernel_rfl
theorem fl126_1 : fld Try.prog 126 1 = some 1 := by kernel_rfl
theorem fl126_2 : fld Try.prog 126 2 = some 2 := by kernel_rfl
theorem fl126_3 : fld Try.prog 126 3 = some 3 := by kernel_rfl
theorem pl126 : places Try.prog 126 = some [(0, 1), (1, 1), (2, 1), (3, 1)] := by kernel_rfl
theorem ag127 : aggOf Try.prog 127 = some 0 := by kernel_rfl
theorem sz127 : siz Try.prog 127 = some 0 := by kernel_rfl
theorem ze127 : zer Try.prog 127 = some (.agg #[]) := by kernel_rfl
theorem ae127 : aelt Try.prog 127 = some (0, 16, 1) := by kernel_rfl
theorem ag128 : aggOf Try.prog 128 = some 0 := by kernel_rfl
theorem sz128 : siz Try.prog 128 = some 0 := by kernel_rfl
theorem ze128 : zer Try.prog 128 = some (.agg #[]) := by kernel_rfl
theorem pl128 : places Try.prog 128 = some [(0, 0)] := by kernel_rfl
theorem ag129 : aggOf Try.prog 129 = some 0 := by kernel_rfl
theorem sz129 : siz Try.prog 129 = some 0 := by kernel_rfl
theorem ze129 : zer Try.prog 129 = some (.agg #[]) := by kernel_rfl
theorem pl129 : places Try.prog 129 = some [(0, 0)] := by kernel_rfl
theorem sc131 : scal Try.prog 131 = true := by kernel_rfl
theorem sz131 : siz Try.prog 131 = some 1 := by kernel_rfl
theorem ze131 : zer Try.prog 131 = some (.int .u8 0) := by kernel_rfl
theorem sc132 : scal Try.prog 132 = true := by kernel_rfl
theorem sz132 : siz Try.prog 132 = some 1 := by kernel_rfl
theorem ze132 : zer Try.prog 132 = some (.int .u8 0) := by kernel_rfl
theorem sc134 : scal Try.prog 134 = true := by kernel_rfl
theorem sz134 : siz Try.prog 134 = some 1 := by kernel_rfl
theorem ze134 : zer Try.prog 134 = some (.pointer none) := by kernel_rfl
theorem sc135 : scal Try.prog 135 = true := by kernel_rfl
theorem sz135 : siz Try.prog 135 = some 1 := by kernel_rfl
theorem ze135 : zer Try.prog 135 = some (.int .i32 0) := by kernel_rfl
theorem sc136 : scal Try.prog 136 = true := by kernel_rfl
theorem sz136 : siz Try.prog 136 = some 1 := by kernel_rfl
theorem ze136 : zer Try.prog 136 = some (.int .i32 0) := by kernel_rfl
theorem ag137 : aggOf Try.prog 137 = some 11 := by kernel_rfl
theorem sz137 : siz Try.prog 137 = some 11 := by kernel_rfl
theorem ze137 : zer Try.prog 137 = some (.agg #[.int .u64 0, .int .u64 0, .int .u32 0, .int .u8 0, .int .u8 0, .int .u8 0, .int .u8 0, .nilFunc, .pointer none, .int .i32 0, .int .i32 0]) := by kernel_rfl
theorem fl137_0 : fld Try.prog 137 0 = some 0 := by kernel_rfl
theorem fl137_1 : fld Try.prog 137 1 = some 1 := by kernel_rfl
theorem fl137_2 : fld Try.prog 137 2 = some 2 := by kernel_rfl
theorem fl137_3 : fld Try.prog 137 3 = some 3 := by kernel_rfl
theorem fl137_4 : fld Try.prog 137 4 = some 4 := by kernel_rfl
theorem fl137_5 : fld Try.prog 137 5 = some 5 := by kernel_rfl
theorem fl137_6 : fld Try.prog 137 6 = some 6 := by kernel_rfl
theorem fl137_7 : fld Try.prog 137 7 = some 7 := by kernel_rfl
theorem fl137_8 : fld Try.prog 137 8 = some 8 := by kernel_rfl
theorem fl137_9 : fld Try.prog 137 9 = some 9 := by kernel_rfl
theorem fl137_10 : fld Try.prog 137 10 = some 10 := by kernel_rfl
theorem pl137 : places Try.prog 137 = some [(0, 1), (1, 1), (2, 1), (3, 1), (4, 1), (5, 1), (6, 1), (7, 1), (8, 1), (9, 1), (10, 1)] := by kernel_rfl
theorem ag138 : aggOf Try.prog 138 = some 11 := by kernel_rfl
theorem sz138 : siz Try.prog 138 = some 11 := by kernel_rfl
theorem ze138 : zer Try.prog 138 = some (.agg #[.int .u64 0, .int .u64 0, .int .u32 0, .int .u8 0, .int .u8 0, .int .u8 0, .int .u8 0, .nilFunc, .pointer none, .int .i32 0, .int .i32 0]) := by kernel_rfl
theorem fl138_0 : fld Try.prog 138 0 = some 0 := by kernel_rfl
theorem fl138_1 : fld Try.prog 138 1 = some 1 := by kernel_rfl
theorem fl138_2 : fld Try.prog 138 2 = some 2 := by kernel_rfl
theorem fl138_3 : fld Try.prog 138 3 = some 3 := by kernel_rfl
theorem fl138_4 : fld Try.prog 138 4 = some 4 := by kernel_rfl
theorem fl138_5 : fld Try.prog 138 5 = some 5 := by kernel_rfl
theorem fl138_6 : fld Try.prog 138 6 = some 6 := by kernel_rfl
theorem fl138_7 : fld Try.prog 138 7 = some 7 := by kernel_rfl
theorem fl138_8 : fld Try.prog 138 8 = some 8 := by kernel_rfl
theorem fl138_9 : fld Try.prog 138 9 = some 9 := by kernel_rfl
theorem fl138_10 : fld Try.prog 138 10 = some 10 := by kernel_rfl
theorem pl138 : places Try.prog 138 = some [(0, 1), (1, 1), (2, 1), (3, 1), (4, 1), (5, 1), (6, 1), (7, 1), (8, 1), (9, 1), (10, 1)] := by kernel_rfl
theorem ag139 : aggOf Try.prog 139 = some 1 := by kernel_rfl
theorem sz139 : siz Try.prog 139 = some 1 := by kernel_rfl
theorem ze139 : zer Try.prog 139 = some (.agg #[str []]) := by kernel_rfl
theorem fl139_0 : fld Try.prog 139 0 = some 0 := by kernel_rfl
theorem pl139 : places Try.prog 139 = some [(0, 1)] := by kernel_rfl
theorem ag140 : aggOf Try.prog 140 = some 1 := by kernel_rfl
theorem sz140 : siz Try.prog 140 = some 1 := by kernel_rfl
theorem ze140 : zer Try.prog 140 = some (.agg #[str []]) := by kernel_rfl
theorem fl140_0 : fld Try.prog 140 0 = some 0 := by kernel_rfl
theorem pl140 : places Try.prog 140 = some [(0, 1)] := by kernel_rfl
theorem sc141 : scal Try.prog 141 = true := by kernel_rfl
theorem sz141 : siz Try.prog 141 = some 1 := by kernel_rfl
theorem te5 : ElemInfo Try.prog 5 (.int .u8 0) 1 1 := elem_of (by kernel_rfl) rfl (by decide)
theorem te27 : ElemInfo Try.prog 27 (.int .u64 0) 1 8 := elem_of (by kernel_rfl) rfl (by decide)
theorem te80 : ElemInfo Try.prog 80 (.int .u32 0) 1 4 := elem_of (by kernel_rfl) rfl (by decide)
theorem te88 : ElemInfo Try.prog 88 (.agg #[.int .i64 0, .int .u64 0]) 2 16 := elem_of (by kernel_rfl) rfl (by decide)
theorem te95 : ElemInfo Try.prog 95 (.agg #[.int .u64 0, .int .u64 0]) 2 16 := elem_of (by kernel_rfl) rfl (by decide)
end Go.Proofs.Ytbmlhdecnfplaaa
/- Cells of numbers: what is set and what is zero. No condition. -/
namespace Go.Proofs.Ytbmlhdecnfplaaa
set_option linter.unusedVariables false
set_option linter.unusedSimpArgs false
open Go Go.RowKit
theorem set_u64s (l : List UInt64) (i : Nat) (x : UInt64) : (u64s l).set i (.int .u64 (x.toNat : Int)) = u64s (l.set i x) := by simp [u64s, List.map_set, vl]
theorem set_u8s (l : List UInt8) (i : Nat) (x : UInt8) : (u8s l).set i (.int .u8 (x.toNat : Int)) = u8s (l.set i x) := by simp [u8s, List.map_set, vb]
theorem set_u32s (l : List UInt32) (i : Nat) (x : UInt32) : (u32s l).set i (.int .u32 (x.toNat : Int)) = u32s (l.set i x) := by simp [u32s, List.map_set, vd]
theorem zero_u64s (m : Nat) : List.replicate m (Value.int .u64 0) = u64s (List.replicate m 0) := by simp [u64s, vl]
theorem zero_u8s (m : Nat) : List.replicate m (Value.int .u8 0) = u8s (List.replicate m 0) := by simp [u8s, vb]
theorem zero_u32s (m : Nat) : List.replicate m (Value.int .u32 0) = u32s (List.replicate m 0) := by simp [u32s, vd]
theorem ofNat_shl (x : UInt8) (m : Nat) : shl64 (UInt64.ofNat x.toNat) m = UInt64.ofNat (x.toNat * 2 ^ m) := by
  unfold shl64
  rw [UInt64.toNat_ofNat', Nat.mod_eq_of_lt (by have := x.toNat_lt; omega)]
end Go.Proofs.Ytbmlhdecnfplaaa
/- Plain laws: sums, differences and products of limbs, as package math/bits reckons them. No condition. -/
namespace Go.Proofs.Ytbmlhdecnfplaaa
set_option linter.unusedVariables false
set_option linter.unusedSimpArgs false
open Go Go.RowKit
/-- The sum and what is carried. -/
def addS (x y c : UInt64) : UInt64 := UInt64.ofNat ((x.toNat + y.toNat + c.toNat) % 2 ^ 64)
def addC (x y c : UInt64) : UInt64 := UInt64.ofNat ((x.toNat + y.toNat + c.toNat) / 2 ^ 64)
theorem addS_nat (x y c : UInt64) : (addS x y c).toNat = (x.toNat + y.toNat + c.toNat) % 2 ^ 64 := by rw [addS, UInt64.toNat_ofNat', Nat.mod_mod]
theorem addC_nat (x y c : UInt64) (hc : c.toNat ≤ 1) : (addC x y c).toNat = (x.toNat + y.toNat + c.toNat) / 2 ^ 64 := by
  have hx := x.toNat_lt
  have hy := y.toNat_lt
  rw [addC, UInt64.toNat_ofNat', Nat.mod_eq_of_lt]
  omega
theorem add64_law (x y c : UInt64) (hc : c.toNat ≤ 1) : (addS x y c).toNat + (addC x y c).toNat * 2 ^ 64 = x.toNat + y.toNat + c.toNat ∧ (addC x y c).toNat ≤ 1 := by
  have hx := x.toNat_lt
  have hy := y.toNat_lt
  rw [addS_nat, addC_nat _ _ _ hc]
  constructor <;> omega
/-- The difference and what is borrowed. -/
def subS (x y c : UInt64) : UInt64 := UInt64.ofNat ((x.toNat + 2 ^ 64 - y.toNat - c.toNat) % 2 ^ 64)
def subC (x y c : UInt64) : UInt64 := if x.toNat < y.toNat + c.toNat then 1 else 0
theorem subS_nat (x y c : UInt64) : (subS x y c).toNat = (x.toNat + 2 ^ 64 - y.toNat - c.toNat) % 2 ^ 64 := by rw [subS, UInt64.toNat_ofNat', Nat.mod_mod]
theorem subC_nat (x y c : UInt64) : (subC x y c).toNat = if x.toNat < y.toNat + c.toNat then 1 else 0 := by
  unfold subC; split <;> rfl
theorem sub64_law (x y c : UInt64) (hc : c.toNat ≤ 1) : (subS x y c).toNat + y.toNat + c.toNat = x.toNat + (subC x y c).toNat * 2 ^ 64 ∧ (subC x y c).toNat ≤ 1 := by
  have hx := x.toNat_lt
  have hy := y.toNat_lt
  rw [subS_nat, subC_nat]
  split <;> constructor <;> omega
/-- The product's upper half. -/
def mulH (x y : UInt64) : UInt64 := UInt64.ofNat (x.toNat * y.toNat / 2 ^ 64)
theorem mul_lt64 (x y : UInt64) : x.toNat * y.toNat < 2 ^ 64 * 2 ^ 64 := Nat.mul_lt_mul'' x.toNat_lt y.toNat_lt
theorem mul64_law (x y : UInt64) : (mulH x y).toNat * 2 ^ 64 + (x * y).toNat = x.toNat * y.toNat := by
  have h := mul_lt64 x y
  rw [mulH, UInt64.toNat_ofNat', UInt64.toNat_mul, Nat.mod_eq_of_lt (Nat.div_lt_of_lt_mul h)]
  exact Nat.div_add_mod' _ _
/-- As the text reckons it. -/
theorem mulH_eq (x y : UInt64) :
    shr64 x 32 * shr64 y 32 + shr64 (shr64 x 32 * (y &&& 4294967295) + shr64 ((x &&& 4294967295) * (y &&& 4294967295)) 32) 32 +
      shr64 ((shr64 x 32 * (y &&& 4294967295) + shr64 ((x &&& 4294967295) * (y &&& 4294967295)) 32 &&& 4294967295) + (x &&& 4294967295) * shr64 y 32) 32 = mulH x y := by
  have hx := x.toNat_lt
  have hy := y.toNat_lt
  obtain ⟨h1, h2, h3, h4⟩ := Lib.mul64_hi x.toNat y.toNat hx hy
  have hand : ∀ z : UInt64, (z &&& 4294967295).toNat = z.toNat % 4294967296 := fun z => by
    rw [UInt64.toNat_and]; exact Nat.and_two_pow_sub_one_eq_mod z.toNat 32
  have hshr : ∀ z : UInt64, (shr64 z 32).toNat = z.toNat / 4294967296 := fun z => by
    rw [shr64, UInt64.toNat_ofNat']; have := z.toNat_lt; omega
  apply UInt64.toNat_inj.1
  have hm : (mulH x y).toNat = x.toNat * y.toNat / 18446744073709551616 := by
    have h := mul_lt64 x y
    rw [mulH, UInt64.toNat_ofNat', Nat.mod_eq_of_lt (Nat.div_lt_of_lt_mul h)]
  have hm2 := (mulH x y).toNat_lt
  rw [hm] at hm2 ⊢
  simp only [UInt64.toNat_add, UInt64.toNat_mul, hand, hshr]
  rw [← h4] at hm2 ⊢
  rw [Nat.mod_eq_of_lt h1]
  have p1 := Lib.half_mul_le (a := x.toNat / 4294967296) (b := y.toNat / 4294967296) (by omega) (by omega)
  have p2 := Lib.half_mul_le (a := x.toNat / 4294967296) (b := y.toNat % 4294967296) (by omega) (by omega)
  have p3 := Lib.half_mul_le (a := x.toNat % 4294967296) (b := y.toNat / 4294967296) (by omega) (by omega)
  have p4 := Lib.half_mul_le (a := x.toNat % 4294967296) (b := y.toNat % 4294967296) (by omega) (by omega)
  generalize x.toNat / 4294967296 * (y.toNat / 4294967296) = a at *
  generalize x.toNat / 4294967296 * (y.toNat % 4294967296) = b at *
  generalize x.toNat % 4294967296 * (y.toNat / 4294967296) = c at *
  generalize x.toNat % 4294967296 * (y.toNat % 4294967296) = d at *
  omega
end Go.Proofs.Ytbmlhdecnfplaaa
/- Plain law: a number of two limbs divided by one limb, as package math/bits reckons it. No condition. -/
namespace Go.Proofs.Ytbmlhdecnfplaaa
set_option linter.unusedVariables false
set_option linter.unusedSimpArgs false
/-- A guess of the quotient's digit, and what it leaves of the upper digits. -/
def DInv (R u1 y1 y0 q rh : Nat) : Prop := rh + q * y1 = R ∧ rh * 4294967296 + u1 < q * y0 + y1 * 4294967296 + y0 ∧ q ≤ 4294967297
theorem d_start {R u1 y1 y0 : Nat} (hR : R < y1 * 4294967296 + y0) (h1 : 2147483648 ≤ y1) (h0 : y0 < 4294967296) (hu : u1 < 4294967296) : DInv R u1 y1 y0 (R / y1) (R - R / y1 * y1) := by
  have hy : 0 < y1 := by omega
  have e := Nat.div_add_mod R y1
  have hm := Nat.mod_lt R hy
  have hq : R / y1 ≤ 4294967297 := by
    rw [Nat.div_le_iff_le_mul_add_pred hy]; omega
  rw [Nat.mul_comm] at e
  have hrh : R - R / y1 * y1 = R % y1 := by omega
  rw [hrh]
  refine ⟨by omega, ?_, hq⟩
  have : R % y1 * 4294967296 + 4294967296 ≤ y1 * 4294967296 := by
    have := Nat.mul_le_mul_right 4294967296 (show R % y1 + 1 ≤ y1 by omega)
    omega
  omega
theorem d_gt {R u1 y1 y0 q rh : Nat} (h : DInv R u1 y1 y0 q rh) (hR : R < y1 * 4294967296 + y0) (hu : u1 < 4294967296) (hq : 4294967296 ≤ q) : rh * 4294967296 + u1 < q * y0 := by
  obtain ⟨a, b, c⟩ := h
  have h1 : R * 4294967296 + 4294967296 ≤ (y1 * 4294967296 + y0) * 4294967296 := by
    have := Nat.mul_le_mul_right 4294967296 (show R + 1 ≤ y1 * 4294967296 + y0 by omega)
    omega
  have h2 : (y1 * 4294967296 + y0) * 4294967296 ≤ q * (y1 * 4294967296 + y0) := by
    rw [Nat.mul_comm]; exact Nat.mul_le_mul_right _ hq
  rw [Nat.mul_add, ← Nat.mul_assoc] at h2
  have h3 : R * 4294967296 = rh * 4294967296 + q * y1 * 4294967296 := by rw [← a, Nat.add_mul]
  omega
theorem more_nat {A Z u1 S y0 : Nat} (h : A + u1 < S + y0) : A + Z + u1 < S + Z + y0 := by omega
theorem d_more {R u1 y1 y0 q rh : Nat} (h : DInv R u1 y1 y0 q rh) (hgt : rh * 4294967296 + u1 < q * y0) : 0 < q ∧ DInv R u1 y1 y0 (q - 1) (rh + y1) ∧ q - 1 ≤ 4294967296 := by
  obtain ⟨a, b, c⟩ := h
  have hq : 0 < q := by
    rcases Nat.eq_zero_or_pos q with h | h
    · rw [h, Nat.zero_mul] at hgt; omega
    · exact h
  obtain ⟨p, rfl⟩ : ∃ p, q = p + 1 := ⟨q - 1, by omega⟩
  rw [Nat.add_sub_cancel]
  rw [Nat.add_mul, Nat.one_mul] at a b hgt
  refine ⟨hq, ⟨by omega, ?_, by omega⟩, by omega⟩
  rw [Nat.add_mul]
  exact more_nat hgt
theorem d_at {R u1 y1 y0 q rh : Nat} (h : DInv R u1 y1 y0 q rh) (hle : q * y0 ≤ rh * 4294967296 + u1) (hy : 0 < y1) : q = (R * 4294967296 + u1) / (y1 * 4294967296 + y0) := by
  obtain ⟨a, b, c⟩ := h
  have h3 : R * 4294967296 = rh * 4294967296 + q * y1 * 4294967296 := by rw [← a, Nat.add_mul]
  symm
  rw [Nat.div_eq_iff (by omega)]
  rw [Nat.mul_add, ← Nat.mul_assoc]
  omega
theorem d_brk {R u1 y1 y0 q rh : Nat} (h : DInv R u1 y1 y0 q rh) (hq : q ≤ 4294967296) (hrh : 4294967296 ≤ rh) (h0 : y0 < 4294967296) (hy : 0 < y1) : q = (R * 4294967296 + u1) / (y1 * 4294967296 + y0) := by
  refine d_at h ?_ hy
  have h1 : q * y0 ≤ 4294967296 * y0 := Nat.mul_le_mul_right _ hq
  have h2 : 4294967296 * y0 ≤ rh * 4294967296 := by rw [Nat.mul_comm]; exact Nat.mul_le_mul_right _ (by omega)
  exact Nat.le_trans (Nat.le_trans h1 h2) (Nat.le_add_right _ _)
/-- Two digits. -/
theorem add_rot (a b c : Nat) : a + b + c = b + c + a := by omega
theorem d_two0 {T u0 Y : Nat} (hY : 0 < Y) :
    (T / Y * 4294967296 + (T % Y * 4294967296 + u0) / Y) = (T * 4294967296 + u0) / Y ∧ (T % Y * 4294967296 + u0) % Y = (T * 4294967296 + u0) % Y := by
  have e := Nat.div_add_mod T Y
  have e2 : T * 4294967296 + u0 = (T % Y * 4294967296 + u0) + Y * (T / Y * 4294967296) := by
    conv => lhs; rw [← e]
    rw [Nat.add_mul, Nat.mul_assoc]; exact add_rot _ _ _
  constructor
  · rw [e2, Nat.add_mul_div_left _ _ hY, Nat.add_comm]
  · rw [e2, Nat.add_mul_mod_self_left]
theorem d_two {R u1 u0 Y : Nat} (hY : 0 < Y) :
    ((R * 4294967296 + u1) / Y * 4294967296 + ((R * 4294967296 + u1) % Y * 4294967296 + u0) / Y) = ((R * 4294967296 + u1) * 4294967296 + u0) / Y ∧
    ((R * 4294967296 + u1) % Y * 4294967296 + u0) % Y = ((R * 4294967296 + u1) * 4294967296 + u0) % Y := d_two0 hY
theorem d_low {T Y q B : Nat} (hq : q = T / Y) (hY : 0 < Y) (hB : Y ≤ B) (a b : Nat) (ha : a % B = T % B) (hb : b % B = q * Y % B) : (B + a % B - b % B) % B = T % Y := by
  have e := Nat.div_add_mod T Y
  have hm := Nat.mod_lt T hY
  rw [ha, hb]
  have e2 : T = T % Y + q * Y := by rw [hq, Nat.mul_comm]; omega
  have hB0 : 0 < B := by omega
  have h1 := Nat.mod_lt (q * Y) hB0
  generalize hr : T % Y = r at *
  rw [e2]
  have e3 : (r + q * Y) % B = (r + q * Y % B) % B := by rw [Nat.add_mod_mod]
  rw [e3]
  generalize q * Y % B = c at *
  by_cases hc : r + c < B
  · rw [Nat.mod_eq_of_lt hc, show B + (r + c) - c = r + B by omega, Nat.add_mod_right, Nat.mod_eq_of_lt (by omega)]
  · rw [Nat.mod_eq_sub_mod (show r + c ≥ B by omega), Nat.mod_eq_of_lt (show r + c - B < B by omega), show B + (r + c - B) - c = r by omega, Nat.mod_eq_of_lt (by omega)]
end Go.Proofs.Ytbmlhdecnfplaaa
/- Plain law: what limb.From's loop builds. No condition. -/
namespace Go.Proofs.Ytbmlhdecnfplaaa
set_option linter.unusedVariables false
set_option linter.unusedSimpArgs false
/-- One round of limb.From. -/
def fromStep (l : List UInt8) (k : Nat) (a : List UInt64) : List UInt64 :=
  a.set ((l.length - 1 - k) / 8) (a.getD ((l.length - 1 - k) / 8) 0 ||| (UInt64.ofNat ((l.getD k 0).toNat * 2 ^ ((l.length - 1 - k) % 8 * 8))))
def fromSt (l : List UInt8) : Nat → List UInt64
  | 0 => List.replicate ((l.length + 7) / 8) 0
  | k+1 => fromStep l k (fromSt l k)
theorem length_fromSt (l : List UInt8) (k : Nat) : (fromSt l k).length = (l.length + 7) / 8 := by
  induction k with
  | zero => simp [fromSt]
  | succ k ih => simp [fromSt, fromStep, ih]
theorem v64_set {a : List UInt64} {i : Nat} {y : UInt64} (h : i < a.length) : v64 (a.set i y) + a[i].toNat * 2 ^ (64 * i) = v64 a + y.toNat * 2 ^ (64 * i) := by
  have := val_set (2 ^ 64) (n64 a) i y.toNat (by simpa using h)
  simp only [v64, n64, List.map_set, List.getElem_map] at this ⊢
  rw [← Nat.pow_mul] at this
  exact this
theorem limb_v64 {a : List UInt64} {i : Nat} (h : i < a.length) : v64 a / 2 ^ (64 * i) % 2 ^ 64 = a[i].toNat := by
  have := val_div_mod (B := 2 ^ 64) (by decide) (n64_lt a) i (by simpa using h)
  rw [← Nat.pow_mul] at this
  simpa [v64, n64] using this
theorem be_take_succ (l : List UInt8) (k : Nat) (h : k < l.length) : be (l.take (k + 1)) = be (l.take k) * 256 + l[k].toNat := by
  rw [List.take_succ_eq_append_getElem h, be_snoc]
theorem v64_fromSt (l : List UInt8) (k : Nat) (hk : k ≤ l.length) : v64 (fromSt l k) = be (l.take k) * 256 ^ (l.length - k) := by
  induction k with
  | zero => simp [fromSt, v64_replicate, be]
  | succ k ih =>
    have hlt : k < l.length := by omega
    have ih := ih (by omega)
    have hat : (l.length - 1 - k) / 8 < (fromSt l k).length := by rw [length_fromSt]; omega
    have hs := v64_set (a := fromSt l k) (i := (l.length - 1 - k) / 8) (y := (fromSt l k)[(l.length - 1 - k) / 8] ||| UInt64.ofNat (l[k].toNat * 2 ^ ((l.length - 1 - k) % 8 * 8))) hat
    have hd : fromSt l (k + 1) = (fromSt l k).set ((l.length - 1 - k) / 8) ((fromSt l k)[(l.length - 1 - k) / 8] ||| UInt64.ofNat (l[k].toNat * 2 ^ ((l.length - 1 - k) % 8 * 8))) := by
      simp [fromSt, fromStep, hat, hlt]
    rw [← hd] at hs
    have hx := l[k].toNat_lt
    have hlimb := limb_v64 hat
    generalize hq : (fromSt l k)[(l.length - 1 - k) / 8] = L at hs hlimb
    -- the exponent of the byte
    obtain ⟨q, r, hqr, hr⟩ : ∃ q r, l.length - 1 - k = 8 * q + r ∧ r < 8 := ⟨(l.length - 1 - k) / 8, (l.length - 1 - k) % 8, by omega, Nat.mod_lt _ (by decide)⟩
    have e1 : (l.length - 1 - k) / 8 = q := by omega
    have e2 : (l.length - 1 - k) % 8 = r := by omega
    rw [e1] at hs hlimb
    rw [e2] at hs
    have e3 : l.length - k = 8 * q + r + 1 := by omega
    have e4 : l.length - (k + 1) = 8 * q + r := by omega
    rw [e3] at ih
    rw [e4, be_take_succ l k hlt]
    have p256 : ∀ m : Nat, (256 : Nat) ^ m = 2 ^ (8 * m) := fun m => by rw [show (256 : Nat) = 2 ^ 8 from rfl, ← Nat.pow_mul]
    rw [p256] at ih ⊢
    have hdiv : L.toNat % 2 ^ (r * 8 + 8) = 0 := by
      rw [← hlimb, ih]
      have : be (l.take k) * 2 ^ (8 * (8 * q + r + 1)) = 2 ^ (64 * q) * (2 ^ (r * 8 + 8) * be (l.take k)) := by
        rw [← Nat.mul_assoc, ← Nat.pow_add, Nat.mul_comm]; congr 2; omega
      rw [this, Nat.mul_div_cancel_left _ (Nat.pow_pos (by decide)), Nat.mod_mod_of_dvd _ (Nat.pow_dvd_pow 2 (by omega)), Nat.mul_mod_right]
    have hc : l[k].toNat * 2 ^ (r * 8) < 2 ^ (r * 8 + 8) := by
      rw [Nat.pow_add, Nat.mul_comm]
      exact Nat.mul_lt_mul_of_pos_left hx (Nat.pow_pos (by decide))
    have hc64 : l[k].toNat * 2 ^ (r * 8) < 2 ^ 64 := Nat.lt_of_lt_of_le hc (Nat.pow_le_pow_right (by decide) (by omega))
    have hor : (L ||| UInt64.ofNat (l[k].toNat * 2 ^ (r * 8))).toNat = L.toNat + l[k].toNat * 2 ^ (r * 8) := by
      rw [UInt64.toNat_or, UInt64.toNat_ofNat', Nat.mod_eq_of_lt hc64]
      exact nat_join _ _ _ hdiv hc
    rw [hor, ih, Nat.add_mul] at hs
    have h5 : l[k].toNat * 2 ^ (r * 8) * 2 ^ (64 * q) = l[k].toNat * 2 ^ (8 * (8 * q + r)) := by
      rw [Nat.mul_assoc, ← Nat.pow_add]; congr 2; omega
    have h6 : be (l.take k) * 2 ^ (8 * (8 * q + r + 1)) = be (l.take k) * 256 * 2 ^ (8 * (8 * q + r)) := by
      rw [Nat.mul_assoc, show (256 : Nat) = 2 ^ 8 from rfl, ← Nat.pow_add]; congr 2; omega
    rw [h5, h6] at hs
    rw [Nat.add_mul]
    omega
theorem fromSt_all (l : List UInt8) : v64 (fromSt l l.length) = be l := by
  rw [v64_fromSt l l.length (Nat.le_refl _)]; simp
theorem bound_limb (x : UInt64) : (x.toNat : Int) ≤ 18446744073709551615 := by have := x.toNat_lt; omega
end Go.Proofs.Ytbmlhdecnfplaaa
/- Plain laws on numbers in digits of 32 bits. No condition. -/
namespace Go.Proofs.Ytbmlhdecnfplaaa
set_option linter.unusedVariables false
set_option linter.unusedSimpArgs false
/-! Limbs of 32 bits, the lowest first. -/
def n32 (l : List UInt32) : List Nat := l.map UInt32.toNat
def v32 (l : List UInt32) : Nat := val (2 ^ 32) (n32 l)
theorem n32_lt (l : List UInt32) : ∀ x ∈ n32 l, x < 2 ^ 32 := by
  intro x hx; obtain ⟨y, _, rfl⟩ := List.mem_map.1 hx; exact y.toNat_lt
theorem n32_inj {a b : List UInt32} (h : n32 a = n32 b) : a = b := List.map_inj_right (fun x y e => UInt32.toNat_inj.1 e) |>.1 h
@[simp] theorem length_n32 (l : List UInt32) : (n32 l).length = l.length := by simp [n32]
theorem v32_lt (l : List UInt32) : v32 l < 2 ^ (32 * l.length) := by
  have := val_lt (B := 2 ^ 32) (by decide) (n32_lt l)
  rw [length_n32, ← Nat.pow_mul] at this
  exact this
theorem v32_inj {a b : List UInt32} (hl : a.length = b.length) (h : v32 a = v32 b) : a = b :=
  n32_inj (val_inj (by decide) (by simpa using hl) (n32_lt a) (n32_lt b) h)
/-- So many digs of N. -/
def digsN (k N : Nat) : List UInt32 := (List.range k).map fun i => UInt32.ofNat (N / 2 ^ (32 * i))
@[simp] theorem length_digsN (k N : Nat) : (digsN k N).length = k := by simp [digsN]
theorem n32_digsN (k N : Nat) : n32 (digsN k N) = dig (2 ^ 32) k N := by
  simp only [n32, digsN, dig, List.map_map]
  apply List.map_congr_left
  intro i _
  show (UInt32.ofNat (N / 2 ^ (32 * i))).toNat = _
  rw [UInt32.toNat_ofNat', Nat.pow_mul]
theorem v32_digsN (k N : Nat) : v32 (digsN k N) = N % 2 ^ (32 * k) := by rw [v32, n32_digsN, val_dig, ← Nat.pow_mul]
theorem digsN_v32 (l : List UInt32) : digsN l.length (v32 l) = l := by
  apply n32_inj; rw [n32_digsN, v32, ← length_n32, dig_val (by decide) (n32_lt l)]
theorem eq_digsN {l : List UInt32} {k N : Nat} (hl : l.length = k) (h : v32 l = N) : l = digsN k N := by rw [← hl, ← h, digsN_v32]
/-- The digs of N, no zeros at the end. -/
def digsOf (N : Nat) : List UInt32 := digsN ((bitLen N + 31) / 32) N
theorem digLen_le {N k : Nat} : (bitLen N + 31) / 32 ≤ k ↔ N < 2 ^ (32 * k) := by
  rw [← bitLen_le]; omega
theorem v32_digsOf (N : Nat) : v32 (digsOf N) = N := by
  rw [digsOf, v32_digsN]; exact Nat.mod_eq_of_lt (digLen_le.1 (Nat.le_refl _))
theorem length_digsOf (N : Nat) : (digsOf N).length = (bitLen N + 31) / 32 := by simp [digsOf]
theorem v32_append (a b : List UInt32) : v32 (a ++ b) = v32 a + 2 ^ (32 * a.length) * v32 b := by
  simp only [v32, n32, List.map_append, val_append, List.length_map, ← Nat.pow_mul]
theorem v32_replicate (n : Nat) : v32 (List.replicate n 0) = 0 := by simp [v32, n32, val_replicate]
/-- What is left when the zeros at the end are taken away. -/
theorem trim_eq32 {l : List UInt32} {k : Nat} (hk : k ≤ l.length) (hz : ∀ i (h : i < l.length), k ≤ i → l[i] = 0) (hl : k = 0 ∨ ∃ h : k - 1 < l.length, l[k - 1] ≠ 0) : l.take k = digsOf (v32 l) := by
  have hd : l.drop k = List.replicate (l.length - k) 0 := by
    apply List.ext_getElem (by simp)
    intro i h1 h2
    simp only [List.length_drop] at h1
    simp only [List.getElem_drop, List.getElem_replicate]
    exact hz (k + i) (by omega) (by omega)
  have hv : v32 l = v32 (l.take k) := by
    conv => lhs; rw [← List.take_append_drop k l]
    rw [v32_append, hd, v32_replicate]; simp
  have hlen : (l.take k).length = k := by simp; omega
  refine eq_digsN ?_ hv.symm
  rw [hlen]
  have h1 : v32 l < 2 ^ (32 * k) := by rw [hv]; have := v32_lt (l.take k); rwa [hlen] at this
  have h2 := digLen_le.2 h1
  rcases hl with rfl | ⟨hlt, hne⟩
  · omega
  · by_cases hc : (bitLen (v32 l) + 31) / 32 ≤ k - 1
    · exfalso
      have h3 := digLen_le.1 hc
      have h4 := val_div_mod (B := 2 ^ 32) (by decide) (n32_lt l) (k - 1) (by simpa using hlt)
      have h5 : val (2 ^ 32) (n32 l) / (2 ^ 32) ^ (k - 1) = 0 := by
        rw [← Nat.pow_mul]; exact Nat.div_eq_of_lt h3
      rw [h5] at h4
      simp [n32] at h4
      exact hne (by rw [← UInt32.toNat_inj]; simpa using h4.symm)
    · by_cases h0 : k = 0
      · omega
      · omega

theorem v32_set {a : List UInt32} {i : Nat} {y : UInt32} (h : i < a.length) : v32 (a.set i y) + a[i].toNat * 2 ^ (32 * i) = v32 a + y.toNat * 2 ^ (32 * i) := by
  have := val_set (2 ^ 32) (n32 a) i y.toNat (by simpa using h)
  simp only [v32, n32, List.map_set, List.getElem_map] at this ⊢
  rw [← Nat.pow_mul] at this
  exact this
theorem dig_v32 {a : List UInt32} {i : Nat} (h : i < a.length) : v32 a / 2 ^ (32 * i) % 2 ^ 32 = a[i].toNat := by
  have := val_div_mod (B := 2 ^ 32) (by decide) (n32_lt a) i (by simpa using h)
  rw [← Nat.pow_mul] at this
  simpa [v32, n32] using this
end Go.Proofs.Ytbmlhdecnfplaaa
/- Plain law: what the reference's From builds. No condition. -/
namespace Go.Proofs.Ytbmlhdecnfplaaa
set_option linter.unusedVariables false
set_option linter.unusedSimpArgs false
def rfromStep (l : List UInt8) (i : Nat) (a : List UInt32) : List UInt32 :=
  a.set (i / 4) (a.getD (i / 4) 0 ||| (UInt32.ofNat ((l.getD (l.length - 1 - i) 0).toNat * 2 ^ (8 * (i % 4)))))
def rfromSt (l : List UInt8) : Nat → List UInt32
  | 0 => List.replicate ((l.length + 3) / 4) 0
  | k+1 => rfromStep l k (rfromSt l k)
theorem length_rfromSt (l : List UInt8) (k : Nat) : (rfromSt l k).length = (l.length + 3) / 4 := by
  induction k with
  | zero => simp [rfromSt]
  | succ k ih => simp [rfromSt, rfromStep, ih]
theorem v32_rfromSt (l : List UInt8) (k : Nat) (hk : k ≤ l.length) : v32 (rfromSt l k) = be (l.drop (l.length - k)) := by
  induction k with
  | zero => simp [rfromSt, v32_replicate, be]
  | succ k ih =>
    have ih := ih (by omega)
    have hat : k / 4 < (rfromSt l k).length := by rw [length_rfromSt]; omega
    have hlt : l.length - 1 - k < l.length := by omega
    have hs := v32_set (a := rfromSt l k) (i := k / 4) (y := (rfromSt l k)[k / 4] ||| UInt32.ofNat (l[l.length - 1 - k].toNat * 2 ^ (8 * (k % 4)))) hat
    have hd : rfromSt l (k + 1) = (rfromSt l k).set (k / 4) ((rfromSt l k)[k / 4] ||| UInt32.ofNat (l[l.length - 1 - k].toNat * 2 ^ (8 * (k % 4)))) := by
      simp [rfromSt, rfromStep, hat, hlt]
    rw [← hd] at hs
    have hx := l[l.length - 1 - k].toNat_lt
    have hdig := dig_v32 hat
    generalize hq : (rfromSt l k)[k / 4] = L at hs hdig
    have hdr : l.drop (l.length - (k + 1)) = l[l.length - 1 - k] :: l.drop (l.length - k) := by
      rw [show l.length - (k + 1) = l.length - 1 - k from by omega, List.drop_eq_getElem_cons hlt]
      congr 2; omega
    have hlen : (l.drop (l.length - k)).length = k := by simp; omega
    have hv : v32 (rfromSt l k) < 2 ^ (8 * k) := by
      rw [ih, show (2 : Nat) ^ (8 * k) = 256 ^ k from by rw [show (256 : Nat) = 2 ^ 8 from rfl, ← Nat.pow_mul]]
      have := be_lt (l.drop (l.length - k)); rwa [hlen] at this
    rw [hdr, be_cons, hlen, ← ih]
    obtain ⟨q, r, hqr, hr⟩ : ∃ q r, k = 4 * q + r ∧ r < 4 := ⟨k / 4, k % 4, by omega, Nat.mod_lt _ (by decide)⟩
    have e1 : k / 4 = q := by omega
    have e2 : k % 4 = r := by omega
    rw [e1] at hs hdig
    rw [e2] at hs
    have hL : L.toNat < 2 ^ (8 * r) := by
      rw [← hdig]
      refine Nat.lt_of_le_of_lt (Nat.mod_le _ _) ?_
      rw [Nat.div_lt_iff_lt_mul (Nat.pow_pos (by decide)), ← Nat.pow_add]
      rwa [show 8 * r + 32 * q = 8 * k from by omega]
    have hc : l[l.length - 1 - k].toNat * 2 ^ (8 * r) < 2 ^ 32 := by
      refine Nat.lt_of_lt_of_le (Nat.mul_lt_mul_of_pos_right hx (Nat.pow_pos (by decide))) ?_
      rw [show (2 : Nat) ^ 8 * 2 ^ (8 * r) = 2 ^ (8 + 8 * r) from by rw [← Nat.pow_add]]
      exact Nat.pow_le_pow_right (by decide) (by omega)
    have hor : (L ||| UInt32.ofNat (l[l.length - 1 - k].toNat * 2 ^ (8 * r))).toNat = L.toNat + l[l.length - 1 - k].toNat * 2 ^ (8 * r) := by
      rw [UInt32.toNat_or, UInt32.toNat_ofNat', Nat.mod_eq_of_lt hc, Nat.or_comm, nat_join (8 * r) _ _ (Nat.mul_mod_left _ _) hL, Nat.add_comm]
    rw [hor, Nat.add_mul, Nat.mul_assoc, ← Nat.pow_add, show 8 * r + 32 * q = 8 * k from by omega] at hs
    have e256 : (256 : Nat) ^ k = 2 ^ (8 * k) := by rw [show (256 : Nat) = 2 ^ 8 from rfl, ← Nat.pow_mul]
    rw [e256]
    omega
theorem rfromSt_all (l : List UInt8) : v32 (rfromSt l l.length) = be l := by
  rw [v32_rfromSt l l.length (Nat.le_refl _)]; simp
end Go.Proofs.Ytbmlhdecnfplaaa
