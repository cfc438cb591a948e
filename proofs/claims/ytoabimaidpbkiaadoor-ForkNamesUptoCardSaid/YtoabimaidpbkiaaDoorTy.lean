/- Facts on the types of the program, by number. No condition. -/
import Derived.Test.YtoabimaidpbkiaaDoorProg
import Derived.Test.YtoabimaidpbkiaaDoorG10
import Derived.WalkKit
namespace Go.Proofs.YtoabimaidpbkiaaDoor
set_option linter.unusedVariables false
set_option linter.unusedSimpArgs false
open Go Go.RowKit
theorem sc2 : scal Tryd.prog 2 = true := by kernel_rfl
theorem sz2 : siz Tryd.prog 2 = some 1 := by kernel_rfl
theorem ze2 : zer Tryd.prog 2 = some (.int .i64 0) := by kernel_rfl
theorem sc3 : scal Tryd.prog 3 = true := by kernel_rfl
theorem sz3 : siz Tryd.prog 3 = some 1 := by kernel_rfl
theorem ze3 : zer Tryd.prog 3 = some (.int .i64 0) := by kernel_rfl
theorem sc4 : scal Tryd.prog 4 = true := by kernel_rfl
theorem sz4 : siz Tryd.prog 4 = some 1 := by kernel_rfl
theorem ze4 : zer Tryd.prog 4 = some (.bool false) := by kernel_rfl
theorem sc5 : scal Tryd.prog 5 = true := by kernel_rfl
theorem sz5 : siz Tryd.prog 5 = some 1 := by kernel_rfl
theorem ze5 : zer Tryd.prog 5 = some (.int .u8 0) := by kernel_rfl
theorem sc6 : scal Tryd.prog 6 = true := by kernel_rfl
theorem sz6 : siz Tryd.prog 6 = some 1 := by kernel_rfl
theorem ze6 : zer Tryd.prog 6 = some (.int .u8 0) := by kernel_rfl
theorem ag7 : aggOf Tryd.prog 7 = some 4 := by kernel_rfl
theorem sz7 : siz Tryd.prog 7 = some 4 := by kernel_rfl
theorem ze7 : zer Tryd.prog 7 = some (.agg #[.int .i64 0, .int .i64 0, .bool false, .int .u8 0]) := by kernel_rfl
theorem fl7_0 : fld Tryd.prog 7 0 = some 0 := by kernel_rfl
theorem fl7_1 : fld Tryd.prog 7 1 = some 1 := by kernel_rfl
theorem fl7_2 : fld Tryd.prog 7 2 = some 2 := by kernel_rfl
theorem fl7_3 : fld Tryd.prog 7 3 = some 3 := by kernel_rfl
theorem pl7 : places Tryd.prog 7 = some [(0, 1), (1, 1), (2, 1), (3, 1)] := by kernel_rfl
theorem ag8 : aggOf Tryd.prog 8 = some 4 := by kernel_rfl
theorem sz8 : siz Tryd.prog 8 = some 4 := by kernel_rfl
theorem ze8 : zer Tryd.prog 8 = some (.agg #[.int .i64 0, .int .i64 0, .bool false, .int .u8 0]) := by kernel_rfl
theorem fl8_0 : fld Tryd.prog 8 0 = some 0 := by kernel_rfl
theorem fl8_1 : fld Tryd.prog 8 1 = some 1 := by kernel_rfl
theorem fl8_2 : fld Tryd.prog 8 2 = some 2 := by kernel_rfl
theorem fl8_3 : fld Tryd.prog 8 3 = some 3 := by kernel_rfl
theorem pl8 : places Tryd.prog 8 = some [(0, 1), (1, 1), (2, 1), (3, 1)] := by kernel_rfl
theorem sc9 : scal Tryd.prog 9 = true := by kernel_rfl
theorem sz9 : siz Tryd.prog 9 = some 1 := by kernel_rfl
theorem ze9 : zer Tryd.prog 9 = some (str []) := by kernel_rfl
theorem sc10 : scal Tryd.prog 10 = true := by kernel_rfl
theorem sz10 : siz Tryd.prog 10 = some 1 := by kernel_rfl
theorem ze10 : zer Tryd.prog 10 = some (str []) := by kernel_rfl
theorem sc11 : scal Tryd.prog 11 = true := by kernel_rfl
theorem sz11 : siz Tryd.prog 11 = some 1 := by kernel_rfl
theorem ze11 : zer Tryd.prog 11 = some (str []) := by kernel_rfl
theorem sc12 : scal Tryd.prog 12 = true := by kernel_rfl
theorem sz12 : siz Tryd.prog 12 = some 1 := by kernel_rfl
theorem ze12 : zer Tryd.prog 12 = some (.int .u64 0) := by kernel_rfl
theorem ag13 : aggOf Tryd.prog 13 = some 2 := by kernel_rfl
theorem sz13 : siz Tryd.prog 13 = some 2 := by kernel_rfl
theorem ze13 : zer Tryd.prog 13 = some (.agg #[str [], .int .u64 0]) := by kernel_rfl
theorem fl13_0 : fld Tryd.prog 13 0 = some 0 := by kernel_rfl
theorem fl13_1 : fld Tryd.prog 13 1 = some 1 := by kernel_rfl
theorem pl13 : places Tryd.prog 13 = some [(0, 1), (1, 1)] := by kernel_rfl
theorem ag14 : aggOf Tryd.prog 14 = some 2 := by kernel_rfl
theorem sz14 : siz Tryd.prog 14 = some 2 := by kernel_rfl
theorem ze14 : zer Tryd.prog 14 = some (.agg #[str [], .int .u64 0]) := by kernel_rfl
theorem fl14_0 : fld Tryd.prog 14 0 = some 0 := by kernel_rfl
theorem fl14_1 : fld Tryd.prog 14 1 = some 1 := by kernel_rfl
theorem pl14 : places Tryd.prog 14 = some [(0, 1), (1, 1)] := by kernel_rfl
theorem sc15 : scal Tryd.prog 15 = true := by kernel_rfl
theorem sz15 : siz Tryd.prog 15 = some 1 := by kernel_rfl
theorem ze15 : zer Tryd.prog 15 = some (.pointer none) := by kernel_rfl
theorem sc16 : scal Tryd.prog 16 = true := by kernel_rfl
theorem sz16 : siz Tryd.prog 16 = some 1 := by kernel_rfl
theorem ze16 : zer Tryd.prog 16 = some (.pointer none) := by kernel_rfl
theorem sc17 : scal Tryd.prog 17 = true := by kernel_rfl
theorem sz17 : siz Tryd.prog 17 = some 1 := by kernel_rfl
theorem ze17 : zer Tryd.prog 17 = some (.pointer none) := by kernel_rfl
theorem ag18 : aggOf Tryd.prog 18 = some 1 := by kernel_rfl
theorem sz18 : siz Tryd.prog 18 = some 1 := by kernel_rfl
theorem ze18 : zer Tryd.prog 18 = some (.agg #[.pointer none]) := by kernel_rfl
theorem fl18_0 : fld Tryd.prog 18 0 = some 0 := by kernel_rfl
theorem pl18 : places Tryd.prog 18 = some [(0, 1)] := by kernel_rfl
theorem ag19 : aggOf Tryd.prog 19 = some 1 := by kernel_rfl
theorem sz19 : siz Tryd.prog 19 = some 1 := by kernel_rfl
theorem ze19 : zer Tryd.prog 19 = some (.agg #[.pointer none]) := by kernel_rfl
theorem fl19_0 : fld Tryd.prog 19 0 = some 0 := by kernel_rfl
theorem pl19 : places Tryd.prog 19 = some [(0, 1)] := by kernel_rfl
theorem sc20 : scal Tryd.prog 20 = true := by kernel_rfl
theorem sz20 : siz Tryd.prog 20 = some 1 := by kernel_rfl
theorem ze20 : zer Tryd.prog 20 = some (.nilIface) := by kernel_rfl
theorem sc21 : scal Tryd.prog 21 = true := by kernel_rfl
theorem sz21 : siz Tryd.prog 21 = some 1 := by kernel_rfl
theorem ze21 : zer Tryd.prog 21 = some (.int .i32 0) := by kernel_rfl
theorem sc22 : scal Tryd.prog 22 = true := by kernel_rfl
theorem sz22 : siz Tryd.prog 22 = some 1 := by kernel_rfl
theorem ze22 : zer Tryd.prog 22 = some (.int .u64 0) := by kernel_rfl
theorem ag23 : aggOf Tryd.prog 23 = some 26 := by kernel_rfl
theorem sz23 : siz Tryd.prog 23 = some 26 := by kernel_rfl
theorem ze23 : zer Tryd.prog 23 = some (.agg #[.int .i64 0, .int .u64 0, .int .u64 0, .int .u64 0, .int .u64 0, .int .u64 0, .int .u64 0, .int .u64 0, .int .i64 0, .int .i64 0, .int .u64 0, .int .u64 0, .int .u64 0, .int .u64 0, .int .u64 0, .int .u64 0, .int .u64 0, .int .u64 0, .int .u64 0, .int .u64 0, .int .u64 0, .int .u64 0, .int .u64 0, .int .u64 0, .int .u64 0, .int .u64 0]) := by kernel_rfl
theorem fl23_0 : fld Tryd.prog 23 0 = some 0 := by kernel_rfl
theorem fl23_1 : fld Tryd.prog 23 1 = some 1 := by kernel_rfl
theorem fl23_2 : fld Tryd.prog 23 2 = some 2 := by kernel_rfl
theorem fl23_3 : fld Tryd.prog 23 3 = some 3 := by kernel_rfl
theorem fl23_4 : fld Tryd.prog 23 4 = some 4 := by kernel_rfl
theorem fl23_5 : fld Tryd.prog 23 5 = some 5 := by kernel_rfl
theorem fl23_6 : fld Tryd.prog 23 6 = some 6 := by kernel_rfl
theorem fl23_7 : fld Tryd.prog 23 7 = some 7 := by kernel_rfl
theorem fl23_8 : fld Tryd.prog 23 8 = some 8 := by kernel_rfl
theorem fl23_9 : fld Tryd.prog 23 9 = some 9 := by kernel_rfl
theorem fl23_10 : fld Tryd.prog 23 10 = some 10 := by kernel_rfl
theorem fl23_11 : fld Tryd.prog 23 11 = some 11 := by kernel_rfl
theorem fl23_12 : fld Tryd.prog 23 12 = some 12 := by kernel_rfl
theorem fl23_13 : fld Tryd.prog 23 13 = some 13 := by kernel_rfl
theorem fl23_14 : fld Tryd.prog 23 14 = some 14 := by kernel_rfl
theorem fl23_15 : fld Tryd.prog 23 15 = some 15 := by kernel_rfl
theorem fl23_16 : fld Tryd.prog 23 16 = some 16 := by kernel_rfl
theorem fl23_17 : fld Tryd.prog 23 17 = some 17 := by kernel_rfl
theorem fl23_18 : fld Tryd.prog 23 18 = some 18 := by kernel_rfl
theorem fl23_19 : fld Tryd.prog 23 19 = some 19 := by kernel_rfl
theorem fl23_20 : fld Tryd.prog 23 20 = some 20 := by kernel_rfl
theorem fl23_21 : fld Tryd.prog 23 21 = some 21 := by kernel_rfl
theorem fl23_22 : fld Tryd.prog 23 22 = some 22 := by kernel_rfl
theorem fl23_23 : fld Tryd.prog 23 23 = some 23 := by kernel_rfl
theorem fl23_24 : fld Tryd.prog 23 24 = some 24 := by kernel_rfl
theorem fl23_25 : fld Tryd.prog 23 25 = some 25 := by kernel_rfl
theorem pl23 : places Tryd.prog 23 = some [(0, 1), (1, 1), (2, 1), (3, 1), (4, 1), (5, 1), (6, 1), (7, 1), (8, 1), (9, 1), (10, 1), (11, 1), (12, 1), (13, 1), (14, 1), (15, 1), (16, 1), (17, 1), (18, 1), (19, 1), (20, 1), (21, 1), (22, 1), (23, 1), (24, 1), (25, 1)] := by kernel_rfl
theorem ag24 : aggOf Tryd.prog 24 = some 26 := by kernel_rfl
theorem sz24 : siz Tryd.prog 24 = some 26 := by kernel_rfl
theorem ze24 : zer Tryd.prog 24 = some (.agg #[.int .i64 0, .int .u64 0, .int .u64 0, .int .u64 0, .int .u64 0, .int .u64 0, .int .u64 0, .int .u64 0, .int .i64 0, .int .i64 0, .int .u64 0, .int .u64 0, .int .u64 0, .int .u64 0, .int .u64 0, .int .u64 0, .int .u64 0, .int .u64 0, .int .u64 0, .int .u64 0, .int .u64 0, .int .u64 0, .int .u64 0, .int .u64 0, .int .u64 0, .int .u64 0]) := by kernel_rfl
theorem fl24_0 : fld Tryd.prog 24 0 = some 0 := by kernel_rfl
theorem fl24_1 : fld Tryd.prog 24 1 = some 1 := by kernel_rfl
theorem fl24_2 : fld Tryd.prog 24 2 = some 2 := by kernel_rfl
theorem fl24_3 : fld Tryd.prog 24 3 = some 3 := by kernel_rfl
theorem fl24_4 : fld Tryd.prog 24 4 = some 4 := by kernel_rfl
theorem fl24_5 : fld Tryd.prog 24 5 = some 5 := by kernel_rfl
theorem fl24_6 : fld Tryd.prog 24 6 = some 6 := by kernel_rfl
theorem fl24_7 : fld Tryd.prog 24 7 = some 7 := by kernel_rfl
theorem fl24_8 : fld Tryd.prog 24 8 = some 8 := by kernel_rfl
theorem fl24_9 : fld Tryd.prog 24 9 = some 9 := by kernel_rfl
theorem fl24_10 : fld Tryd.prog 24 10 = some 10 := by kernel_rfl
theorem fl24_11 : fld Tryd.prog 24 11 = some 11 := by kernel_rfl
theorem fl24_12 : fld Tryd.prog 24 12 = some 12 := by kernel_rfl
theorem fl24_13 : fld Tryd.prog 24 13 = some 13 := by kernel_rfl
theorem fl24_14 : fld Tryd.prog 24 14 = some 14 := by kernel_rfl
theorem fl24_15 : fld Tryd.prog 24 15 = some 15 := by kernel_rfl
theorem fl24_16 : fld Tryd.prog 24 16 = some 16 := by kernel_rfl
theorem fl24_17 : fld Tryd.prog 24 17 = some 17 := by kernel_rfl
theorem fl24_18 : fld Tryd.prog 24 18 = some 18 := by kernel_rfl
theorem fl24_19 : fld Tryd.prog 24 19 = some 19 := by kernel_rfl
theorem fl24_20 : fld Tryd.prog 24 20 = some 20 := by kernel_rfl
theorem fl24_21 : fld Tryd.prog 24 21 = some 21 := by kernel_rfl
theorem fl24_22 : fld Tryd.prog 24 22 = some 22 := by kernel_rfl
theorem fl24_23 : fld Tryd.prog 24 23 = some 23 := by kernel_rfl
theorem fl24_24 : fld Tryd.prog 24 24 = some 24 := by kernel_rfl
theorem fl24_25 : fld Tryd.prog 24 25 = some 25 := by kernel_rfl
theorem pl24 : places Tryd.prog 24 = some [(0, 1), (1, 1), (2, 1), (3, 1), (4, 1), (5, 1), (6, 1), (7, 1), (8, 1), (9, 1), (10, 1), (11, 1), (12, 1), (13, 1), (14, 1), (15, 1), (16, 1), (17, 1), (18, 1), (19, 1), (20, 1), (21, 1), (22, 1), (23, 1), (24, 1), (25, 1)] := by kernel_rfl
theorem sc25 : scal Tryd.prog 25 = true := by kernel_rfl
theorem sz25 : siz Tryd.prog 25 = some 1 := by kernel_rfl
theorem ze25 : zer Tryd.prog 25 = some (.int .i64 0) := by kernel_rfl
theorem ag33 : aggOf Tryd.prog 33 = some 20 := by kernel_rfl
theorem sz33 : siz Tryd.prog 33 = some 20 := by kernel_rfl
theorem ze33 : zer Tryd.prog 33 = some (.agg #[.int .u8 0, .int .u8 0, .int .u8 0, .int .u8 0, .int .u8 0, .int .u8 0, .int .u8 0, .int .u8 0, .int .u8 0, .int .u8 0, .int .u8 0, .int .u8 0, .int .u8 0, .int .u8 0, .int .u8 0, .int .u8 0, .int .u8 0, .int .u8 0, .int .u8 0, .int .u8 0]) := by kernel_rfl
theorem ae33 : aelt Tryd.prog 33 = some (20, 5, 1) := by kernel_rfl
theorem ag34 : aggOf Tryd.prog 34 = some 20 := by kernel_rfl
theorem sz34 : siz Tryd.prog 34 = some 20 := by kernel_rfl
theorem ze34 : zer Tryd.prog 34 = some (.agg #[.int .u8 0, .int .u8 0, .int .u8 0, .int .u8 0, .int .u8 0, .int .u8 0, .int .u8 0, .int .u8 0, .int .u8 0, .int .u8 0, .int .u8 0, .int .u8 0, .int .u8 0, .int .u8 0, .int .u8 0, .int .u8 0, .int .u8 0, .int .u8 0, .int .u8 0, .int .u8 0]) := by kernel_rfl
theorem ae34 : aelt Tryd.prog 34 = some (20, 5, 1) := by kernel_rfl
theorem ag38 : aggOf Tryd.prog 38 = some 14 := by kernel_rfl
theorem sz38 : siz Tryd.prog 38 = some 14 := by kernel_rfl
theorem ze38 : zer Tryd.prog 38 = some (.agg #[.int .u64 0, .int .u64 0, .int .u64 0, .int .u64 0, .int .u64 0, .int .u64 0, .int .u64 0, .int .u64 0, .int .u64 0, .int .u64 0, .int .u64 0, .int .u64 0, .int .u64 0, .int .u64 0]) := by kernel_rfl
theorem ae38 : aelt Tryd.prog 38 = some (14, 22, 1) := by kernel_rfl
theorem ag39 : aggOf Tryd.prog 39 = some 2 := by kernel_rfl
theorem sz39 : siz Tryd.prog 39 = some 2 := by kernel_rfl
theorem ze39 : zer Tryd.prog 39 = some (.agg #[.int .u64 0, .int .u64 0]) := by kernel_rfl
theorem ae39 : aelt Tryd.prog 39 = some (2, 22, 1) := by kernel_rfl
theorem sc40 : scal Tryd.prog 40 = true := by kernel_rfl
theorem sz40 : siz Tryd.prog 40 = some 1 := by kernel_rfl
theorem ze40 : zer Tryd.prog 40 = some (.slice none 0 0) := by kernel_rfl
theorem se40 : selt Tryd.prog 40 = some (34, 20) := by kernel_rfl
theorem ag41 : aggOf Tryd.prog 41 = some 39 := by kernel_rfl
theorem sz41 : siz Tryd.prog 41 = some 39 := by kernel_rfl
theorem ze41 : zer Tryd.prog 41 = some (.agg #[.int .u64 0, .int .u64 0, .int .u64 0, .int .u64 0, .int .u64 0, .int .u64 0, .int .u64 0, .int .u64 0, .int .u64 0, .int .u64 0, .int .u64 0, .int .u64 0, .int .u64 0, .int .u64 0, .int .u64 0, .int .u64 0, .int .u64 0, .int .u64 0, .slice none 0 0, .int .u8 0, .int .u8 0, .int .u8 0, .int .u8 0, .int .u8 0, .int .u8 0, .int .u8 0, .int .u8 0, .int .u8 0, .int .u8 0, .int .u8 0, .int .u8 0, .int .u8 0, .int .u8 0, .int .u8 0, .int .u8 0, .int .u8 0, .int .u8 0, .int .u8 0, .int .u8 0]) := by kernel_rfl
theorem fl41_0 : fld Tryd.prog 41 0 = some 0 := by kernel_rfl
theorem fl41_1 : fld Tryd.prog 41 1 = some 1 := by kernel_rfl
theorem fl41_2 : fld Tryd.prog 41 2 = some 15 := by kernel_rfl
theorem fl41_3 : fld Tryd.prog 41 3 = some 17 := by kernel_rfl
theorem fl41_4 : fld Tryd.prog 41 4 = some 18 := by kernel_rfl
theorem fl41_5 : fld Tryd.prog 41 5 = some 19 := by kernel_rfl
theorem pl41 : places Tryd.prog 41 = some [(0, 1), (1, 14), (15, 2), (17, 1), (18, 1), (19, 20)] := by kernel_rfl
theorem ag42 : aggOf Tryd.prog 42 = some 39 := by kernel_rfl
theorem sz42 : siz Tryd.prog 42 = some 39 := by kernel_rfl
theorem ze42 : zer Tryd.prog 42 = some (.agg #[.int .u64 0, .int .u64 0, .int .u64 0, .int .u64 0, .int .u64 0, .int .u64 0, .int .u64 0, .int .u64 0, .int .u64 0, .int .u64 0, .int .u64 0, .int .u64 0, .int .u64 0, .int .u64 0, .int .u64 0, .int .u64 0, .int .u64 0, .int .u64 0, .slice none 0 0, .int .u8 0, .int .u8 0, .int .u8 0, .int .u8 0, .int .u8 0, .int .u8 0, .int .u8 0, .int .u8 0, .int .u8 0, .int .u8 0, .int .u8 0, .int .u8 0, .int .u8 0, .int .u8 0, .int .u8 0, .int .u8 0, .int .u8 0, .int .u8 0, .int .u8 0, .int .u8 0]) := by kernel_rfl
theorem fl42_0 : fld Tryd.prog 42 0 = some 0 := by kernel_rfl
theorem fl42_1 : fld Tryd.prog 42 1 = some 1 := by kernel_rfl
theorem fl42_2 : fld Tryd.prog 42 2 = some 15 := by kernel_rfl
theorem fl42_3 : fld Tryd.prog 42 3 = some 17 := by kernel_rfl
theorem fl42_4 : fld Tryd.prog 42 4 = some 18 := by kernel_rfl
theorem fl42_5 : fld Tryd.prog 42 5 = some 19 := by kernel_rfl
theorem pl42 : places Tryd.prog 42 = some [(0, 1), (1, 14), (15, 2), (17, 1), (18, 1), (19, 20)] := by kernel_rfl
theorem ag51 : aggOf Tryd.prog 51 = some 44 := by kernel_rfl
theorem sz51 : siz Tryd.prog 51 = some 44 := by kernel_rfl
theorem fl51_0 : fld Tryd.prog 51 0 = some 0 := by kernel_rfl
theorem fl51_1 : fld Tryd.prog 51 1 = some 39 := by kernel_rfl
theorem fl51_2 : fld Tryd.prog 51 2 = some 41 := by kernel_rfl
theorem fl51_3 : fld Tryd.prog 51 3 = some 43 := by kernel_rfl
theorem pl51 : places Tryd.prog 51 = some [(0, 39), (39, 2), (41, 2), (43, 1)] := by kernel_rfl
theorem ag52 : aggOf Tryd.prog 52 = some 44 := by kernel_rfl
theorem sz52 : siz Tryd.prog 52 = some 44 := by kernel_rfl
theorem fl52_0 : fld Tryd.prog 52 0 = some 0 := by kernel_rfl
theorem fl52_1 : fld Tryd.prog 52 1 = some 39 := by kernel_rfl
theorem fl52_2 : fld Tryd.prog 52 2 = some 41 := by kernel_rfl
theorem fl52_3 : fld Tryd.prog 52 3 = some 43 := by kernel_rfl
theorem pl52 : places Tryd.prog 52 = some [(0, 39), (39, 2), (41, 2), (43, 1)] := by kernel_rfl
theorem sc54 : scal Tryd.prog 54 = true := by kernel_rfl
theorem sz54 : siz Tryd.prog 54 = some 1 := by kernel_rfl
theorem ze54 : zer Tryd.prog 54 = some (.int .u32 0) := by kernel_rfl
theorem sc57 : scal Tryd.prog 57 = true := by kernel_rfl
theorem sz57 : siz Tryd.prog 57 = some 1 := by kernel_rfl
theorem ze57 : zer Tryd.prog 57 = some (.slice none 0 0) := by kernel_rfl
theorem se57 : selt Tryd.prog 57 = some (5, 1) := by kernel_rfl
theorem ag60 : aggOf Tryd.prog 60 = some 2 := by kernel_rfl
theorem sz60 : siz Tryd.prog 60 = some 2 := by kernel_rfl
theorem ze60 : zer Tryd.prog 60 = some (.agg #[.int .i64 0, .int .u64 0]) := by kernel_rfl
theorem fl60_0 : fld Tryd.prog 60 0 = some 0 := by kernel_rfl
theorem fl60_1 : fld Tryd.prog 60 1 = some 1 := by kernel_rfl
theorem pl60 : places Tryd.prog 60 = some [(0, 1), (1, 1)] := by kernel_rfl
theorem ag61 : aggOf Tryd.prog 61 = some 2 := by kernel_rfl
theorem sz61 : siz Tryd.prog 61 = some 2 := by kernel_rfl
theorem ze61 : zer Tryd.prog 61 = some (.agg #[.int .i64 0, .int .u64 0]) := by kernel_rfl
theorem fl61_0 : fld Tryd.prog 61 0 = some 0 := by kernel_rfl
theorem fl61_1 : fld Tryd.prog 61 1 = some 1 := by kernel_rfl
theorem pl61 : places Tryd.prog 61 = some [(0, 1), (1, 1)] := by kernel_rfl
theorem sc63 : scal Tryd.prog 63 = true := by kernel_rfl
theorem sz63 : siz Tryd.prog 63 = some 1 := by kernel_rfl
theorem ze63 : zer Tryd.prog 63 = some (.slice none 0 0) := by kernel_rfl
theorem se63 : selt Tryd.prog 63 = some (39, 2) := by kernel_rfl
theorem sc64 : scal Tryd.prog 64 = true := by kernel_rfl
theorem sz64 : siz Tryd.prog 64 = some 1 := by kernel_rfl
theorem ze64 : zer Tryd.prog 64 = some (.slice none 0 0) := by kernel_rfl
theorem se64 : selt Tryd.prog 64 = some (9, 1) := by kernel_rfl
theorem sc69 : scal Tryd.prog 69 = true := by kernel_rfl
theorem sz69 : siz Tryd.prog 69 = some 1 := by kernel_rfl
theorem ze69 : zer Tryd.prog 69 = some (.map none) := by kernel_rfl
theorem ag70 : aggOf Tryd.prog 70 = some 0 := by kernel_rfl
theorem sz70 : siz Tryd.prog 70 = some 0 := by kernel_rfl
theorem ze70 : zer Tryd.prog 70 = some (.agg #[]) := by kernel_rfl
theorem pl70 : places Tryd.prog 70 = some [] := by kernel_rfl
theorem sc72 : scal Tryd.prog 72 = true := by kernel_rfl
theorem sz72 : siz Tryd.prog 72 = some 1 := by kernel_rfl
theorem ze72 : zer Tryd.prog 72 = some (.slice none 0 0) := by kernel_rfl
theorem se72 : selt Tryd.prog 72 = some (22, 1) := by kernel_rfl
theorem sc75 : scal Tryd.prog 75 = true := by kernel_rfl
theorem sz75 : siz Tryd.prog 75 = some 1 := by kernel_rfl
theorem ze75 : zer Tryd.prog 75 = some (.slice none 0 0) := by kernel_rfl
theorem se75 : selt Tryd.prog 75 = some (61, 2) := by kernel_rfl
theorem ag76 : aggOf Tryd.prog 76 = some 256 := by kernel_rfl
theorem sz76 : siz Tryd.prog 76 = some 256 := by kernel_rfl
theorem ae76 : aelt Tryd.prog 76 = some (256, 5, 1) := by kernel_rfl
theorem sc81 : scal Tryd.prog 81 = true := by kernel_rfl
theorem sz81 : siz Tryd.prog 81 = some 1 := by kernel_rfl
theorem ze81 : zer Tryd.prog 81 = some (.slice none 0 0) := by kernel_rfl
theorem se81 : selt Tryd.prog 81 = some (83, 2) := by kernel_rfl
theorem ag82 : aggOf Tryd.prog 82 = some 2 := by kernel_rfl
theorem sz82 : siz Tryd.prog 82 = some 2 := by kernel_rfl
theorem ze82 : zer Tryd.prog 82 = some (.agg #[.int .i64 0, .int .i64 0]) := by kernel_rfl
theorem fl82_0 : fld Tryd.prog 82 0 = some 0 := by kernel_rfl
theorem fl82_1 : fld Tryd.prog 82 1 = some 1 := by kernel_rfl
theorem pl82 : places Tryd.prog 82 = some [(0, 1), (1, 1)] := by kernel_rfl
theorem ag83 : aggOf Tryd.prog 83 = some 2 := by kernel_rfl
theorem sz83 : siz Tryd.prog 83 = some 2 := by kernel_rfl
theorem ze83 : zer Tryd.prog 83 = some (.agg #[.int .i64 0, .int .i64 0]) := by kernel_rfl
theorem fl83_0 : fld Tryd.prog 83 0 = some 0 := by kernel_rfl
theorem fl83_1 : fld Tryd.prog 83 1 = some 1 := by kernel_rfl
theorem pl83 : places Tryd.prog 83 = some [(0, 1), (1, 1)] := by kernel_rfl
theorem sc85 : scal Tryd.prog 85 = true := by kernel_rfl
theorem sz85 : siz Tryd.prog 85 = some 1 := by kernel_rfl
theorem ze85 : zer Tryd.prog 85 = some (.pointer none) := by kernel_rfl
theorem sc87 : scal Tryd.prog 87 = true := by kernel_rfl
theorem sz87 : siz Tryd.prog 87 = some 1 := by kernel_rfl
theorem ze87 : zer Tryd.prog 87 = some (.pointer none) := by kernel_rfl
theorem ag88 : aggOf Tryd.prog 88 = some 2 := by kernel_rfl
theorem sz88 : siz Tryd.prog 88 = some 2 := by kernel_rfl
theorem ze88 : zer Tryd.prog 88 = some (.agg #[.pointer none, .slice none 0 0]) := by kernel_rfl
theorem fl88_0 : fld Tryd.prog 88 0 = some 0 := by kernel_rfl
theorem fl88_1 : fld Tryd.prog 88 1 = some 1 := by kernel_rfl
theorem pl88 : places Tryd.prog 88 = some [(0, 1), (1, 1)] := by kernel_rfl
theorem ag89 : aggOf Tryd.prog 89 = some 2 := by kernel_rfl
theorem sz89 : siz Tryd.prog 89 = some 2 := by kernel_rfl
theorem ze89 : zer Tryd.prog 89 = some (.agg #[.pointer none, .slice none 0 0]) := by kernel_rfl
theorem fl89_0 : fld Tryd.prog 89 0 = some 0 := by kernel_rfl
theorem fl89_1 : fld Tryd.prog 89 1 = some 1 := by kernel_rfl
theorem pl89 : places Tryd.prog 89 = some [(0, 1), (1, 1)] := by kernel_rfl
theorem sc94 : scal Tryd.prog 94 = true := by kernel_rfl
theorem sz94 : siz Tryd.prog 94 = some 1 := by kernel_rfl
theorem ze94 : zer Tryd.prog 94 = some (.nilIface) := by kernel_rfl
theorem sc95 : scal Tryd.prog 95 = true := by kernel_rfl
theorem sz95 : siz Tryd.prog 95 = some 1 := by kernel_rfl
theorem ze95 : zer Tryd.prog 95 = some (.nilIface) := by kernel_rfl
theorem sc102 : scal Tryd.prog 102 = true := by kernel_rfl
theorem sz102 : siz Tryd.prog 102 = some 1 := by kernel_rfl
theorem ze102 : zer Tryd.prog 102 = some (.slice none 0 0) := by kernel_rfl
theorem se102 : selt Tryd.prog 102 = some (108, 3) := by kernel_rfl
theorem sc103 : scal Tryd.prog 103 = true := by kernel_rfl
theorem sz103 : siz Tryd.prog 103 = some 1 := by kernel_rfl
theorem ze103 : zer Tryd.prog 103 = some (.slice none 0 0) := by kernel_rfl
theorem se103 : selt Tryd.prog 103 = some (111, 3) := by kernel_rfl
theorem ag104 : aggOf Tryd.prog 104 = some 3 := by kernel_rfl
theorem sz104 : siz Tryd.prog 104 = some 3 := by kernel_rfl
theorem ze104 : zer Tryd.prog 104 = some (.agg #[.slice none 0 0, .slice none 0 0, .int .i64 0]) := by kernel_rfl
theorem fl104_0 : fld Tryd.prog 104 0 = some 0 := by kernel_rfl
theorem fl104_1 : fld Tryd.prog 104 1 = some 1 := by kernel_rfl
theorem fl104_2 : fld Tryd.prog 104 2 = some 2 := by kernel_rfl
theorem pl104 : places Tryd.prog 104 = some [(0, 1), (1, 1), (2, 1)] := by kernel_rfl
theorem ag105 : aggOf Tryd.prog 105 = some 3 := by kernel_rfl
theorem sz105 : siz Tryd.prog 105 = some 3 := by kernel_rfl
theorem ze105 : zer Tryd.prog 105 = some (.agg #[.slice none 0 0, .slice none 0 0, .int .i64 0]) := by kernel_rfl
theorem fl105_0 : fld Tryd.prog 105 0 = some 0 := by kernel_rfl
theorem fl105_1 : fld Tryd.prog 105 1 = some 1 := by kernel_rfl
theorem fl105_2 : fld Tryd.prog 105 2 = some 2 := by kernel_rfl
theorem pl105 : places Tryd.prog 105 = some [(0, 1), (1, 1), (2, 1)] := by kernel_rfl
theorem sc106 : scal Tryd.prog 106 = true := by kernel_rfl
theorem sz106 : siz Tryd.prog 106 = some 1 := by kernel_rfl
theorem ze106 : zer Tryd.prog 106 = some (.int .u16 0) := by kernel_rfl
theorem ag107 : aggOf Tryd.prog 107 = some 3 := by kernel_rfl
theorem sz107 : siz Tryd.prog 107 = some 3 := by kernel_rfl
theorem ze107 : zer Tryd.prog 107 = some (.agg #[.int .u16 0, .int .u16 0, .int .u16 0]) := by kernel_rfl
theorem fl107_0 : fld Tryd.prog 107 0 = some 0 := by kernel_rfl
theorem fl107_1 : fld Tryd.prog 107 1 = some 1 := by kernel_rfl
theorem fl107_2 : fld Tryd.prog 107 2 = some 2 := by kernel_rfl
theorem pl107 : places Tryd.prog 107 = some [(0, 1), (1, 1), (2, 1)] := by kernel_rfl
theorem ag108 : aggOf Tryd.prog 108 = some 3 := by kernel_rfl
theorem sz108 : siz Tryd.prog 108 = some 3 := by kernel_rfl
theorem ze108 : zer Tryd.prog 108 = some (.agg #[.int .u16 0, .int .u16 0, .int .u16 0]) := by kernel_rfl
theorem fl108_0 : fld Tryd.prog 108 0 = some 0 := by kernel_rfl
theorem fl108_1 : fld Tryd.prog 108 1 = some 1 := by kernel_rfl
theorem fl108_2 : fld Tryd.prog 108 2 = some 2 := by kernel_rfl
theorem pl108 : places Tryd.prog 108 = some [(0, 1), (1, 1), (2, 1)] := by kernel_rfl
theorem ag110 : aggOf Tryd.prog 110 = some 3 := by kernel_rfl
theorem sz110 : siz Tryd.prog 110 = some 3 := by kernel_rfl
theorem ze110 : zer Tryd.prog 110 = some (.agg #[.int .u32 0, .int .u32 0, .int .u32 0]) := by kernel_rfl
theorem fl110_0 : fld Tryd.prog 110 0 = some 0 := by kernel_rfl
theorem fl110_1 : fld Tryd.prog 110 1 = some 1 := by kernel_rfl
theorem fl110_2 : fld Tryd.prog 110 2 = some 2 := by kernel_rfl
theorem pl110 : places Tryd.prog 110 = some [(0, 1), (1, 1), (2, 1)] := by kernel_rfl
theorem ag111 : aggOf Tryd.prog 111 = some 3 := by kernel_rfl
theorem sz111 : siz Tryd.prog 111 = some 3 := by kernel_rfl
theorem ze111 : zer Tryd.prog 111 = some (.agg #[.int .u32 0, .int .u32 0, .int .u32 0]) := by kernel_rfl
theorem fl111_0 : fld Tryd.prog 111 0 = some 0 := by kernel_rfl
theorem fl111_1 : fld Tryd.prog 111 1 = some 1 := by kernel_rfl
theorem fl111_2 : fld Tryd.prog 111 2 = some 2 := by kernel_rfl
theorem pl111 : places Tryd.prog 111 = some [(0, 1), (1, 1), (2, 1)] := by kernel_rfl
theorem sc114 : scal Tryd.prog 114 = true := by kernel_rfl
theorem sz114 : siz Tryd.prog 114 = some 1 := by kernel_rfl
theorem ze114 : zer Tryd.prog 114 = some (.pointer none) := by kernel_rfl
theorem sc115 : scal Tryd.prog 115 = true := by kernel_rfl
theorem sz115 : siz Tryd.prog 115 = some 1 := by kernel_rfl
theorem ze115 : zer Tryd.prog 115 = some (.pointer none) := by kernel_rfl
theorem sc116 : scal Tryd.prog 116 = true := by kernel_rfl
theorem sz116 : siz Tryd.prog 116 = some 1 := by kernel_rfl
theorem ze116 : zer Tryd.prog 116 = some (.int .u64 0) := by kernel_rfl
theorem sc117 : scal Tryd.prog 117 = true := by kernel_rfl
theorem sz117 : siz Tryd.prog 117 = some 1 := by kernel_rfl
theorem ze117 : zer Tryd.prog 117 = some (.pointer none) := by kernel_rfl
theorem ag118 : aggOf Tryd.prog 118 = some 2 := by kernel_rfl
theorem sz118 : siz Tryd.prog 118 = some 2 := by kernel_rfl
theorem ze118 : zer Tryd.prog 118 = some (.agg #[.int .u8 0, .int .u8 0]) := by kernel_rfl
theorem fl118_0 : fld Tryd.prog 118 0 = some 0 := by kernel_rfl
theorem fl118_1 : fld Tryd.prog 118 1 = some 1 := by kernel_rfl
theorem pl118 : places Tryd.prog 118 = some [(0, 1), (1, 1)] := by kernel_rfl
theorem ag119 : aggOf Tryd.prog 119 = some 2 := by kernel_rfl
theorem sz119 : siz Tryd.prog 119 = some 2 := by kernel_rfl
theorem ze119 : zer Tryd.prog 119 = some (.agg #[.int .u8 0, .int .u8 0]) := by kernel_rfl
theorem fl119_0 : fld Tryd.prog 119 0 = some 0 := by kernel_rfl
theorem fl119_1 : fld Tryd.prog 119 1 = some 1 := by kernel_rfl
theorem pl119 : places Tryd.prog 119 = some [(0, 1), (1, 1)] := by kernel_rfl
theorem ag120 : aggOf Tryd.prog 120 = some 32 := by kernel_rfl
theorem sz120 : siz Tryd.prog 120 = some 32 := by kernel_rfl
theorem ze120 : zer Tryd.prog 120 = some (.agg #[.int .u8 0, .int .u8 0, .int .u8 0, .int .u8 0, .int .u8 0, .int .u8 0, .int .u8 0, .int .u8 0, .int .u8 0, .int .u8 0, .int .u8 0, .int .u8 0, .int .u8 0, .int .u8 0, .int .u8 0, .int .u8 0, .int .u8 0, .int .u8 0, .int .u8 0, .int .u8 0, .int .u8 0, .int .u8 0, .int .u8 0, .int .u8 0, .int .u8 0, .int .u8 0, .int .u8 0, .int .u8 0, .int .u8 0, .int .u8 0, .int .u8 0, .int .u8 0]) := by kernel_rfl
theorem ae120 : aelt Tryd.prog 120 = some (16, 119, 2) := by kernel_rfl
theorem sc121 : scal Tryd.prog 121 = true := by kernel_rfl
theorem sz121 : siz Tryd.prog 121 = some 1 := by kernel_rfl
theorem ag124 : aggOf Tryd.prog 124 = some 4 := by kernel_rfl
theorem sz124 : siz Tryd.prog 124 = some 4 := by kernel_rfl
theorem ze124 : zer Tryd.prog 124 = some (.agg #[.pointer none, .pointer none, .pointer none, str []]) := by kernel_rfl
theorem fl124_0 : fld Tryd.prog 124 0 = some 0 := by kernel_rfl
theorem fl124_1 : fld Tryd.prog 124 1 = some 1 := by kernel_rfl
theorem fl124_2 : fld Tryd.prog 124 2 = some 2 := by kernel_rfl
theorem fl124_3 : fld Tryd.prog 124 3 = some 3 := by kernel_rfl
theorem pl124 : places Tryd.prog 124 = some [(0, 1), (1, 1), (2, 1), (3, 1)] := by kernel_rfl
theorem ag125 : aggOf Tryd.prog 125 = some 4 := by kernel_rfl
theorem sz125 : siz Tryd.prog 125 = some 4 := by kernel_rfl
theorem ze125 : zer Tryd.prog 125 = some (.agg #[.pointer none, .pointer none, .pointer none, str []]) := by kernel_rfl
theorem fl125_0 : fld Tryd.prog 125 0 = some 0 := by kernel_rfl
theorem fl125_1 : fld Tryd.prog 125 1 = some 1 := by kernel_rfl
theorem fl125_2 : fld Tryd.prog 125 2 = some 2 := by kernel_rfl
theorem fl125_3 : fld Tryd.prog 125 3 = some 3 := by kernel_rfl
theorem pl125 : places Tryd.prog 125 = some [(0, 1), (1, 1), (2, 1), (3, 1)] := by kernel_rfl
theorem ag126 : aggOf Tryd.prog 126 = some 0 := by kernel_rfl
theorem sz126 : siz Tryd.prog 126 = some 0 := by kernel_rfl
theorem ze126 : zer Tryd.prog 126 = some (.agg #[]) := by kernel_rfl
theorem ae126 : aelt Tryd.prog 126 = some (0, 16, 1) := by kernel_rfl
theorem ag127 : aggOf Tryd.prog 127 = some 0 := by kernel_rfl
theorem sz127 : siz Tryd.prog 127 = some 0 := by kernel_rfl
theorem ze127 : zer Tryd.prog 127 = some (.agg #[]) := by kernel_rfl
theorem pl127 : places Tryd.prog 127 = some [(0, 0)] := by kernel_rfl
theorem ag128 : aggOf Tryd.prog 128 = some 0 := by kernel_rfl
theorem sz128 : siz Tryd.prog 128 = some 0 := by kernel_rfl
theorem ze128 : zer Tryd.prog 128 = some (.agg #[]) := by kernel_rfl
theorem pl128 : places Tryd.prog 128 = some [(0, 0)] := by kernel_rfl
theorem sc129 : scal Tryd.prog 129 = true := by kernel_rfl
theorem sz129 : siz Tryd.prog 129 = some 1 := by kernel_rfl
theorem ze129 : zer Tryd.prog 129 = some (.int .u8 0) := by kernel_rfl
theorem sc130 : scal Tryd.prog 130 = true := by kernel_rfl
theorem sz130 : siz Tryd.prog 130 = some 1 := by kernel_rfl
theorem ze130 : zer Tryd.prog 130 = some (.int .u8 0) := by kernel_rfl
theorem sc132 : scal Tryd.prog 132 = true := by kernel_rfl
theorem sz132 : siz Tryd.prog 132 = some 1 := by kernel_rfl
theorem ze132 : zer Tryd.prog 132 = some (.int .i32 0) := by kernel_rfl
theorem sc133 : scal Tryd.prog 133 = true := by kernel_rfl
theorem sz133 : siz Tryd.prog 133 = some 1 := by kernel_rfl
theorem ze133 : zer Tryd.prog 133 = some (.int .i32 0) := by kernel_rfl
theorem ag134 : aggOf Tryd.prog 134 = some 11 := by kernel_rfl
theorem sz134 : siz Tryd.prog 134 = some 11 := by kernel_rfl
theorem ze134 : zer Tryd.prog 134 = some (.agg #[.int .u64 0, .int .u64 0, .int .u32 0, .int .u8 0, .int .u8 0, .int .u8 0, .int .u8 0, .nilFunc, .pointer none, .int .i32 0, .int .i32 0]) := by kernel_rfl
theorem fl134_0 : fld Tryd.prog 134 0 = some 0 := by kernel_rfl
theorem fl134_1 : fld Tryd.prog 134 1 = some 1 := by kernel_rfl
theorem fl134_2 : fld Tryd.prog 134 2 = some 2 := by kernel_rfl
theorem fl134_3 : fld Tryd.prog 134 3 = some 3 := by kernel_rfl
theorem fl134_4 : fld Tryd.prog 134 4 = some 4 := by kernel_rfl
theorem fl134_5 : fld Tryd.prog 134 5 = some 5 := by kernel_rfl
theorem fl134_6 : fld Tryd.prog 134 6 = some 6 := by kernel_rfl
theorem fl134_7 : fld Tryd.prog 134 7 = some 7 := by kernel_rfl
theorem fl134_8 : fld Tryd.prog 134 8 = some 8 := by kernel_rfl
theorem fl134_9 : fld Tryd.prog 134 9 = some 9 := by kernel_rfl
theorem fl134_10 : fld Tryd.prog 134 10 = some 10 := by kernel_rfl
theorem pl134 : places Tryd.prog 134 = some [(0, 1), (1, 1), (2, 1), (3, 1), (4, 1), (5, 1), (6, 1), (7, 1), (8, 1), (9, 1), (10, 1)] := by kernel_rfl
theorem ag135 : aggOf Tryd.prog 135 = some 11 := by kernel_rfl
theorem sz135 : siz Tryd.prog 135 = some 11 := by kernel_rfl
theorem ze135 : zer Tryd.prog 135 = some (.agg #[.int .u64 0, .int .u64 0, .int .u32 0, .int .u8 0, .int .u8 0, .int .u8 0, .int .u8 0, .nilFunc, .pointer none, .int .i32 0, .int .i32 0]) := by kernel_rfl
theorem fl135_0 : fld Tryd.prog 135 0 = some 0 := by kernel_rfl
theorem fl135_1 : fld Tryd.prog 135 1 = some 1 := by kernel_rfl
theorem fl135_2 : fld Tryd.prog 135 2 = some 2 := by kernel_rfl
theorem fl135_3 : fld Tryd.prog 135 3 = some 3 := by kernel_rfl
theorem fl135_4 : fld Tryd.prog 135 4 = some 4 := by kernel_rfl
theorem fl135_5 : fld Tryd.prog 135 5 = some 5 := by kernel_rfl
theorem fl135_6 : fld Tryd.prog 135 6 = some 6 := by kernel_rfl
theorem fl135_7 : fld Tryd.prog 135 7 = some 7 := by kernel_rfl
theorem fl135_8 : fld Tryd.prog 135 8 = some 8 := by kernel_rfl
theorem fl135_9 : fld Tryd.prog 135 9 = some 9 := by kernel_rfl
theorem fl135_10 : fld Tryd.prog 135 10 = some 10 := by kernel_rfl
theorem pl135 : places Tryd.prog 135 = some [(0, 1), (1, 1), (2, 1), (3, 1), (4, 1), (5, 1), (6, 1), (7, 1), (8, 1), (9, 1), (10, 1)] := by kernel_rfl
theorem te5 : ElemInfo Tryd.prog 5 (.int .u8 0) 1 1 := elem_of (by kernel_rfl) rfl (by decide)
theorem te9 : ElemInfo Tryd.prog 9 (str []) 1 16 := elem_of (by kernel_rfl) rfl (by decide)
theorem te22 : ElemInfo Tryd.prog 22 (.int .u64 0) 1 8 := elem_of (by kernel_rfl) rfl (by decide)
theorem te34 : ElemInfo Tryd.prog 34 (.agg #[.int .u8 0, .int .u8 0, .int .u8 0, .int .u8 0, .int .u8 0, .int .u8 0, .int .u8 0, .int .u8 0, .int .u8 0, .int .u8 0, .int .u8 0, .int .u8 0, .int .u8 0, .int .u8 0, .int .u8 0, .int .u8 0, .int .u8 0, .int .u8 0, .int .u8 0, .int .u8 0]) 20 20 := elem_of (by kernel_rfl) rfl (by decide)
theorem te39 : ElemInfo Tryd.prog 39 (.agg #[.int .u64 0, .int .u64 0]) 2 16 := elem_of (by kernel_rfl) rfl (by decide)
theorem te61 : ElemInfo Tryd.prog 61 (.agg #[.int .i64 0, .int .u64 0]) 2 16 := elem_of (by kernel_rfl) rfl (by decide)
theorem te83 : ElemInfo Tryd.prog 83 (.agg #[.int .i64 0, .int .i64 0]) 2 16 := elem_of (by kernel_rfl) rfl (by decide)
theorem te108 : ElemInfo Tryd.prog 108 (.agg #[.int .u16 0, .int .u16 0, .int .u16 0]) 3 6 := elem_of (by kernel_rfl) rfl (by decide)
theorem te111 : ElemInfo Tryd.prog 111 (.agg #[.int .u32 0, .int .u32 0, .int .u32 0]) 3 12 := elem_of (by kernel_rfl) rfl (by decide)
end Go.Proofs.YtoabimaidpbkiaaDoor
