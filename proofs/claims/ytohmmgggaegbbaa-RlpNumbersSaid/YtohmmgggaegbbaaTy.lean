/- Facts on the types of the program, by number. No condition. -/
import Derived.Test.YtohmmgggaegbbaaProg
import Derived.Test.YtohmmgggaegbbaaG10
import Derived.WalkKit
namespace Go.Proofs.Ytohmmgggaegbbaa
set_option linter.unusedVariables false
set_option linter.unusedSimpArgs false
open Go Go.RowKit
theorem sc2 : scal Try.prog 2 = true := by kernel_rfl
theorem sz2 : siz Try.prog 2 = some 1 := by kernel_rfl
theorem ze2 : zer Try.prog 2 = some (.int .i64 0) := by kernel_rfl
theorem sc3 : scal Try.prog 3 = true := by kernel_rfl
theorem sz3 : siz Try.prog 3 = some 1 := by kernel_rfl
theorem ze3 : zer Try.prog 3 = some (.int .i64 0) := by kernel_rfl
theorem sc4 : scal Try.prog 4 = true := by kernel_rfl
theorem sz4 : siz Try.prog 4 = some 1 := by kernel_rfl
theorem ze4 : zer Try.prog 4 = some (.bool false) := by kernel_rfl
theorem sc5 : scal Try.prog 5 = true := by kernel_rfl
theorem sz5 : siz Try.prog 5 = some 1 := by kernel_rfl
theorem ze5 : zer Try.prog 5 = some (.int .u8 0) := by kernel_rfl
theorem sc6 : scal Try.prog 6 = true := by kernel_rfl
theorem sz6 : siz Try.prog 6 = some 1 := by kernel_rfl
theorem ze6 : zer Try.prog 6 = some (.int .u8 0) := by kernel_rfl
theorem ag7 : aggOf Try.prog 7 = some 4 := by kernel_rfl
theorem sz7 : siz Try.prog 7 = some 4 := by kernel_rfl
theorem ze7 : zer Try.prog 7 = some (.agg #[.int .i64 0, .int .i64 0, .bool false, .int .u8 0]) := by kernel_rfl
theorem fl7_0 : fld Try.prog 7 0 = some 0 := by kernel_rfl
theorem fl7_1 : fld Try.prog 7 1 = some 1 := by kernel_rfl
theorem fl7_2 : fld Try.prog 7 2 = some 2 := by kernel_rfl
theorem fl7_3 : fld Try.prog 7 3 = some 3 := by kernel_rfl
theorem pl7 : places Try.prog 7 = some [(0, 1), (1, 1), (2, 1), (3, 1)] := by kernel_rfl
theorem ag8 : aggOf Try.prog 8 = some 4 := by kernel_rfl
theorem sz8 : siz Try.prog 8 = some 4 := by kernel_rfl
theorem ze8 : zer Try.prog 8 = some (.agg #[.int .i64 0, .int .i64 0, .bool false, .int .u8 0]) := by kernel_rfl
theorem fl8_0 : fld Try.prog 8 0 = some 0 := by kernel_rfl
theorem fl8_1 : fld Try.prog 8 1 = some 1 := by kernel_rfl
theorem fl8_2 : fld Try.prog 8 2 = some 2 := by kernel_rfl
theorem fl8_3 : fld Try.prog 8 3 = some 3 := by kernel_rfl
theorem pl8 : places Try.prog 8 = some [(0, 1), (1, 1), (2, 1), (3, 1)] := by kernel_rfl
theorem sc9 : scal Try.prog 9 = true := by kernel_rfl
theorem sz9 : siz Try.prog 9 = some 1 := by kernel_rfl
theorem ze9 : zer Try.prog 9 = some (str []) := by kernel_rfl
theorem sc10 : scal Try.prog 10 = true := by kernel_rfl
theorem sz10 : siz Try.prog 10 = some 1 := by kernel_rfl
theorem ze10 : zer Try.prog 10 = some (str []) := by kernel_rfl
theorem sc11 : scal Try.prog 11 = true := by kernel_rfl
theorem sz11 : siz Try.prog 11 = some 1 := by kernel_rfl
theorem ze11 : zer Try.prog 11 = some (str []) := by kernel_rfl
theorem sc12 : scal Try.prog 12 = true := by kernel_rfl
theorem sz12 : siz Try.prog 12 = some 1 := by kernel_rfl
theorem ze12 : zer Try.prog 12 = some (.int .u64 0) := by kernel_rfl
theorem ag13 : aggOf Try.prog 13 = some 2 := by kernel_rfl
theorem sz13 : siz Try.prog 13 = some 2 := by kernel_rfl
theorem ze13 : zer Try.prog 13 = some (.agg #[str [], .int .u64 0]) := by kernel_rfl
theorem fl13_0 : fld Try.prog 13 0 = some 0 := by kernel_rfl
theorem fl13_1 : fld Try.prog 13 1 = some 1 := by kernel_rfl
theorem pl13 : places Try.prog 13 = some [(0, 1), (1, 1)] := by kernel_rfl
theorem ag14 : aggOf Try.prog 14 = some 2 := by kernel_rfl
theorem sz14 : siz Try.prog 14 = some 2 := by kernel_rfl
theorem ze14 : zer Try.prog 14 = some (.agg #[str [], .int .u64 0]) := by kernel_rfl
theorem fl14_0 : fld Try.prog 14 0 = some 0 := by kernel_rfl
theorem fl14_1 : fld Try.prog 14 1 = some 1 := by kernel_rfl
theorem pl14 : places Try.prog 14 = some [(0, 1), (1, 1)] := by kernel_rfl
theorem sc15 : scal Try.prog 15 = true := by kernel_rfl
theorem sz15 : siz Try.prog 15 = some 1 := by kernel_rfl
theorem ze15 : zer Try.prog 15 = some (.pointer none) := by kernel_rfl
theorem sc16 : scal Try.prog 16 = true := by kernel_rfl
theorem sz16 : siz Try.prog 16 = some 1 := by kernel_rfl
theorem ze16 : zer Try.prog 16 = some (.pointer none) := by kernel_rfl
theorem sc17 : scal Try.prog 17 = true := by kernel_rfl
theorem sz17 : siz Try.prog 17 = some 1 := by kernel_rfl
theorem ze17 : zer Try.prog 17 = some (.pointer none) := by kernel_rfl
theorem ag18 : aggOf Try.prog 18 = some 1 := by kernel_rfl
theorem sz18 : siz Try.prog 18 = some 1 := by kernel_rfl
theorem ze18 : zer Try.prog 18 = some (.agg #[.pointer none]) := by kernel_rfl
theorem fl18_0 : fld Try.prog 18 0 = some 0 := by kernel_rfl
theorem pl18 : places Try.prog 18 = some [(0, 1)] := by kernel_rfl
theorem ag19 : aggOf Try.prog 19 = some 1 := by kernel_rfl
theorem sz19 : siz Try.prog 19 = some 1 := by kernel_rfl
theorem ze19 : zer Try.prog 19 = some (.agg #[.pointer none]) := by kernel_rfl
theorem fl19_0 : fld Try.prog 19 0 = some 0 := by kernel_rfl
theorem pl19 : places Try.prog 19 = some [(0, 1)] := by kernel_rfl
theorem sc20 : scal Try.prog 20 = true := by kernel_rfl
theorem sz20 : siz Try.prog 20 = some 1 := by kernel_rfl
theorem ze20 : zer Try.prog 20 = some (.nilIface) := by kernel_rfl
theorem sc21 : scal Try.prog 21 = true := by kernel_rfl
theorem sz21 : siz Try.prog 21 = some 1 := by kernel_rfl
theorem ze21 : zer Try.prog 21 = some (.int .i32 0) := by kernel_rfl
theorem sc22 : scal Try.prog 22 = true := by kernel_rfl
theorem sz22 : siz Try.prog 22 = some 1 := by kernel_rfl
theorem ze22 : zer Try.prog 22 = some (.slice none 0 0) := by kernel_rfl
theorem se22 : selt Try.prog 22 = some (5, 1) := by kernel_rfl
theorem sc23 : scal Try.prog 23 = true := by kernel_rfl
theorem sz23 : siz Try.prog 23 = some 1 := by kernel_rfl
theorem ze23 : zer Try.prog 23 = some (.slice none 0 0) := by kernel_rfl
theorem se23 : selt Try.prog 23 = some (25, 3) := by kernel_rfl
theorem ag24 : aggOf Try.prog 24 = some 3 := by kernel_rfl
theorem sz24 : siz Try.prog 24 = some 3 := by kernel_rfl
theorem ze24 : zer Try.prog 24 = some (.agg #[.bool false, .slice none 0 0, .slice none 0 0]) := by kernel_rfl
theorem fl24_0 : fld Try.prog 24 0 = some 0 := by kernel_rfl
theorem fl24_1 : fld Try.prog 24 1 = some 1 := by kernel_rfl
theorem fl24_2 : fld Try.prog 24 2 = some 2 := by kernel_rfl
theorem pl24 : places Try.prog 24 = some [(0, 1), (1, 1), (2, 1)] := by kernel_rfl
theorem ag25 : aggOf Try.prog 25 = some 3 := by kernel_rfl
theorem sz25 : siz Try.prog 25 = some 3 := by kernel_rfl
theorem ze25 : zer Try.prog 25 = some (.agg #[.bool false, .slice none 0 0, .slice none 0 0]) := by kernel_rfl
theorem fl25_0 : fld Try.prog 25 0 = some 0 := by kernel_rfl
theorem fl25_1 : fld Try.prog 25 1 = some 1 := by kernel_rfl
theorem fl25_2 : fld Try.prog 25 2 = some 2 := by kernel_rfl
theorem pl25 : places Try.prog 25 = some [(0, 1), (1, 1), (2, 1)] := by kernel_rfl
theorem sc28 : scal Try.prog 28 = true := by kernel_rfl
theorem sz28 : siz Try.prog 28 = some 1 := by kernel_rfl
theorem ze28 : zer Try.prog 28 = some (.int .i64 0) := by kernel_rfl
theorem sc52 : scal Try.prog 52 = true := by kernel_rfl
theorem sz52 : siz Try.prog 52 = some 1 := by kernel_rfl
theorem ze52 : zer Try.prog 52 = some (.pointer none) := by kernel_rfl
theorem sc54 : scal Try.prog 54 = true := by kernel_rfl
theorem sz54 : siz Try.prog 54 = some 1 := by kernel_rfl
theorem ze54 : zer Try.prog 54 = some (.pointer none) := by kernel_rfl
theorem sc55 : scal Try.prog 55 = true := by kernel_rfl
theorem sz55 : siz Try.prog 55 = some 1 := by kernel_rfl
theorem ze55 : zer Try.prog 55 = some (.slice none 0 0) := by kernel_rfl
theorem se55 : selt Try.prog 55 = some (22, 1) := by kernel_rfl
theorem ag56 : aggOf Try.prog 56 = some 2 := by kernel_rfl
theorem sz56 : siz Try.prog 56 = some 2 := by kernel_rfl
theorem ze56 : zer Try.prog 56 = some (.agg #[.slice none 0 0, .slice none 0 0]) := by kernel_rfl
theorem fl56_0 : fld Try.prog 56 0 = some 0 := by kernel_rfl
theorem fl56_1 : fld Try.prog 56 1 = some 1 := by kernel_rfl
theorem pl56 : places Try.prog 56 = some [(0, 1), (1, 1)] := by kernel_rfl
theorem ag57 : aggOf Try.prog 57 = some 2 := by kernel_rfl
theorem sz57 : siz Try.prog 57 = some 2 := by kernel_rfl
theorem ze57 : zer Try.prog 57 = some (.agg #[.slice none 0 0, .slice none 0 0]) := by kernel_rfl
theorem fl57_0 : fld Try.prog 57 0 = some 0 := by kernel_rfl
theorem fl57_1 : fld Try.prog 57 1 = some 1 := by kernel_rfl
theorem pl57 : places Try.prog 57 = some [(0, 1), (1, 1)] := by kernel_rfl
theorem sc58 : scal Try.prog 58 = true := by kernel_rfl
theorem sz58 : siz Try.prog 58 = some 1 := by kernel_rfl
theorem ze58 : zer Try.prog 58 = some (.pointer none) := by kernel_rfl
theorem ag59 : aggOf Try.prog 59 = some 5 := by kernel_rfl
theorem sz59 : siz Try.prog 59 = some 5 := by kernel_rfl
theorem ze59 : zer Try.prog 59 = some (.agg #[.slice none 0 0, .slice none 0 0, .slice none 0 0, .slice none 0 0, .int .i64 0]) := by kernel_rfl
theorem fl59_0 : fld Try.prog 59 0 = some 0 := by kernel_rfl
theorem fl59_1 : fld Try.prog 59 1 = some 1 := by kernel_rfl
theorem fl59_2 : fld Try.prog 59 2 = some 2 := by kernel_rfl
theorem fl59_3 : fld Try.prog 59 3 = some 3 := by kernel_rfl
theorem fl59_4 : fld Try.prog 59 4 = some 4 := by kernel_rfl
theorem pl59 : places Try.prog 59 = some [(0, 1), (1, 1), (2, 1), (3, 1), (4, 1)] := by kernel_rfl
theorem ag60 : aggOf Try.prog 60 = some 5 := by kernel_rfl
theorem sz60 : siz Try.prog 60 = some 5 := by kernel_rfl
theorem ze60 : zer Try.prog 60 = some (.agg #[.slice none 0 0, .slice none 0 0, .slice none 0 0, .slice none 0 0, .int .i64 0]) := by kernel_rfl
theorem fl60_0 : fld Try.prog 60 0 = some 0 := by kernel_rfl
theorem fl60_1 : fld Try.prog 60 1 = some 1 := by kernel_rfl
theorem fl60_2 : fld Try.prog 60 2 = some 2 := by kernel_rfl
theorem fl60_3 : fld Try.prog 60 3 = some 3 := by kernel_rfl
theorem fl60_4 : fld Try.prog 60 4 = some 4 := by kernel_rfl
theorem pl60 : places Try.prog 60 = some [(0, 1), (1, 1), (2, 1), (3, 1), (4, 1)] := by kernel_rfl
theorem sc64 : scal Try.prog 64 = true := by kernel_rfl
theorem sz64 : siz Try.prog 64 = some 1 := by kernel_rfl
theorem ze64 : zer Try.prog 64 = some (.int .u64 0) := by kernel_rfl
theorem ag65 : aggOf Try.prog 65 = some 4 := by kernel_rfl
theorem sz65 : siz Try.prog 65 = some 4 := by kernel_rfl
theorem ze65 : zer Try.prog 65 = some (.agg #[.int .u64 0, .int .u64 0, .int .u64 0, .int .u64 0]) := by kernel_rfl
theorem ae65 : aelt Try.prog 65 = some (4, 64, 1) := by kernel_rfl
theorem ag66 : aggOf Try.prog 66 = some 4 := by kernel_rfl
theorem sz66 : siz Try.prog 66 = some 4 := by kernel_rfl
theorem ze66 : zer Try.prog 66 = some (.agg #[.int .u64 0, .int .u64 0, .int .u64 0, .int .u64 0]) := by kernel_rfl
theorem ae66 : aelt Try.prog 66 = some (4, 64, 1) := by kernel_rfl
theorem sc82 : scal Try.prog 82 = true := by kernel_rfl
theorem sz82 : siz Try.prog 82 = some 1 := by kernel_rfl
theorem ze82 : zer Try.prog 82 = some (.slice none 0 0) := by kernel_rfl
theorem se82 : selt Try.prog 82 = some (5, 1) := by kernel_rfl
theorem sc84 : scal Try.prog 84 = true := by kernel_rfl
theorem sz84 : siz Try.prog 84 = some 1 := by kernel_rfl
theorem ze84 : zer Try.prog 84 = some (.slice none 0 0) := by kernel_rfl
theorem se84 : selt Try.prog 84 = some (5, 1) := by kernel_rfl
theorem sc85 : scal Try.prog 85 = true := by kernel_rfl
theorem sz85 : siz Try.prog 85 = some 1 := by kernel_rfl
theorem ze85 : zer Try.prog 85 = some (.slice none 0 0) := by kernel_rfl
theorem se85 : selt Try.prog 85 = some (97, 1) := by kernel_rfl
theorem sc86 : scal Try.prog 86 = true := by kernel_rfl
theorem sz86 : siz Try.prog 86 = some 1 := by kernel_rfl
theorem ze86 : zer Try.prog 86 = some (.slice none 0 0) := by kernel_rfl
theorem se86 : selt Try.prog 86 = some (97, 1) := by kernel_rfl
theorem sc95 : scal Try.prog 95 = true := by kernel_rfl
theorem sz95 : siz Try.prog 95 = some 1 := by kernel_rfl
theorem ze95 : zer Try.prog 95 = some (.slice none 0 0) := by kernel_rfl
theorem se95 : selt Try.prog 95 = some (64, 1) := by kernel_rfl
theorem sc97 : scal Try.prog 97 = true := by kernel_rfl
theorem sz97 : siz Try.prog 97 = some 1 := by kernel_rfl
theorem ze97 : zer Try.prog 97 = some (.int .u32 0) := by kernel_rfl
theorem sc99 : scal Try.prog 99 = true := by kernel_rfl
theorem sz99 : siz Try.prog 99 = some 1 := by kernel_rfl
theorem ze99 : zer Try.prog 99 = some (.int .u64 0) := by kernel_rfl
theorem ag100 : aggOf Try.prog 100 = some 32 := by kernel_rfl
theorem sz100 : siz Try.prog 100 = some 32 := by kernel_rfl
theorem ze100 : zer Try.prog 100 = some (.agg #[.int .u8 0, .int .u8 0, .int .u8 0, .int .u8 0, .int .u8 0, .int .u8 0, .int .u8 0, .int .u8 0, .int .u8 0, .int .u8 0, .int .u8 0, .int .u8 0, .int .u8 0, .int .u8 0, .int .u8 0, .int .u8 0, .int .u8 0, .int .u8 0, .int .u8 0, .int .u8 0, .int .u8 0, .int .u8 0, .int .u8 0, .int .u8 0, .int .u8 0, .int .u8 0, .int .u8 0, .int .u8 0, .int .u8 0, .int .u8 0, .int .u8 0, .int .u8 0]) := by kernel_rfl
theorem ae100 : aelt Try.prog 100 = some (32, 5, 1) := by kernel_rfl
theorem ag111 : aggOf Try.prog 111 = some 4 := by kernel_rfl
theorem sz111 : siz Try.prog 111 = some 4 := by kernel_rfl
theorem ze111 : zer Try.prog 111 = some (.agg #[.pointer none, .pointer none, .pointer none, str []]) := by kernel_rfl
theorem fl111_0 : fld Try.prog 111 0 = some 0 := by kernel_rfl
theorem fl111_1 : fld Try.prog 111 1 = some 1 := by kernel_rfl
theorem fl111_2 : fld Try.prog 111 2 = some 2 := by kernel_rfl
theorem fl111_3 : fld Try.prog 111 3 = some 3 := by kernel_rfl
theorem pl111 : places Try.prog 111 = some [(0, 1), (1, 1), (2, 1), (3, 1)] := by kernel_rfl
theorem ag112 : aggOf Try.prog 112 = some 4 := by kernel_rfl
theorem sz112 : siz Try.prog 112 = some 4 := by kernel_rfl
theorem ze112 : zer Try.prog 112 = some (.agg #[.pointer none, .pointer none, .pointer none, str []]) := by kernel_rfl
theorem fl112_0 : fld Try.prog 112 0 = some 0 := by kernel_rfl
theorem fl112_1 : fld Try.prog 112 1 = some 1 := by kernel_rfl
theorem fl112_2 : fld Try.prog 112 2 = some 2 := by kernel_rfl
theorem fl112_3 : fld Try.prog 112 3 = some 3 := by kernel_rfl
theorem pl112 : places Try.prog 112 = some [(0, 1), (1, 1), (2, 1), (3, 1)] := by kernel_rfl
theorem ag113 : aggOf Try.prog 113 = some 0 := by kernel_rfl
theorem sz113 : siz Try.prog 113 = some 0 := by kernel_rfl
theorem ze113 : zer Try.prog 113 = some (.agg #[]) := by kernel_rfl
theorem ae113 : aelt Try.prog 113 = some (0, 16, 1) := by kernel_rfl
theorem ag114 : aggOf Try.prog 114 = some 0 := by kernel_rfl
theorem sz114 : siz Try.prog 114 = some 0 := by kernel_rfl
theorem ze114 : zer Try.prog 114 = some (.agg #[]) := by kernel_rfl
theorem pl114 : places Try.prog 114 = some [(0, 0)] := by kernel_rfl
theorem ag115 : aggOf Try.prog 115 = some 0 := by kernel_rfl
theorem sz115 : siz Try.prog 115 = some 0 := by kernel_rfl
theorem ze115 : zer Try.prog 115 = some (.agg #[]) := by kernel_rfl
theorem pl115 : places Try.prog 115 = some [(0, 0)] := by kernel_rfl
theorem sc117 : scal Try.prog 117 = true := by kernel_rfl
theorem sz117 : siz Try.prog 117 = some 1 := by kernel_rfl
theorem ze117 : zer Try.prog 117 = some (.int .u8 0) := by kernel_rfl
theorem sc118 : scal Try.prog 118 = true := by kernel_rfl
theorem sz118 : siz Try.prog 118 = some 1 := by kernel_rfl
theorem ze118 : zer Try.prog 118 = some (.int .u8 0) := by kernel_rfl
theorem sc120 : scal Try.prog 120 = true := by kernel_rfl
theorem sz120 : siz Try.prog 120 = some 1 := by kernel_rfl
theorem ze120 : zer Try.prog 120 = some (.pointer none) := by kernel_rfl
theorem sc121 : scal Try.prog 121 = true := by kernel_rfl
theorem sz121 : siz Try.prog 121 = some 1 := by kernel_rfl
theorem ze121 : zer Try.prog 121 = some (.int .i32 0) := by kernel_rfl
theorem sc122 : scal Try.prog 122 = true := by kernel_rfl
theorem sz122 : siz Try.prog 122 = some 1 := by kernel_rfl
theorem ze122 : zer Try.prog 122 = some (.int .i32 0) := by kernel_rfl
theorem ag123 : aggOf Try.prog 123 = some 11 := by kernel_rfl
theorem sz123 : siz Try.prog 123 = some 11 := by kernel_rfl
theorem ze123 : zer Try.prog 123 = some (.agg #[.int .u64 0, .int .u64 0, .int .u32 0, .int .u8 0, .int .u8 0, .int .u8 0, .int .u8 0, .nilFunc, .pointer none, .int .i32 0, .int .i32 0]) := by kernel_rfl
theorem fl123_0 : fld Try.prog 123 0 = some 0 := by kernel_rfl
theorem fl123_1 : fld Try.prog 123 1 = some 1 := by kernel_rfl
theorem fl123_2 : fld Try.prog 123 2 = some 2 := by kernel_rfl
theorem fl123_3 : fld Try.prog 123 3 = some 3 := by kernel_rfl
theorem fl123_4 : fld Try.prog 123 4 = some 4 := by kernel_rfl
theorem fl123_5 : fld Try.prog 123 5 = some 5 := by kernel_rfl
theorem fl123_6 : fld Try.prog 123 6 = some 6 := by kernel_rfl
theorem fl123_7 : fld Try.prog 123 7 = some 7 := by kernel_rfl
theorem fl123_8 : fld Try.prog 123 8 = some 8 := by kernel_rfl
theorem fl123_9 : fld Try.prog 123 9 = some 9 := by kernel_rfl
theorem fl123_10 : fld Try.prog 123 10 = some 10 := by kernel_rfl
theorem pl123 : places Try.prog 123 = some [(0, 1), (1, 1), (2, 1), (3, 1), (4, 1), (5, 1), (6, 1), (7, 1), (8, 1), (9, 1), (10, 1)] := by kernel_rfl
theorem ag124 : aggOf Try.prog 124 = some 11 := by kernel_rfl
theorem sz124 : siz Try.prog 124 = some 11 := by kernel_rfl
theorem ze124 : zer Try.prog 124 = some (.agg #[.int .u64 0, .int .u64 0, .int .u32 0, .int .u8 0, .int .u8 0, .int .u8 0, .int .u8 0, .nilFunc, .pointer none, .int .i32 0, .int .i32 0]) := by kernel_rfl
theorem fl124_0 : fld Try.prog 124 0 = some 0 := by kernel_rfl
theorem fl124_1 : fld Try.prog 124 1 = some 1 := by kernel_rfl
theorem fl124_2 : fld Try.prog 124 2 = some 2 := by kernel_rfl
theorem fl124_3 : fld Try.prog 124 3 = some 3 := by kernel_rfl
theorem fl124_4 : fld Try.prog 124 4 = some 4 := by kernel_rfl
theorem fl124_5 : fld Try.prog 124 5 = some 5 := by kernel_rfl
theorem fl124_6 : fld Try.prog 124 6 = some 6 := by kernel_rfl
theorem fl124_7 : fld Try.prog 124 7 = some 7 := by kernel_rfl
theorem fl124_8 : fld Try.prog 124 8 = some 8 := by kernel_rfl
theorem fl124_9 : fld Try.prog 124 9 = some 9 := by kernel_rfl
theorem fl124_10 : fld Try.prog 124 10 = some 10 := by kernel_rfl
theorem pl124 : places Try.prog 124 = some [(0, 1), (1, 1), (2, 1), (3, 1), (4, 1), (5, 1), (6, 1), (7, 1), (8, 1), (9, 1), (10, 1)] := by kernel_rfl
theorem sc125 : scal Try.prog 125 = true := by kernel_rfl
theorem sz125 : siz Try.prog 125 = some 1 := by kernel_rfl
theorem te5 : ElemInfo Try.prog 5 (.int .u8 0) 1 1 := elem_of (by kernel_rfl) rfl (by decide)
theorem te22 : ElemInfo Try.prog 22 (.slice none 0 0) 1 24 := elem_of (by kernel_rfl) rfl (by decide)
theorem te25 : ElemInfo Try.prog 25 (.agg #[.bool false, .slice none 0 0, .slice none 0 0]) 3 56 := elem_of (by kernel_rfl) rfl (by decide)
theorem te64 : ElemInfo Try.prog 64 (.int .u64 0) 1 8 := elem_of (by kernel_rfl) rfl (by decide)
theorem te97 : ElemInfo Try.prog 97 (.int .u32 0) 1 4 := elem_of (by kernel_rfl) rfl (by decide)
end Go.Proofs.Ytohmmgggaegbbaa
