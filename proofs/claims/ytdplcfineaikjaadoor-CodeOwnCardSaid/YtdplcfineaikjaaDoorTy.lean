/- Facts on the types of the program, by number. No condition. -/
import Derived.Test.YtdplcfineaikjaaDoorProg
import Derived.Test.YtdplcfineaikjaaDoorG10
import Derived.WalkKit
namespace Go.Proofs.YtdplcfineaikjaaDoor
set_option linter.unusedVariables false
set_option linter.unusedSimpArgs false
open Go Go.RowKit
theorem sc2 : scal Tryd.prog 2 = true := by kernel_rfl
theorem sz2 : siz Tryd.prog 2 = some 1 := by kernel_rfl
theorem ze2 : zer Tryd.prog 2 = some (.int .i64 0) := by kernel_rfl
theorem sc3 : scal Tryd.prog 3 = true := by kernel_rfl
theorem sz3 : siz Tryd.prog 3 = some 1 := by kernel_rfl
theorem ze3 : zer Tryd.prog 3 = some (.int .i64 0) := by kernel_rfl
theorem sc4 : scal Tryd.prog 4 = true := by kernel_rfl
theorem sz4 : siz Tryd.prog 4 = some 1 := by kernel_rfl
theorem ze4 : zer Tryd.prog 4 = some (.bool false) := by kernel_rfl
theorem sc5 : scal Tryd.prog 5 = true := by kernel_rfl
theorem sz5 : siz Tryd.prog 5 = some 1 := by kernel_rfl
theorem ze5 : zer Tryd.prog 5 = some (.int .u8 0) := by kernel_rfl
theorem sc6 : scal Tryd.prog 6 = true := by kernel_rfl
theorem sz6 : siz Tryd.prog 6 = some 1 := by kernel_rfl
theorem ze6 : zer Tryd.prog 6 = some (.int .u8 0) := by kernel_rfl
theorem ag7 : aggOf Tryd.prog 7 = some 4 := by kernel_rfl
theorem sz7 : siz Tryd.prog 7 = some 4 := by kernel_rfl
theorem ze7 : zer Tryd.prog 7 = some (.agg #[.int .i64 0, .int .i64 0, .bool false, .int .u8 0]) := by kernel_rfl
theorem fl7_0 : fld Tryd.prog 7 0 = some 0 := by kernel_rfl
theorem fl7_1 : fld Tryd.prog 7 1 = some 1 := by kernel_rfl
theorem fl7_2 : fld Tryd.prog 7 2 = some 2 := by kernel_rfl
theorem fl7_3 : fld Tryd.prog 7 3 = some 3 := by kernel_rfl
theorem pl7 : places Tryd.prog 7 = some [(0, 1), (1, 1), (2, 1), (3, 1)] := by kernel_rfl
theorem ag8 : aggOf Tryd.prog 8 = some 4 := by kernel_rfl
theorem sz8 : siz Tryd.prog 8 = some 4 := by kernel_rfl
theorem ze8 : zer Tryd.prog 8 = some (.agg #[.int .i64 0, .int .i64 0, .bool false, .int .u8 0]) := by kernel_rfl
theorem fl8_0 : fld Tryd.prog 8 0 = some 0 := by kernel_rfl
theorem fl8_1 : fld Tryd.prog 8 1 = some 1 := by kernel_rfl
theorem fl8_2 : fld Tryd.prog 8 2 = some 2 := by kernel_rfl
theorem fl8_3 : fld Tryd.prog 8 3 = some 3 := by kernel_rfl
theorem pl8 : places Tryd.prog 8 = some [(0, 1), (1, 1), (2, 1), (3, 1)] := by kernel_rfl
theorem sc9 : scal Tryd.prog 9 = true := by kernel_rfl
theorem sz9 : siz Tryd.prog 9 = some 1 := by kernel_rfl
theorem ze9 : zer Tryd.prog 9 = some (str []) := by kernel_rfl
theorem sc10 : scal Tryd.prog 10 = true := by kernel_rfl
theorem sz10 : siz Tryd.prog 10 = some 1 := by kernel_rfl
theorem ze10 : zer Tryd.prog 10 = some (str []) := by kernel_rfl
theorem sc11 : scal Tryd.prog 11 = true := by kernel_rfl
theorem sz11 : siz Tryd.prog 11 = some 1 := by kernel_rfl
theorem ze11 : zer Tryd.prog 11 = some (str []) := by kernel_rfl
theorem sc12 : scal Tryd.prog 12 = true := by kernel_rfl
theorem sz12 : siz Tryd.prog 12 = some 1 := by kernel_rfl
theorem ze12 : zer Tryd.prog 12 = some (.int .u64 0) := by kernel_rfl
theorem ag13 : aggOf Tryd.prog 13 = some 2 := by kernel_rfl
theorem sz13 : siz Tryd.prog 13 = some 2 := by kernel_rfl
theorem ze13 : zer Tryd.prog 13 = some (.agg #[str [], .int .u64 0]) := by kernel_rfl
theorem fl13_0 : fld Tryd.prog 13 0 = some 0 := by kernel_rfl
theorem fl13_1 : fld Tryd.prog 13 1 = some 1 := by kernel_rfl
theorem pl13 : places Tryd.prog 13 = some [(0, 1), (1, 1)] := by kernel_rfl
theorem ag14 : aggOf Tryd.prog 14 = some 2 := by kernel_rfl
theorem sz14 : siz Tryd.prog 14 = some 2 := by kernel_rfl
theorem ze14 : zer Tryd.prog 14 = some (.agg #[str [], .int .u64 0]) := by kernel_rfl
theorem fl14_0 : fld Tryd.prog 14 0 = some 0 := by kernel_rfl
theorem fl14_1 : fld Tryd.prog 14 1 = some 1 := by kernel_rfl
theorem pl14 : places Tryd.prog 14 = some [(0, 1), (1, 1)] := by kernel_rfl
theorem sc15 : scal Tryd.prog 15 = true := by kernel_rfl
theorem sz15 : siz Tryd.prog 15 = some 1 := by kernel_rfl
theorem ze15 : zer Tryd.prog 15 = some (.pointer none) := by kernel_rfl
theorem sc16 : scal Tryd.prog 16 = true := by kernel_rfl
theorem sz16 : siz Tryd.prog 16 = some 1 := by kernel_rfl
theorem ze16 : zer Tryd.prog 16 = some (.pointer none) := by kernel_rfl
theorem sc17 : scal Tryd.prog 17 = true := by kernel_rfl
theorem sz17 : siz Tryd.prog 17 = some 1 := by kernel_rfl
theorem ze17 : zer Tryd.prog 17 = some (.pointer none) := by kernel_rfl
theorem ag18 : aggOf Tryd.prog 18 = some 1 := by kernel_rfl
theorem sz18 : siz Tryd.prog 18 = some 1 := by kernel_rfl
theorem ze18 : zer Tryd.prog 18 = some (.agg #[.pointer none]) := by kernel_rfl
theorem fl18_0 : fld Tryd.prog 18 0 = some 0 := by kernel_rfl
theorem pl18 : places Tryd.prog 18 = some [(0, 1)] := by kernel_rfl
theorem ag19 : aggOf Tryd.prog 19 = some 1 := by kernel_rfl
theorem sz19 : siz Tryd.prog 19 = some 1 := by kernel_rfl
theorem ze19 : zer Tryd.prog 19 = some (.agg #[.pointer none]) := by kernel_rfl
theorem fl19_0 : fld Tryd.prog 19 0 = some 0 := by kernel_rfl
theorem pl19 : places Tryd.prog 19 = some [(0, 1)] := by kernel_rfl
theorem sc20 : scal Tryd.prog 20 = true := by kernel_rfl
theorem sz20 : siz Tryd.prog 20 = some 1 := by kernel_rfl
theorem ze20 : zer Tryd.prog 20 = some (.nilIface) := by kernel_rfl
theorem sc21 : scal Tryd.prog 21 = true := by kernel_rfl
theorem sz21 : siz Tryd.prog 21 = some 1 := by kernel_rfl
theorem ze21 : zer Tryd.prog 21 = some (.int .i32 0) := by kernel_rfl
theorem sc22 : scal Tryd.prog 22 = true := by kernel_rfl
theorem sz22 : siz Tryd.prog 22 = some 1 := by kernel_rfl
theorem ze22 : zer Tryd.prog 22 = some (.slice none 0 0) := by kernel_rfl
theorem se22 : selt Tryd.prog 22 = some (5, 1) := by kernel_rfl
theorem sc23 : scal Tryd.prog 23 = true := by kernel_rfl
theorem sz23 : siz Tryd.prog 23 = some 1 := by kernel_rfl
theorem ze23 : zer Tryd.prog 23 = some (.int .u64 0) := by kernel_rfl
theorem ag24 : aggOf Tryd.prog 24 = some 4 := by kernel_rfl
theorem sz24 : siz Tryd.prog 24 = some 4 := by kernel_rfl
theorem ze24 : zer Tryd.prog 24 = some (.agg #[.int .u64 0, .int .u64 0, .int .u64 0, .int .u64 0]) := by kernel_rfl
theorem ae24 : aelt Tryd.prog 24 = some (4, 23, 1) := by kernel_rfl
theorem ag25 : aggOf Tryd.prog 25 = some 4 := by kernel_rfl
theorem sz25 : siz Tryd.prog 25 = some 4 := by kernel_rfl
theorem ze25 : zer Tryd.prog 25 = some (.agg #[.int .u64 0, .int .u64 0, .int .u64 0, .int .u64 0]) := by kernel_rfl
theorem ae25 : aelt Tryd.prog 25 = some (4, 23, 1) := by kernel_rfl
theorem sc27 : scal Tryd.prog 27 = true := by kernel_rfl
theorem sz27 : siz Tryd.prog 27 = some 1 := by kernel_rfl
theorem ze27 : zer Tryd.prog 27 = some (.slice none 0 0) := by kernel_rfl
theorem se27 : selt Tryd.prog 27 = some (3, 1) := by kernel_rfl
theorem sc31 : scal Tryd.prog 31 = true := by kernel_rfl
theorem sz31 : siz Tryd.prog 31 = some 1 := by kernel_rfl
theorem ze31 : zer Tryd.prog 31 = some (.slice none 0 0) := by kernel_rfl
theorem se31 : selt Tryd.prog 31 = some (9, 1) := by kernel_rfl
theorem sc42 : scal Tryd.prog 42 = true := by kernel_rfl
theorem sz42 : siz Tryd.prog 42 = some 1 := by kernel_rfl
theorem ze42 : zer Tryd.prog 42 = some (.pointer none) := by kernel_rfl
theorem sc43 : scal Tryd.prog 43 = true := by kernel_rfl
theorem sz43 : siz Tryd.prog 43 = some 1 := by kernel_rfl
theorem ze43 : zer Tryd.prog 43 = some (.slice none 0 0) := by kernel_rfl
theorem se43 : selt Tryd.prog 43 = some (22, 1) := by kernel_rfl
theorem ag44 : aggOf Tryd.prog 44 = some 2 := by kernel_rfl
theorem sz44 : siz Tryd.prog 44 = some 2 := by kernel_rfl
theorem ze44 : zer Tryd.prog 44 = some (.agg #[.slice none 0 0, .slice none 0 0]) := by kernel_rfl
theorem fl44_0 : fld Tryd.prog 44 0 = some 0 := by kernel_rfl
theorem fl44_1 : fld Tryd.prog 44 1 = some 1 := by kernel_rfl
theorem pl44 : places Tryd.prog 44 = some [(0, 1), (1, 1)] := by kernel_rfl
theorem ag45 : aggOf Tryd.prog 45 = some 2 := by kernel_rfl
theorem sz45 : siz Tryd.prog 45 = some 2 := by kernel_rfl
theorem ze45 : zer Tryd.prog 45 = some (.agg #[.slice none 0 0, .slice none 0 0]) := by kernel_rfl
theorem fl45_0 : fld Tryd.prog 45 0 = some 0 := by kernel_rfl
theorem fl45_1 : fld Tryd.prog 45 1 = some 1 := by kernel_rfl
theorem pl45 : places Tryd.prog 45 = some [(0, 1), (1, 1)] := by kernel_rfl
theorem sc46 : scal Tryd.prog 46 = true := by kernel_rfl
theorem sz46 : siz Tryd.prog 46 = some 1 := by kernel_rfl
theorem ze46 : zer Tryd.prog 46 = some (.int .i64 0) := by kernel_rfl
theorem ag47 : aggOf Tryd.prog 47 = some 2 := by kernel_rfl
theorem sz47 : siz Tryd.prog 47 = some 2 := by kernel_rfl
theorem ze47 : zer Tryd.prog 47 = some (.agg #[.int .i64 0, .int .i64 0]) := by kernel_rfl
theorem fl47_0 : fld Tryd.prog 47 0 = some 0 := by kernel_rfl
theorem fl47_1 : fld Tryd.prog 47 1 = some 1 := by kernel_rfl
theorem pl47 : places Tryd.prog 47 = some [(0, 1), (1, 1)] := by kernel_rfl
theorem ag48 : aggOf Tryd.prog 48 = some 2 := by kernel_rfl
theorem sz48 : siz Tryd.prog 48 = some 2 := by kernel_rfl
theorem ze48 : zer Tryd.prog 48 = some (.agg #[.int .i64 0, .int .i64 0]) := by kernel_rfl
theorem fl48_0 : fld Tryd.prog 48 0 = some 0 := by kernel_rfl
theorem fl48_1 : fld Tryd.prog 48 1 = some 1 := by kernel_rfl
theorem pl48 : places Tryd.prog 48 = some [(0, 1), (1, 1)] := by kernel_rfl
theorem sc59 : scal Tryd.prog 59 = true := by kernel_rfl
theorem sz59 : siz Tryd.prog 59 = some 1 := by kernel_rfl
theorem ze59 : zer Tryd.prog 59 = some (.slice none 0 0) := by kernel_rfl
theorem se59 : selt Tryd.prog 59 = some (62, 4) := by kernel_rfl
theorem ag61 : aggOf Tryd.prog 61 = some 4 := by kernel_rfl
theorem sz61 : siz Tryd.prog 61 = some 4 := by kernel_rfl
theorem ze61 : zer Tryd.prog 61 = some (.agg #[.int .i64 0, str [], .int .i64 0, .int .i64 0]) := by kernel_rfl
theorem fl61_0 : fld Tryd.prog 61 0 = some 0 := by kernel_rfl
theorem fl61_1 : fld Tryd.prog 61 1 = some 1 := by kernel_rfl
theorem fl61_2 : fld Tryd.prog 61 2 = some 2 := by kernel_rfl
theorem fl61_3 : fld Tryd.prog 61 3 = some 3 := by kernel_rfl
theorem pl61 : places Tryd.prog 61 = some [(0, 1), (1, 1), (2, 1), (3, 1)] := by kernel_rfl
theorem ag62 : aggOf Tryd.prog 62 = some 4 := by kernel_rfl
theorem sz62 : siz Tryd.prog 62 = some 4 := by kernel_rfl
theorem ze62 : zer Tryd.prog 62 = some (.agg #[.int .i64 0, str [], .int .i64 0, .int .i64 0]) := by kernel_rfl
theorem fl62_0 : fld Tryd.prog 62 0 = some 0 := by kernel_rfl
theorem fl62_1 : fld Tryd.prog 62 1 = some 1 := by kernel_rfl
theorem fl62_2 : fld Tryd.prog 62 2 = some 2 := by kernel_rfl
theorem fl62_3 : fld Tryd.prog 62 3 = some 3 := by kernel_rfl
theorem pl62 : places Tryd.prog 62 = some [(0, 1), (1, 1), (2, 1), (3, 1)] := by kernel_rfl
theorem sc69 : scal Tryd.prog 69 = true := by kernel_rfl
theorem sz69 : siz Tryd.prog 69 = some 1 := by kernel_rfl
theorem ze69 : zer Tryd.prog 69 = some (.int .u64 0) := by kernel_rfl
theorem sc71 : scal Tryd.prog 71 = true := by kernel_rfl
theorem sz71 : siz Tryd.prog 71 = some 1 := by kernel_rfl
theorem ze71 : zer Tryd.prog 71 = some (.pointer none) := by kernel_rfl
theorem ag72 : aggOf Tryd.prog 72 = some 2 := by kernel_rfl
theorem sz72 : siz Tryd.prog 72 = some 2 := by kernel_rfl
theorem ze72 : zer Tryd.prog 72 = some (.agg #[.pointer none, .slice none 0 0]) := by kernel_rfl
theorem fl72_0 : fld Tryd.prog 72 0 = some 0 := by kernel_rfl
theorem fl72_1 : fld Tryd.prog 72 1 = some 1 := by kernel_rfl
theorem pl72 : places Tryd.prog 72 = some [(0, 1), (1, 1)] := by kernel_rfl
theorem ag73 : aggOf Tryd.prog 73 = some 2 := by kernel_rfl
theorem sz73 : siz Tryd.prog 73 = some 2 := by kernel_rfl
theorem ze73 : zer Tryd.prog 73 = some (.agg #[.pointer none, .slice none 0 0]) := by kernel_rfl
theorem fl73_0 : fld Tryd.prog 73 0 = some 0 := by kernel_rfl
theorem fl73_1 : fld Tryd.prog 73 1 = some 1 := by kernel_rfl
theorem pl73 : places Tryd.prog 73 = some [(0, 1), (1, 1)] := by kernel_rfl
theorem sc74 : scal Tryd.prog 74 = true := by kernel_rfl
theorem sz74 : siz Tryd.prog 74 = some 1 := by kernel_rfl
theorem ze74 : zer Tryd.prog 74 = some (.nilIface) := by kernel_rfl
theorem sc75 : scal Tryd.prog 75 = true := by kernel_rfl
theorem sz75 : siz Tryd.prog 75 = some 1 := by kernel_rfl
theorem ze75 : zer Tryd.prog 75 = some (.nilIface) := by kernel_rfl
theorem ag81 : aggOf Tryd.prog 81 = some 256 := by kernel_rfl
theorem sz81 : siz Tryd.prog 81 = some 256 := by kernel_rfl
theorem ae81 : aelt Tryd.prog 81 = some (256, 5, 1) := by kernel_rfl
theorem sc87 : scal Tryd.prog 87 = true := by kernel_rfl
theorem sz87 : siz Tryd.prog 87 = some 1 := by kernel_rfl
theorem ze87 : zer Tryd.prog 87 = some (.pointer none) := by kernel_rfl
theorem sc89 : scal Tryd.prog 89 = true := by kernel_rfl
theorem sz89 : siz Tryd.prog 89 = some 1 := by kernel_rfl
theorem ze89 : zer Tryd.prog 89 = some (.slice none 0 0) := by kernel_rfl
theorem se89 : selt Tryd.prog 89 = some (91, 2) := by kernel_rfl
theorem ag90 : aggOf Tryd.prog 90 = some 2 := by kernel_rfl
theorem sz90 : siz Tryd.prog 90 = some 2 := by kernel_rfl
theorem ze90 : zer Tryd.prog 90 = some (.agg #[.int .i64 0, .int .i64 0]) := by kernel_rfl
theorem fl90_0 : fld Tryd.prog 90 0 = some 0 := by kernel_rfl
theorem fl90_1 : fld Tryd.prog 90 1 = some 1 := by kernel_rfl
theorem pl90 : places Tryd.prog 90 = some [(0, 1), (1, 1)] := by kernel_rfl
theorem ag91 : aggOf Tryd.prog 91 = some 2 := by kernel_rfl
theorem sz91 : siz Tryd.prog 91 = some 2 := by kernel_rfl
theorem ze91 : zer Tryd.prog 91 = some (.agg #[.int .i64 0, .int .i64 0]) := by kernel_rfl
theorem fl91_0 : fld Tryd.prog 91 0 = some 0 := by kernel_rfl
theorem fl91_1 : fld Tryd.prog 91 1 = some 1 := by kernel_rfl
theorem pl91 : places Tryd.prog 91 = some [(0, 1), (1, 1)] := by kernel_rfl
theorem sc92 : scal Tryd.prog 92 = true := by kernel_rfl
theorem sz92 : siz Tryd.prog 92 = some 1 := by kernel_rfl
theorem ze92 : zer Tryd.prog 92 = some (.int .u32 0) := by kernel_rfl
theorem sc94 : scal Tryd.prog 94 = true := by kernel_rfl
theorem sz94 : siz Tryd.prog 94 = some 1 := by kernel_rfl
theorem ze94 : zer Tryd.prog 94 = some (.pointer none) := by kernel_rfl
theorem sc101 : scal Tryd.prog 101 = true := by kernel_rfl
theorem sz101 : siz Tryd.prog 101 = some 1 := by kernel_rfl
theorem ag103 : aggOf Tryd.prog 103 = some 24 := by kernel_rfl
theorem sz103 : siz Tryd.prog 103 = some 24 := by kernel_rfl
theorem ze103 : zer Tryd.prog 103 = some (.agg #[.int .u8 0, .int .u8 0, .int .u8 0, .int .u8 0, .int .u8 0, .int .u8 0, .int .u8 0, .int .u8 0, .int .u8 0, .int .u8 0, .int .u8 0, .int .u8 0, .int .u8 0, .int .u8 0, .int .u8 0, .int .u8 0, .int .u8 0, .int .u8 0, .int .u8 0, .int .u8 0, .int .u8 0, .int .u8 0, .int .u8 0, .int .u8 0]) := by kernel_rfl
theorem ae103 : aelt Tryd.prog 103 = some (24, 5, 1) := by kernel_rfl
theorem sc108 : scal Tryd.prog 108 = true := by kernel_rfl
theorem sz108 : siz Tryd.prog 108 = some 1 := by kernel_rfl
theorem ze108 : zer Tryd.prog 108 = some (.slice none 0 0) := by kernel_rfl
theorem se108 : selt Tryd.prog 108 = some (114, 3) := by kernel_rfl
theorem sc109 : scal Tryd.prog 109 = true := by kernel_rfl
theorem sz109 : siz Tryd.prog 109 = some 1 := by kernel_rfl
theorem ze109 : zer Tryd.prog 109 = some (.slice none 0 0) := by kernel_rfl
theorem se109 : selt Tryd.prog 109 = some (117, 3) := by kernel_rfl
theorem ag110 : aggOf Tryd.prog 110 = some 3 := by kernel_rfl
theorem sz110 : siz Tryd.prog 110 = some 3 := by kernel_rfl
theorem ze110 : zer Tryd.prog 110 = some (.agg #[.slice none 0 0, .slice none 0 0, .int .i64 0]) := by kernel_rfl
theorem fl110_0 : fld Tryd.prog 110 0 = some 0 := by kernel_rfl
theorem fl110_1 : fld Tryd.prog 110 1 = some 1 := by kernel_rfl
theorem fl110_2 : fld Tryd.prog 110 2 = some 2 := by kernel_rfl
theorem pl110 : places Tryd.prog 110 = some [(0, 1), (1, 1), (2, 1)] := by kernel_rfl
theorem ag111 : aggOf Tryd.prog 111 = some 3 := by kernel_rfl
theorem sz111 : siz Tryd.prog 111 = some 3 := by kernel_rfl
theorem ze111 : zer Tryd.prog 111 = some (.agg #[.slice none 0 0, .slice none 0 0, .int .i64 0]) := by kernel_rfl
theorem fl111_0 : fld Tryd.prog 111 0 = some 0 := by kernel_rfl
theorem fl111_1 : fld Tryd.prog 111 1 = some 1 := by kernel_rfl
theorem fl111_2 : fld Tryd.prog 111 2 = some 2 := by kernel_rfl
theorem pl111 : places Tryd.prog 111 = some [(0, 1), (1, 1), (2, 1)] := by kernel_rfl
theorem sc112 : scal Tryd.prog 112 = true := by kernel_rfl
theorem sz112 : siz Tryd.prog 112 = some 1 := by kernel_rfl
theorem ze112 : zer Tryd.prog 112 = some (.int .u16 0) := by kernel_rfl
theorem ag113 : aggOf Tryd.prog 113 = some 3 := by kernel_rfl
theorem sz113 : siz Tryd.prog 113 = some 3 := by kernel_rfl
theorem ze113 : zer Tryd.prog 113 = some (.agg #[.int .u16 0, .int .u16 0, .int .u16 0]) := by kernel_rfl
theorem fl113_0 : fld Tryd.prog 113 0 = some 0 := by kernel_rfl
theorem fl113_1 : fld Tryd.prog 113 1 = some 1 := by kernel_rfl
theorem fl113_2 : fld Tryd.prog 113 2 = some 2 := by kernel_rfl
theorem pl113 : places Tryd.prog 113 = some [(0, 1), (1, 1), (2, 1)] := by kernel_rfl
theorem ag114 : aggOf Tryd.prog 114 = some 3 := by kernel_rfl
theorem sz114 : siz Tryd.prog 114 = some 3 := by kernel_rfl
theorem ze114 : zer Tryd.prog 114 = some (.agg #[.int .u16 0, .int .u16 0, .int .u16 0]) := by kernel_rfl
theorem fl114_0 : fld Tryd.prog 114 0 = some 0 := by kernel_rfl
theorem fl114_1 : fld Tryd.prog 114 1 = some 1 := by kernel_rfl
theorem fl114_2 : fld Tryd.prog 114 2 = some 2 := by kernel_rfl
theorem pl114 : places Tryd.prog 114 = some [(0, 1), (1, 1), (2, 1)] := by kernel_rfl
theorem ag116 : aggOf Tryd.prog 116 = some 3 := by kernel_rfl
theorem sz116 : siz Tryd.prog 116 = some 3 := by kernel_rfl
theorem ze116 : zer Tryd.prog 116 = some (.agg #[.int .u32 0, .int .u32 0, .int .u32 0]) := by kernel_rfl
theorem fl116_0 : fld Tryd.prog 116 0 = some 0 := by kernel_rfl
theorem fl116_1 : fld Tryd.prog 116 1 = some 1 := by kernel_rfl
theorem fl116_2 : fld Tryd.prog 116 2 = some 2 := by kernel_rfl
theorem pl116 : places Tryd.prog 116 = some [(0, 1), (1, 1), (2, 1)] := by kernel_rfl
theorem ag117 : aggOf Tryd.prog 117 = some 3 := by kernel_rfl
theorem sz117 : siz Tryd.prog 117 = some 3 := by kernel_rfl
theorem ze117 : zer Tryd.prog 117 = some (.agg #[.int .u32 0, .int .u32 0, .int .u32 0]) := by kernel_rfl
theorem fl117_0 : fld Tryd.prog 117 0 = some 0 := by kernel_rfl
theorem fl117_1 : fld Tryd.prog 117 1 = some 1 := by kernel_rfl
theorem fl117_2 : fld Tryd.prog 117 2 = some 2 := by kernel_rfl
theorem pl117 : places Tryd.prog 117 = some [(0, 1), (1, 1), (2, 1)] := by kernel_rfl
theorem ag126 : aggOf Tryd.prog 126 = some 20 := by kernel_rfl
theorem sz126 : siz Tryd.prog 126 = some 20 := by kernel_rfl
theorem ze126 : zer Tryd.prog 126 = some (.agg #[.int .u64 0, .int .u64 0, .int .u64 0, .int .u64 0, .int .u64 0, .int .u64 0, .int .u64 0, .int .u64 0, .int .u64 0, .int .u64 0, .int .u64 0, .int .u64 0, .int .u64 0, .int .u64 0, .int .u64 0, .int .u64 0, .int .u64 0, .int .u64 0, .int .u64 0, .int .u64 0]) := by kernel_rfl
theorem ae126 : aelt Tryd.prog 126 = some (20, 23, 1) := by kernel_rfl
theorem ag127 : aggOf Tryd.prog 127 = some 65 := by kernel_rfl
theorem sz127 : siz Tryd.prog 127 = some 65 := by kernel_rfl
theorem ae127 : aelt Tryd.prog 127 = some (65, 5, 1) := by kernel_rfl
theorem sc129 : scal Tryd.prog 129 = true := by kernel_rfl
theorem sz129 : siz Tryd.prog 129 = some 1 := by kernel_rfl
theorem ze129 : zer Tryd.prog 129 = some (.pointer none) := by kernel_rfl
theorem sc130 : scal Tryd.prog 130 = true := by kernel_rfl
theorem sz130 : siz Tryd.prog 130 = some 1 := by kernel_rfl
theorem ze130 : zer Tryd.prog 130 = some (.pointer none) := by kernel_rfl
theorem ag134 : aggOf Tryd.prog 134 = some 2 := by kernel_rfl
theorem sz134 : siz Tryd.prog 134 = some 2 := by kernel_rfl
theorem ze134 : zer Tryd.prog 134 = some (.agg #[.int .u8 0, .int .u8 0]) := by kernel_rfl
theorem fl134_0 : fld Tryd.prog 134 0 = some 0 := by kernel_rfl
theorem fl134_1 : fld Tryd.prog 134 1 = some 1 := by kernel_rfl
theorem pl134 : places Tryd.prog 134 = some [(0, 1), (1, 1)] := by kernel_rfl
theorem ag135 : aggOf Tryd.prog 135 = some 2 := by kernel_rfl
theorem sz135 : siz Tryd.prog 135 = some 2 := by kernel_rfl
theorem ze135 : zer Tryd.prog 135 = some (.agg #[.int .u8 0, .int .u8 0]) := by kernel_rfl
theorem fl135_0 : fld Tryd.prog 135 0 = some 0 := by kernel_rfl
theorem fl135_1 : fld Tryd.prog 135 1 = some 1 := by kernel_rfl
theorem pl135 : places Tryd.prog 135 = some [(0, 1), (1, 1)] := by kernel_rfl
theorem ag136 : aggOf Tryd.prog 136 = some 32 := by kernel_rfl
theorem sz136 : siz Tryd.prog 136 = some 32 := by kernel_rfl
theorem ze136 : zer Tryd.prog 136 = some (.agg #[.int .u8 0, .int .u8 0, .int .u8 0, .int .u8 0, .int .u8 0, .int .u8 0, .int .u8 0, .int .u8 0, .int .u8 0, .int .u8 0, .int .u8 0, .int .u8 0, .int .u8 0, .int .u8 0, .int .u8 0, .int .u8 0, .int .u8 0, .int .u8 0, .int .u8 0, .int .u8 0, .int .u8 0, .int .u8 0, .int .u8 0, .int .u8 0, .int .u8 0, .int .u8 0, .int .u8 0, .int .u8 0, .int .u8 0, .int .u8 0, .int .u8 0, .int .u8 0]) := by kernel_rfl
theorem ae136 : aelt Tryd.prog 136 = some (16, 135, 2) := by kernel_rfl
theorem ag140 : aggOf Tryd.prog 140 = some 32 := by kernel_rfl
theorem sz140 : siz Tryd.prog 140 = some 32 := by kernel_rfl
theorem ze140 : zer Tryd.prog 140 = some (.agg #[.int .u8 0, .int .u8 0, .int .u8 0, .int .u8 0, .int .u8 0, .int .u8 0, .int .u8 0, .int .u8 0, .int .u8 0, .int .u8 0, .int .u8 0, .int .u8 0, .int .u8 0, .int .u8 0, .int .u8 0, .int .u8 0, .int .u8 0, .int .u8 0, .int .u8 0, .int .u8 0, .int .u8 0, .int .u8 0, .int .u8 0, .int .u8 0, .int .u8 0, .int .u8 0, .int .u8 0, .int .u8 0, .int .u8 0, .int .u8 0, .int .u8 0, .int .u8 0]) := by kernel_rfl
theorem ae140 : aelt Tryd.prog 140 = some (32, 5, 1) := by kernel_rfl
theorem ag141 : aggOf Tryd.prog 141 = some 64 := by kernel_rfl
theorem sz141 : siz Tryd.prog 141 = some 64 := by kernel_rfl
theorem ae141 : aelt Tryd.prog 141 = some (64, 5, 1) := by kernel_rfl
theorem sc144 : scal Tryd.prog 144 = true := by kernel_rfl
theorem sz144 : siz Tryd.prog 144 = some 1 := by kernel_rfl
theorem ze144 : zer Tryd.prog 144 = some (.slice none 0 0) := by kernel_rfl
theorem se144 : selt Tryd.prog 144 = some (151, 5) := by kernel_rfl
theorem sc145 : scal Tryd.prog 145 = true := by kernel_rfl
theorem sz145 : siz Tryd.prog 145 = some 1 := by kernel_rfl
theorem ze145 : zer Tryd.prog 145 = some (.pointer none) := by kernel_rfl
theorem ag148 : aggOf Tryd.prog 148 = some 3 := by kernel_rfl
theorem sz148 : siz Tryd.prog 148 = some 3 := by kernel_rfl
theorem ze148 : zer Tryd.prog 148 = some (.agg #[.int .i32 0, .int .i32 0, .int .i32 0]) := by kernel_rfl
theorem ae148 : aelt Tryd.prog 148 = some (3, 21, 1) := by kernel_rfl
theorem ag149 : aggOf Tryd.prog 149 = some 3 := by kernel_rfl
theorem sz149 : siz Tryd.prog 149 = some 3 := by kernel_rfl
theorem ze149 : zer Tryd.prog 149 = some (.agg #[.int .i32 0, .int .i32 0, .int .i32 0]) := by kernel_rfl
theorem ae149 : aelt Tryd.prog 149 = some (3, 21, 1) := by kernel_rfl
theorem ag150 : aggOf Tryd.prog 150 = some 5 := by kernel_rfl
theorem sz150 : siz Tryd.prog 150 = some 5 := by kernel_rfl
theorem ze150 : zer Tryd.prog 150 = some (.agg #[.int .u32 0, .int .u32 0, .int .i32 0, .int .i32 0, .int .i32 0]) := by kernel_rfl
theorem fl150_0 : fld Tryd.prog 150 0 = some 0 := by kernel_rfl
theorem fl150_1 : fld Tryd.prog 150 1 = some 1 := by kernel_rfl
theorem fl150_2 : fld Tryd.prog 150 2 = some 2 := by kernel_rfl
theorem pl150 : places Tryd.prog 150 = some [(0, 1), (1, 1), (2, 3)] := by kernel_rfl
theorem ag151 : aggOf Tryd.prog 151 = some 5 := by kernel_rfl
theorem sz151 : siz Tryd.prog 151 = some 5 := by kernel_rfl
theorem ze151 : zer Tryd.prog 151 = some (.agg #[.int .u32 0, .int .u32 0, .int .i32 0, .int .i32 0, .int .i32 0]) := by kernel_rfl
theorem fl151_0 : fld Tryd.prog 151 0 = some 0 := by kernel_rfl
theorem fl151_1 : fld Tryd.prog 151 1 = some 1 := by kernel_rfl
theorem fl151_2 : fld Tryd.prog 151 2 = some 2 := by kernel_rfl
theorem pl151 : places Tryd.prog 151 = some [(0, 1), (1, 1), (2, 3)] := by kernel_rfl
theorem ag152 : aggOf Tryd.prog 152 = some 4 := by kernel_rfl
theorem sz152 : siz Tryd.prog 152 = some 4 := by kernel_rfl
theorem ze152 : zer Tryd.prog 152 = some (.agg #[.pointer none, .pointer none, .pointer none, str []]) := by kernel_rfl
theorem fl152_0 : fld Tryd.prog 152 0 = some 0 := by kernel_rfl
theorem fl152_1 : fld Tryd.prog 152 1 = some 1 := by kernel_rfl
theorem fl152_2 : fld Tryd.prog 152 2 = some 2 := by kernel_rfl
theorem fl152_3 : fld Tryd.prog 152 3 = some 3 := by kernel_rfl
theorem pl152 : places Tryd.prog 152 = some [(0, 1), (1, 1), (2, 1), (3, 1)] := by kernel_rfl
theorem ag153 : aggOf Tryd.prog 153 = some 4 := by kernel_rfl
theorem sz153 : siz Tryd.prog 153 = some 4 := by kernel_rfl
theorem ze153 : zer Tryd.prog 153 = some (.agg #[.pointer none, .pointer none, .pointer none, str []]) := by kernel_rfl
theorem fl153_0 : fld Tryd.prog 153 0 = some 0 := by kernel_rfl
theorem fl153_1 : fld Tryd.prog 153 1 = some 1 := by kernel_rfl
theorem fl153_2 : fld Tryd.prog 153 2 = some 2 := by kernel_rfl
theorem fl153_3 : fld Tryd.prog 153 3 = some 3 := by kernel_rfl
theorem pl153 : places Tryd.prog 153 = some [(0, 1), (1, 1), (2, 1), (3, 1)] := by kernel_rfl
theorem ag154 : aggOf Tryd.prog 154 = some 0 := by kernel_rfl
theorem sz154 : siz Tryd.prog 154 = some 0 := by kernel_rfl
theorem ze154 : zer Tryd.prog 154 = some (.agg #[]) := by kernel_rfl
theorem ae154 : aelt Tryd.prog 154 = some (0, 16, 1) := by kernel_rfl
theorem ag155 : aggOf Tryd.prog 155 = some 0 := by kernel_rfl
theorem sz155 : siz Tryd.prog 155 = some 0 := by kernel_rfl
theorem ze155 : zer Tryd.prog 155 = some (.agg #[]) := by kernel_rfl
theorem pl155 : places Tryd.prog 155 = some [(0, 0)] := by kernel_rfl
theorem ag156 : aggOf Tryd.prog 156 = some 0 := by kernel_rfl
theorem sz156 : siz Tryd.prog 156 = some 0 := by kernel_rfl
theorem ze156 : zer Tryd.prog 156 = some (.agg #[]) := by kernel_rfl
theorem pl156 : places Tryd.prog 156 = some [(0, 0)] := by kernel_rfl
theorem sc158 : scal Tryd.prog 158 = true := by kernel_rfl
theorem sz158 : siz Tryd.prog 158 = some 1 := by kernel_rfl
theorem ze158 : zer Tryd.prog 158 = some (.int .u8 0) := by kernel_rfl
theorem sc159 : scal Tryd.prog 159 = true := by kernel_rfl
theorem sz159 : siz Tryd.prog 159 = some 1 := by kernel_rfl
theorem ze159 : zer Tryd.prog 159 = some (.int .u8 0) := by kernel_rfl
theorem sc161 : scal Tryd.prog 161 = true := by kernel_rfl
theorem sz161 : siz Tryd.prog 161 = some 1 := by kernel_rfl
theorem ze161 : zer Tryd.prog 161 = some (.int .i32 0) := by kernel_rfl
theorem sc162 : scal Tryd.prog 162 = true := by kernel_rfl
theorem sz162 : siz Tryd.prog 162 = some 1 := by kernel_rfl
theorem ze162 : zer Tryd.prog 162 = some (.int .i32 0) := by kernel_rfl
theorem ag163 : aggOf Tryd.prog 163 = some 11 := by kernel_rfl
theorem sz163 : siz Tryd.prog 163 = some 11 := by kernel_rfl
theorem ze163 : zer Tryd.prog 163 = some (.agg #[.int .u64 0, .int .u64 0, .int .u32 0, .int .u8 0, .int .u8 0, .int .u8 0, .int .u8 0, .nilFunc, .pointer none, .int .i32 0, .int .i32 0]) := by kernel_rfl
theorem fl163_0 : fld Tryd.prog 163 0 = some 0 := by kernel_rfl
theorem fl163_1 : fld Tryd.prog 163 1 = some 1 := by kernel_rfl
theorem fl163_2 : fld Tryd.prog 163 2 = some 2 := by kernel_rfl
theorem fl163_3 : fld Tryd.prog 163 3 = some 3 := by kernel_rfl
theorem fl163_4 : fld Tryd.prog 163 4 = some 4 := by kernel_rfl
theorem fl163_5 : fld Tryd.prog 163 5 = some 5 := by kernel_rfl
theorem fl163_6 : fld Tryd.prog 163 6 = some 6 := by kernel_rfl
theorem fl163_7 : fld Tryd.prog 163 7 = some 7 := by kernel_rfl
theorem fl163_8 : fld Tryd.prog 163 8 = some 8 := by kernel_rfl
theorem fl163_9 : fld Tryd.prog 163 9 = some 9 := by kernel_rfl
theorem fl163_10 : fld Tryd.prog 163 10 = some 10 := by kernel_rfl
theorem pl163 : places Tryd.prog 163 = some [(0, 1), (1, 1), (2, 1), (3, 1), (4, 1), (5, 1), (6, 1), (7, 1), (8, 1), (9, 1), (10, 1)] := by kernel_rfl
theorem ag164 : aggOf Tryd.prog 164 = some 11 := by kernel_rfl
theorem sz164 : siz Tryd.prog 164 = some 11 := by kernel_rfl
theorem ze164 : zer Tryd.prog 164 = some (.agg #[.int .u64 0, .int .u64 0, .int .u32 0, .int .u8 0, .int .u8 0, .int .u8 0, .int .u8 0, .nilFunc, .pointer none, .int .i32 0, .int .i32 0]) := by kernel_rfl
theorem fl164_0 : fld Tryd.prog 164 0 = some 0 := by kernel_rfl
theorem fl164_1 : fld Tryd.prog 164 1 = some 1 := by kernel_rfl
theorem fl164_2 : fld Tryd.prog 164 2 = some 2 := by kernel_rfl
theorem fl164_3 : fld Tryd.prog 164 3 = some 3 := by kernel_rfl
theorem fl164_4 : fld Tryd.prog 164 4 = some 4 := by kernel_rfl
theorem fl164_5 : fld Tryd.prog 164 5 = some 5 := by kernel_rfl
theorem fl164_6 : fld Tryd.prog 164 6 = some 6 := by kernel_rfl
theorem fl164_7 : fld Tryd.prog 164 7 = some 7 := by kernel_rfl
theorem fl164_8 : fld Tryd.prog 164 8 = some 8 := by kernel_rfl
theorem fl164_9 : fld Tryd.prog 164 9 = some 9 := by kernel_rfl
theorem fl164_10 : fld Tryd.prog 164 10 = some 10 := by kernel_rfl
theorem pl164 : places Tryd.prog 164 = some [(0, 1), (1, 1), (2, 1), (3, 1), (4, 1), (5, 1), (6, 1), (7, 1), (8, 1), (9, 1), (10, 1)] := by kernel_rfl
theorem te3 : ElemInfo Tryd.prog 3 (.int .i64 0) 1 8 := elem_of (by kernel_rfl) rfl (by decide)
theorem te5 : ElemInfo Tryd.prog 5 (.int .u8 0) 1 1 := elem_of (by kernel_rfl) rfl (by decide)
theorem te9 : ElemInfo Tryd.prog 9 (str []) 1 16 := elem_of (by kernel_rfl) rfl (by decide)
theorem te22 : ElemInfo Tryd.prog 22 (.slice none 0 0) 1 24 := elem_of (by kernel_rfl) rfl (by decide)
theorem te62 : ElemInfo Tryd.prog 62 (.agg #[.int .i64 0, str [], .int .i64 0, .int .i64 0]) 4 40 := elem_of (by kernel_rfl) rfl (by decide)
theorem te91 : ElemInfo Tryd.prog 91 (.agg #[.int .i64 0, .int .i64 0]) 2 16 := elem_of (by kernel_rfl) rfl (by decide)
theorem te114 : ElemInfo Tryd.prog 114 (.agg #[.int .u16 0, .int .u16 0, .int .u16 0]) 3 6 := elem_of (by kernel_rfl) rfl (by decide)
theorem te117 : ElemInfo Tryd.prog 117 (.agg #[.int .u32 0, .int .u32 0, .int .u32 0]) 3 12 := elem_of (by kernel_rfl) rfl (by decide)
theorem te151 : ElemInfo Tryd.prog 151 (.agg #[.int .u32 0, .int .u32 0, .int .i32 0, .int .i32 0, .int .i32 0]) 5 20 := elem_of (by kernel_rfl) rfl (by decide)
end Go.Proofs.YtdplcfineaikjaaDoor
