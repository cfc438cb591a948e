/- Several texts in one: see the remarks ahead of each part. No condition but those told there. -/
import Derived.Test.YtalmjkcapecpiaaGreatX1
import Derived.Test.YtalmjkcapecpiaaGreatProg
import Derived.Test.YtalmjkcapecpiaaGreatX4
import Derived.WalkKit
import Derived.Test.YtalmjkcapecpiaaGreatX2
import Derived.Lib.Hide
set_option linter.unusedSimpArgs false
set_option linter.unusedVariables false
namespace Go.Proofs.YtalmjkcapecpiaaGreat
open Go Go.RowKit
theorem sc1:scal Tryz.prog 1=true:=by kernel_rfl
theorem sz1:siz Tryz.prog 1=some 1:=by kernel_rfl
theorem ze1:zer Tryz.prog 1=some (.nilFunc):=by kernel_rfl
theorem sc3:scal Tryz.prog 3=true:=by kernel_rfl
theorem sz3:siz Tryz.prog 3=some 1:=by kernel_rfl
theorem ze3:zer Tryz.prog 3=some (.int .i64 0):=by kernel_rfl
theorem sc4:scal Tryz.prog 4=true:=by kernel_rfl
theorem sz4:siz Tryz.prog 4=some 1:=by kernel_rfl
theorem ze4:zer Tryz.prog 4=some (.bool false):=by kernel_rfl
theorem sc5:scal Tryz.prog 5=true:=by kernel_rfl
theorem sz5:siz Tryz.prog 5=some 1:=by kernel_rfl
theorem ze5:zer Tryz.prog 5=some (.int .u8 0):=by kernel_rfl
theorem sc9:scal Tryz.prog 9=true:=by kernel_rfl
theorem se22:selt Tryz.prog 22=some (43,27):=by kernel_rfl
theorem se23:selt Tryz.prog 23=some (39,32):=by kernel_rfl
theorem sc25:scal Tryz.prog 25=true:=by kernel_rfl
theorem ag33:aggOf Tryz.prog 33=some 20:=by kernel_rfl
theorem sz33:siz Tryz.prog 33=some 20:=by kernel_rfl
theorem ze33:zer Tryz.prog 33=some (.agg #[.int .u8 0,.int .u8 0,.int .u8 0,.int .u8 0,.int .u8 0,.int .u8 0,.int .u8 0,.int .u8 0,.int .u8 0,.int .u8 0,.int .u8 0,.int .u8 0,.int .u8 0,.int .u8 0,.int .u8 0,.int .u8 0,.int .u8 0,.int .u8 0,.int .u8 0,.int .u8 0]):=by kernel_rfl
theorem ae33:aelt Tryz.prog 33=some (20,5,1):=by kernel_rfl
theorem sc34:scal Tryz.prog 34=true:=by kernel_rfl
theorem sz34:siz Tryz.prog 34=some 1:=by kernel_rfl
theorem ze34:zer Tryz.prog 34=some (.int .u64 0):=by kernel_rfl
theorem ag36:aggOf Tryz.prog 36=some 4:=by kernel_rfl
theorem sz36:siz Tryz.prog 36=some 4:=by kernel_rfl
theorem ze36:zer Tryz.prog 36=some (.agg #[.int .u64 0,.int .u64 0,.int .u64 0,.int .u64 0]):=by kernel_rfl
theorem ae36:aelt Tryz.prog 36=some (4,34,1):=by kernel_rfl
theorem sc37:scal Tryz.prog 37=true:=by kernel_rfl
theorem sz37:siz Tryz.prog 37=some 1:=by kernel_rfl
theorem ze37:zer Tryz.prog 37=some (.slice none 0 0):=by kernel_rfl
theorem se37:selt Tryz.prog 37=some (5,1):=by kernel_rfl
theorem ag39:aggOf Tryz.prog 39=some 32:=by kernel_rfl
theorem fl39_1:fld Tryz.prog 39 1=some 1:=by kernel_rfl
theorem fl39_2:fld Tryz.prog 39 2=some 2:=by kernel_rfl
theorem fl39_3:fld Tryz.prog 39 3=some 22:=by kernel_rfl
theorem fl39_4:fld Tryz.prog 39 4=some 26:=by kernel_rfl
theorem fl39_5:fld Tryz.prog 39 5=some 30:=by kernel_rfl
theorem fl39_6:fld Tryz.prog 39 6=some 31:=by kernel_rfl
theorem sc41:scal Tryz.prog 41=true:=by kernel_rfl
theorem sz41:siz Tryz.prog 41=some 1:=by kernel_rfl
theorem se41:selt Tryz.prog 41=some (52,8):=by kernel_rfl
theorem ag43:aggOf Tryz.prog 43=some 27:=by kernel_rfl
theorem sz43:siz Tryz.prog 43=some 27:=by kernel_rfl
theorem ze43:zer Tryz.prog 43=some (.agg #[.int .u8 0,.int .u8 0,.int .u8 0,.int .u8 0,.int .u8 0,.int .u8 0,.int .u8 0,.int .u8 0,.int .u8 0,.int .u8 0,.int .u8 0,.int .u8 0,.int .u8 0,.int .u8 0,.int .u8 0,.int .u8 0,.int .u8 0,.int .u8 0,.int .u8 0,.int .u8 0,.int .u64 0,.int .u64 0,.int .u64 0,.int .u64 0,.int .u64 0,.slice none 0 0,.slice none 0 0]):=by kernel_rfl
theorem fl43_0:fld Tryz.prog 43 0=some 0:=by kernel_rfl
theorem fl43_1:fld Tryz.prog 43 1=some 20:=by kernel_rfl
theorem fl43_2:fld Tryz.prog 43 2=some 21:=by kernel_rfl
theorem fl43_3:fld Tryz.prog 43 3=some 25:=by kernel_rfl
theorem fl43_4:fld Tryz.prog 43 4=some 26:=by kernel_rfl
theorem pl43:places Tryz.prog 43=some [(0,20),(20,1),(21,4),(25,1),(26,1)]:=by kernel_rfl
theorem ag44:aggOf Tryz.prog 44=some 32:=by kernel_rfl
theorem sz44:siz Tryz.prog 44=some 32:=by kernel_rfl
theorem ze44:zer Tryz.prog 44=some (.agg #[.int .u8 0,.int .u8 0,.int .u8 0,.int .u8 0,.int .u8 0,.int .u8 0,.int .u8 0,.int .u8 0,.int .u8 0,.int .u8 0,.int .u8 0,.int .u8 0,.int .u8 0,.int .u8 0,.int .u8 0,.int .u8 0,.int .u8 0,.int .u8 0,.int .u8 0,.int .u8 0,.int .u8 0,.int .u8 0,.int .u8 0,.int .u8 0,.int .u8 0,.int .u8 0,.int .u8 0,.int .u8 0,.int .u8 0,.int .u8 0,.int .u8 0,.int .u8 0]):=by kernel_rfl
theorem ae44:aelt Tryz.prog 44=some (32,5,1):=by kernel_rfl
theorem ag45:aggOf Tryz.prog 45=some 32:=by kernel_rfl
theorem sz45:siz Tryz.prog 45=some 32:=by kernel_rfl
theorem ze45:zer Tryz.prog 45=some (.agg #[.int .u8 0,.int .u8 0,.int .u8 0,.int .u8 0,.int .u8 0,.int .u8 0,.int .u8 0,.int .u8 0,.int .u8 0,.int .u8 0,.int .u8 0,.int .u8 0,.int .u8 0,.int .u8 0,.int .u8 0,.int .u8 0,.int .u8 0,.int .u8 0,.int .u8 0,.int .u8 0,.int .u8 0,.int .u8 0,.int .u8 0,.int .u8 0,.int .u8 0,.int .u8 0,.int .u8 0,.int .u8 0,.int .u8 0,.int .u8 0,.int .u8 0,.int .u8 0]):=by kernel_rfl
theorem ae45:aelt Tryz.prog 45=some (32,5,1):=by kernel_rfl
theorem ag52:aggOf Tryz.prog 52=some 8:=by kernel_rfl
theorem sz52:siz Tryz.prog 52=some 8:=by kernel_rfl
theorem ze52:zer Tryz.prog 52=some (.agg #[.int .u64 0,.int .u64 0,.int .u64 0,.int .u64 0,.int .u64 0,.int .u64 0,.int .u64 0,.int .u64 0]):=by kernel_rfl
theorem fl52_0:fld Tryz.prog 52 0=some 0:=by kernel_rfl
theorem fl52_1:fld Tryz.prog 52 1=some 4:=by kernel_rfl
theorem pl52:places Tryz.prog 52=some [(0,4),(4,4)]:=by kernel_rfl
theorem sc60:scal Tryz.prog 60=true:=by kernel_rfl
theorem sz60:siz Tryz.prog 60=some 1:=by kernel_rfl
theorem se60:selt Tryz.prog 60=some (93,22):=by kernel_rfl
theorem sc67:scal Tryz.prog 67=true:=by kernel_rfl
theorem sz67:siz Tryz.prog 67=some 1:=by kernel_rfl
theorem ze67:zer Tryz.prog 67=some (.pointer none):=by kernel_rfl
theorem sc69:scal Tryz.prog 69=true:=by kernel_rfl
theorem ze71:zer Tryz.prog 71=some (.agg #[.int .u64 0,.int .u64 0,.int .u64 0,.int .u64 0,.int .u64 0,.slice none 0 0,.map none]):=by kernel_rfl
theorem fl71_0:fld Tryz.prog 71 0=some 0:=by kernel_rfl
theorem fl71_1:fld Tryz.prog 71 1=some 1:=by kernel_rfl
theorem fl71_2:fld Tryz.prog 71 2=some 5:=by kernel_rfl
theorem fl71_3:fld Tryz.prog 71 3=some 6:=by kernel_rfl
theorem pl71:places Tryz.prog 71=some [(0,1),(1,4),(5,1),(6,1)]:=by kernel_rfl
theorem sc74:scal Tryz.prog 74=true:=by kernel_rfl
theorem sc75:scal Tryz.prog 75=true:=by kernel_rfl
theorem sc76:scal Tryz.prog 76=true:=by kernel_rfl
theorem sc77:scal Tryz.prog 77=true:=by kernel_rfl
theorem sc78:scal Tryz.prog 78=true:=by kernel_rfl
theorem sc79:scal Tryz.prog 79=true:=by kernel_rfl
theorem sc80:scal Tryz.prog 80=true:=by kernel_rfl
theorem sz80:siz Tryz.prog 80=some 1:=by kernel_rfl
theorem se80:selt Tryz.prog 80=some (1,1):=by kernel_rfl
theorem sc81:scal Tryz.prog 81=true:=by kernel_rfl
theorem sz81:siz Tryz.prog 81=some 1:=by kernel_rfl
theorem se81:selt Tryz.prog 81=some (108,2):=by kernel_rfl
theorem sz83:siz Tryz.prog 83=some 12:=by kernel_rfl
theorem ze83:zer Tryz.prog 83=some (.agg #[.map none,.map none,.map none,.map none,.map none,.map none,.map none,.int .u64 0,.slice none 0 0,.slice none 0 0,.slice none 0 0,.int .i64 0]):=by kernel_rfl
theorem fl83_0:fld Tryz.prog 83 0=some 0:=by kernel_rfl
theorem fl83_1:fld Tryz.prog 83 1=some 1:=by kernel_rfl
theorem fl83_2:fld Tryz.prog 83 2=some 2:=by kernel_rfl
theorem fl83_3:fld Tryz.prog 83 3=some 3:=by kernel_rfl
theorem fl83_4:fld Tryz.prog 83 4=some 4:=by kernel_rfl
theorem fl83_5:fld Tryz.prog 83 5=some 5:=by kernel_rfl
theorem fl83_6:fld Tryz.prog 83 6=some 6:=by kernel_rfl
theorem fl83_7:fld Tryz.prog 83 7=some 7:=by kernel_rfl
theorem fl83_8:fld Tryz.prog 83 8=some 8:=by kernel_rfl
theorem fl83_9:fld Tryz.prog 83 9=some 9:=by kernel_rfl
theorem fl83_10:fld Tryz.prog 83 10=some 10:=by kernel_rfl
theorem fl83_11:fld Tryz.prog 83 11=some 11:=by kernel_rfl
theorem pl83:places Tryz.prog 83=some [(0,1),(1,1),(2,1),(3,1),(4,1),(5,1),(6,1),(7,1),(8,1),(9,1),(10,1),(11,1)]:=by kernel_rfl
theorem ze85:zer Tryz.prog 85=some (.agg #[.map none,.map none,.map none,.map none,.map none,.map none,.map none,.map none,.int .u64 0,.slice none 0 0,.slice none 0 0,.slice none 0 0,.int .i64 0]):=by kernel_rfl
theorem fl85_0:fld Tryz.prog 85 0=some 0:=by kernel_rfl
theorem fl85_1:fld Tryz.prog 85 1=some 1:=by kernel_rfl
theorem pl85:places Tryz.prog 85=some [(0,1),(1,12)]:=by kernel_rfl
theorem sc91:scal Tryz.prog 91=true:=by kernel_rfl
theorem sz91:siz Tryz.prog 91=some 1:=by kernel_rfl
theorem se91:selt Tryz.prog 91=some (45,32):=by kernel_rfl
theorem ag93:aggOf Tryz.prog 93=some 22:=by kernel_rfl
theorem sz93:siz Tryz.prog 93=some 22:=by kernel_rfl
theorem ze93:zer Tryz.prog 93=some (.agg #[.int .u8 0,.int .u8 0,.int .u8 0,.int .u8 0,.int .u8 0,.int .u8 0,.int .u8 0,.int .u8 0,.int .u8 0,.int .u8 0,.int .u8 0,.int .u8 0,.int .u8 0,.int .u8 0,.int .u8 0,.int .u8 0,.int .u8 0,.int .u8 0,.int .u8 0,.int .u8 0,.slice none 0 0,.slice none 0 0]):=by kernel_rfl
theorem fl93_0:fld Tryz.prog 93 0=some 0:=by kernel_rfl
theorem fl93_1:fld Tryz.prog 93 1=some 20:=by kernel_rfl
theorem fl93_2:fld Tryz.prog 93 2=some 21:=by kernel_rfl
theorem pl93:places Tryz.prog 93=some [(0,20),(20,1),(21,1)]:=by kernel_rfl
theorem sc95:scal Tryz.prog 95=true:=by kernel_rfl
theorem sz95:siz Tryz.prog 95=some 1:=by kernel_rfl
theorem se95:selt Tryz.prog 95=some (33,20):=by kernel_rfl
theorem sc97:scal Tryz.prog 97=true:=by kernel_rfl
theorem sz97:siz Tryz.prog 97=some 1:=by kernel_rfl
theorem se97:selt Tryz.prog 97=some (36,4):=by kernel_rfl
theorem ag105:aggOf Tryz.prog 105=some 24:=by kernel_rfl
theorem ze105:zer Tryz.prog 105=some (.agg #[.int .u8 0,.int .u8 0,.int .u8 0,.int .u8 0,.int .u8 0,.int .u8 0,.int .u8 0,.int .u8 0,.int .u8 0,.int .u8 0,.int .u8 0,.int .u8 0,.int .u8 0,.int .u8 0,.int .u8 0,.int .u8 0,.int .u8 0,.int .u8 0,.int .u8 0,.int .u8 0,.int .u64 0,.int .u64 0,.int .u64 0,.int .u64 0]):=by kernel_rfl
theorem pl105:places Tryz.prog 105=some [(0,20),(20,4)]:=by kernel_rfl
theorem ag108:aggOf Tryz.prog 108=some 2:=by kernel_rfl
theorem sz108:siz Tryz.prog 108=some 2:=by kernel_rfl
theorem ze108:zer Tryz.prog 108=some (.agg #[.int .i64 0,.int .i64 0]):=by kernel_rfl
theorem fl108_0:fld Tryz.prog 108 0=some 0:=by kernel_rfl
theorem fl108_1:fld Tryz.prog 108 1=some 1:=by kernel_rfl
theorem pl108:places Tryz.prog 108=some [(0,1),(1,1)]:=by kernel_rfl
theorem ag115:aggOf Tryz.prog 115=some 0:=by kernel_rfl
theorem sz115:siz Tryz.prog 115=some 0:=by kernel_rfl
theorem ze115:zer Tryz.prog 115=some (.agg #[]):=by kernel_rfl
theorem pl115:places Tryz.prog 115=some []:=by kernel_rfl
theorem sc135:scal Tryz.prog 135=true:=by kernel_rfl
theorem se135:selt Tryz.prog 135=some (137,3):=by kernel_rfl
theorem ag137:aggOf Tryz.prog 137=some 3:=by kernel_rfl
theorem sz137:siz Tryz.prog 137=some 3:=by kernel_rfl
theorem ze137:zer Tryz.prog 137=some (.agg #[.bool false,.slice none 0 0,.slice none 0 0]):=by kernel_rfl
theorem fl137_0:fld Tryz.prog 137 0=some 0:=by kernel_rfl
theorem fl137_1:fld Tryz.prog 137 1=some 1:=by kernel_rfl
theorem fl137_2:fld Tryz.prog 137 2=some 2:=by kernel_rfl
theorem pl137:places Tryz.prog 137=some [(0,1),(1,1),(2,1)]:=by kernel_rfl
theorem se142:selt Tryz.prog 142=some (173,2):=by kernel_rfl
theorem sc153:scal Tryz.prog 153=true:=by kernel_rfl
theorem ze155:zer Tryz.prog 155=some (.agg #[.map none]):=by kernel_rfl
theorem fl155_0:fld Tryz.prog 155 0=some 0:=by kernel_rfl
theorem pl155:places Tryz.prog 155=some [(0,1)]:=by kernel_rfl
theorem ag159:aggOf Tryz.prog 159=some 25:=by kernel_rfl
theorem sz159:siz Tryz.prog 159=some 25:=by kernel_rfl
theorem ze159:zer Tryz.prog 159=some (.agg #[.int .u64 0,.int .u64 0,.int .u64 0,.int .u64 0,.int .u64 0,.int .u64 0,.int .u64 0,.int .u64 0,.int .u64 0,.int .u64 0,.int .u64 0,.int .u64 0,.int .u64 0,.int .u64 0,.int .u64 0,.int .u64 0,.int .u64 0,.int .u64 0,.int .u64 0,.int .u64 0,.int .u64 0,.int .u64 0,.int .u64 0,.int .u64 0,.int .u64 0]):=by kernel_rfl
theorem ae159:aelt Tryz.prog 159=some (25,34,1):=by kernel_rfl
theorem ze161:zer Tryz.prog 161=some (.agg #[.int .u64 0,.int .u64 0,.int .u64 0,.int .u64 0,.int .u64 0,.int .u64 0,.int .u64 0,.int .u64 0,.int .u64 0,.int .u64 0,.int .u64 0,.int .u64 0,.int .u64 0,.int .u64 0,.int .u64 0,.int .u64 0,.int .u64 0,.int .u64 0,.int .u64 0,.int .u64 0,.int .u64 0,.int .u64 0,.int .u64 0,.int .u64 0,.int .u64 0,.slice none 0 0]):=by kernel_rfl
theorem fl161_0:fld Tryz.prog 161 0=some 0:=by kernel_rfl
theorem fl161_1:fld Tryz.prog 161 1=some 25:=by kernel_rfl
theorem pl161:places Tryz.prog 161=some [(0,25),(25,1)]:=by kernel_rfl
theorem se167:selt Tryz.prog 167=some (9,1):=by kernel_rfl
theorem ag173:aggOf Tryz.prog 173=some 2:=by kernel_rfl
theorem sz173:siz Tryz.prog 173=some 2:=by kernel_rfl
theorem ze173:zer Tryz.prog 173=some (.agg #[.slice none 0 0,.slice none 0 0]):=by kernel_rfl
theorem fl173_0:fld Tryz.prog 173 0=some 0:=by kernel_rfl
theorem fl173_1:fld Tryz.prog 173 1=some 1:=by kernel_rfl
theorem pl173:places Tryz.prog 173=some [(0,1),(1,1)]:=by kernel_rfl
def z182:List Value:=List.replicate 136 (.int .u8 0)
theorem ae182:aelt Tryz.prog 182=some (136,5,1):=by kernel_rfl
theorem ag208:aggOf Tryz.prog 208=some 24:=by kernel_rfl
theorem sz208:siz Tryz.prog 208=some 24:=by kernel_rfl
theorem ze208:zer Tryz.prog 208=some (.agg #[.int .u64 0,.int .u64 0,.int .u64 0,.int .u64 0,.int .u64 0,.int .u64 0,.int .u64 0,.int .u64 0,.int .u64 0,.int .u64 0,.int .u64 0,.int .u64 0,.int .u64 0,.int .u64 0,.int .u64 0,.int .u64 0,.int .u64 0,.int .u64 0,.int .u64 0,.int .u64 0,.int .u64 0,.int .u64 0,.int .u64 0,.int .u64 0]):=by kernel_rfl
theorem ae208:aelt Tryz.prog 208=some (24,34,1):=by kernel_rfl
theorem se211:selt Tryz.prog 211=some (34,1):=by kernel_rfl
theorem ag223:aggOf Tryz.prog 223=some 5:=by kernel_rfl
theorem sz223:siz Tryz.prog 223=some 5:=by kernel_rfl
theorem ze223:zer Tryz.prog 223=some (.agg #[.int .u64 0,.int .u64 0,.int .u64 0,.int .u64 0,.int .u64 0]):=by kernel_rfl
theorem ae223:aelt Tryz.prog 223=some (5,34,1):=by kernel_rfl
theorem te1:ElemInfo Tryz.prog 1 (.nilFunc) 1 8:=elem_of (by kernel_rfl) rfl (by decide)
theorem te5:ElemInfo Tryz.prog 5 (.int .u8 0) 1 1:=elem_of (by kernel_rfl) rfl (by decide)
theorem te33:ElemInfo Tryz.prog 33 (.agg #[.int .u8 0,.int .u8 0,.int .u8 0,.int .u8 0,.int .u8 0,.int .u8 0,.int .u8 0,.int .u8 0,.int .u8 0,.int .u8 0,.int .u8 0,.int .u8 0,.int .u8 0,.int .u8 0,.int .u8 0,.int .u8 0,.int .u8 0,.int .u8 0,.int .u8 0,.int .u8 0]) 20 20:=elem_of (by kernel_rfl) rfl (by decide)
theorem te36:ElemInfo Tryz.prog 36 (.agg #[.int .u64 0,.int .u64 0,.int .u64 0,.int .u64 0]) 4 32:=elem_of (by kernel_rfl) rfl (by decide)
theorem te43:ElemInfo Tryz.prog 43 (.agg #[.int .u8 0,.int .u8 0,.int .u8 0,.int .u8 0,.int .u8 0,.int .u8 0,.int .u8 0,.int .u8 0,.int .u8 0,.int .u8 0,.int .u8 0,.int .u8 0,.int .u8 0,.int .u8 0,.int .u8 0,.int .u8 0,.int .u8 0,.int .u8 0,.int .u8 0,.int .u8 0,.int .u64 0,.int .u64 0,.int .u64 0,.int .u64 0,.int .u64 0,.slice none 0 0,.slice none 0 0]) 27 112:=elem_of (by kernel_rfl) rfl (by decide)
theorem te45:ElemInfo Tryz.prog 45 (.agg #[.int .u8 0,.int .u8 0,.int .u8 0,.int .u8 0,.int .u8 0,.int .u8 0,.int .u8 0,.int .u8 0,.int .u8 0,.int .u8 0,.int .u8 0,.int .u8 0,.int .u8 0,.int .u8 0,.int .u8 0,.int .u8 0,.int .u8 0,.int .u8 0,.int .u8 0,.int .u8 0,.int .u8 0,.int .u8 0,.int .u8 0,.int .u8 0,.int .u8 0,.int .u8 0,.int .u8 0,.int .u8 0,.int .u8 0,.int .u8 0,.int .u8 0,.int .u8 0]) 32 32:=elem_of (by kernel_rfl) rfl (by decide)
theorem te52:ElemInfo Tryz.prog 52 (.agg #[.int .u64 0,.int .u64 0,.int .u64 0,.int .u64 0,.int .u64 0,.int .u64 0,.int .u64 0,.int .u64 0]) 8 64:=elem_of (by kernel_rfl) rfl (by decide)
theorem te93:ElemInfo Tryz.prog 93 (.agg #[.int .u8 0,.int .u8 0,.int .u8 0,.int .u8 0,.int .u8 0,.int .u8 0,.int .u8 0,.int .u8 0,.int .u8 0,.int .u8 0,.int .u8 0,.int .u8 0,.int .u8 0,.int .u8 0,.int .u8 0,.int .u8 0,.int .u8 0,.int .u8 0,.int .u8 0,.int .u8 0,.slice none 0 0,.slice none 0 0]) 22 72:=elem_of (by kernel_rfl) rfl (by decide)
theorem te108:ElemInfo Tryz.prog 108 (.agg #[.int .i64 0,.int .i64 0]) 2 16:=elem_of (by kernel_rfl) rfl (by decide)
theorem te137:ElemInfo Tryz.prog 137 (.agg #[.bool false,.slice none 0 0,.slice none 0 0]) 3 56:=elem_of (by kernel_rfl) rfl (by decide)
theorem te173:ElemInfo Tryz.prog 173 (.agg #[.slice none 0 0,.slice none 0 0]) 2 48:=elem_of (by kernel_rfl) rfl (by decide)
theorem set_u64s (l:List UInt64) (i:Nat) (x:UInt64):(u64s l).set i (.int .u64 (x.toNat:Int))=u64s (l.set i x):=by simp [u64s,List.map_set,vl]
theorem set_u8s (l:List UInt8) (i:Nat) (x:UInt8):(u8s l).set i (.int .u8 (x.toNat:Int))=u8s (l.set i x):=by simp [u8s,List.map_set,vb]
theorem zero_u8s (m:Nat):List.replicate m (Value.int .u8 0)=u8s (List.replicate m 0):=by simp [u8s,vb]
theorem get64A {bs:List UInt64} {j:Nat} (h:j<bs.length):(u64s bs)[0+j*1]? =some (.int .u64 ((bs.getD j 0).toNat:Int)):=by rw [Nat.zero_add,Nat.mul_one];exact get64 h
theorem get8A {bs:List UInt8} {j:Nat} (h:j<bs.length):(u8s bs)[0+j*1]? =some (.int .u8 ((bs.getD j 0).toNat:Int)):=by rw [Nat.zero_add,Nat.mul_one];exact get8 h
theorem set64A (l:List UInt64) (j:Nat) (x:UInt64):setL (u64s l) (0+j*1) [.int .u64 (x.toNat:Int)]=u64s (l.set j x):=by rw [Nat.zero_add,Nat.mul_one,setL,setL,set_u64s]
theorem set8A (l:List UInt8) (j:Nat) (x:UInt8):setL (u8s l) (0+j*1) [.int .u8 (x.toNat:Int)]=u8s (l.set j x):=by rw [Nat.zero_add,Nat.mul_one,setL,setL,set_u8s]
theorem four {α:Type} {l:List α} (h:l.length=4): ∃a b c d,l= [a,b,c,d]:=by
 match l,h with
 | [a,b,c,d],_=>exact⟨a,b,c,d,rfl⟩
def wv (l:List UInt64):Value:=.agg (u64s l).toArray
theorem eq_words4 {l m:List UInt64} (hl:l.length=4) (hm:m.length=4) (h:v64 l=v64 m):l=m:=v64_inj (by omega) h
section
variable {P : Program} {n : Nat} {l : List (Nat × Value)} {E : World} {L Ls : List Heaplet} {X Y : Act → World → Prop} {d : Nat} {t ty e : TypeId} {x y : Operand}
theorem op_buildA {alen size:Nat} {parts:List (Nat×Operand)} {vs:List (Nat×Value)} {zs out:List Value} {pos:_} {aft:_} {g:_} (s:NxF P n l E L Ls ⟨some d,.build t parts.toArray,ty,pos,aft,g⟩ X Y) (hz:zer P t=some (.agg zs.toArray)) (hp:aelt P t=some (alen,e,size)) (hv:Pts l parts vs) (ho:fillL ((List.range alen).map fun i=>(i*size,size)) zs vs=some out) (hn:Nat.ble (d+1) n=true) (h:At n ((d,.agg out.toArray)::l) E L Y):At n l E L X:=
 op_val s (fun a w hf hw=>by
  obtain⟨i,hi,hiz⟩:=Option.bind_eq_some_iff.1 hz
  obtain⟨hu,j,hj,hjs⟩:=aelt_spec hp
  have hzr:(zeroValue t).run P w=.ok (.agg zs.toArray) w:=by simp [zeroValue,typeInfo,hi,hiz]
  have hfill:=fill_fillL (place:=fun i=>some (i*size,size)) (fun i o h=>by
   rw [List.getElem?_map]at h
   obtain⟨k,hk,rfl⟩:=Option.map_eq_some_iff.1 h
   obtain⟨_,rfl⟩:=List.getElem?_eq_some_iff.1 hk
   simp) vs zs out ho
  have hpv:(parts.toArray.map fun(x:Nat×Operand)=>(x.1,a.eval x.2))=vs.toArray:=by rw [List.map_toArray,hv.map hf]
  have hb:(Instr.build t vs.toArray).run P w=.ok (.agg out.toArray) w:=by
   unfold Instr.build
   rw [Sem.run_bind,hzr]
   simp only [Result.andThen_ok]
   rw [Sem.run_bind,run_underlying hu]
   simp only [Result.andThen_ok]
   rw [Sem.run_bind,run_sizeOf hj,hjs]
   simp only [Result.andThen_ok,Value.cells,hfill,Sem.run_pure]
  show((do pure (.value (←Instr.build t (parts.toArray.map fun(x:Nat×Operand)=>(x.1,a.eval x.2)))):Sem Next)).run P w=_
  rw [hpv,Sem.run_bind,hb]
  rfl) rfl hn h
theorem op_idxV {alen j:Nat} {k:IntKind} {p:Int} {v:Value} {cs:Array Value} {pos:_} {aft:_} {g:_} (s:NxF P n l E L Ls ⟨some d,.index t x y,ty,pos,aft,g⟩ X Y) (ht:aelt P t=some (alen,e,1)) (he:scal P e=true) (hx:ev l x=some (.agg cs)) (hy:ev l y=some (.int k p)) (hj:p=(j:Int)) (hlt:j<alen) (hc:cs[j]? =some v) (hn:Nat.ble (d+1) n=true) (h:At n ((d,v)::l) E L Y):At n l E L X:=by
 obtain⟨hu,i,hi,hsz⟩:=aelt_spec ht
 refine op_val s (fun a w hf hw=>?_) U hn h
 subst hj
 simp only [execOp,hf.eval hx,hf.eval hy,Instr.index,asIntOf,Sem.run_bind,Sem.run_pure,Result.andThen_ok,run_underlying hu]
 have h0:(0:Int)≤(j:Int)∧(j:Int)<(alen:Int):=by omega
 simp only [if_pos h0,Sem.run_bind,run_sizeOf hi,hsz,Result.andThen_ok,Int.toNat_natCast,Nat.mul_one]
 simp only [part,Sem.run_bind]
 rw [run_isAgg_scal he]
 simp only [Result.andThen_ok,Bool.false_eq_true,if_false,hc,Sem.run_pure]
end
theorem bitLen_div (N m:Nat):bitLen (N/2^m)=bitLen N- m:=by
 have h: ∀j,bitLen (N/2^m)≤j↔bitLen N- m≤j:=by
  intro j
  rw [bitLen_le,Nat.div_lt_iff_lt_mul (Nat.pow_pos (by decide)), ←Nat.pow_add, ←bitLen_le];omega
 have h1:=(h (bitLen N- m)).2 (Nat.le_refl _)
 have h2:=(h (bitLen (N/2^m))).1 (Nat.le_refl _)
 omega
theorem limbsOf_get {N i:Nat} (h:i<(limbsOf N).length):(limbsOf N)[i]=UInt64.ofNat (N/2^(64*i)):=by
 simp [limbsOf,limbsN]
theorem limbsOf_top {N:Nat} (h:0<(limbsOf N).length):(64*((limbsOf N).length- 1)+bitLen (limbsOf N)[(limbsOf N).length- 1].toNat)=bitLen N:=by
 rw [limbsOf_get,UInt64.toNat_ofNat']
 have hk:=length_limbsOf N
 have hN:N<2^(64*(limbsOf N).length):=by rw [hk];exact limbLen_le.1 (Nat.le_refl _)
 have:N/2^(64*((limbsOf N).length- 1))<2^64:=by
  rw [Nat.div_lt_iff_lt_mul (Nat.pow_pos (by decide)), ←Nat.pow_add]
  rwa [show 64+64*((limbsOf N).length- 1)=64*(limbsOf N).length from by omega]
 rw [Nat.mod_eq_of_lt this,bitLen_div]
 omega
theorem limbsOf_top' {N:Nat} {x:UInt64} (h:(limbsOf N)[(limbsOf N).length- 1]? =some x):64*((limbsOf N).length- 1)+bitLen x.toNat=bitLen N:=by
 obtain⟨h1,h2⟩:=List.getElem?_eq_some_iff.1 h
 rw [←h2]
 exact limbsOf_top (by omega)
def bytesSt (m N k:Nat):List UInt8:=(bytesN m N).take k++List.replicate (m- k) 0
theorem length_bytesSt {m N k:Nat} (h:k≤m):(bytesSt m N k).length=m:=by simp [bytesSt];omega
theorem bytesSt_succ {m N k:Nat} (h:k<m):bytesSt m N (k+1)=(bytesSt m N k).set k (UInt8.ofNat (N/256^(m- 1- k))):=by
 apply List.ext_getElem
 ·rw [length_bytesSt (by omega),List.length_set,length_bytesSt (by omega)]
 ·intro i h1 h2
  rw [length_bytesSt (by omega)]at h1
  rw [List.getElem_set]
  by_cases hi:k=i
  ·subst hi
   rw [if_pos rfl]
   simp only [bytesSt]
   rw [List.getElem_append_left (by simp;omega)]
   simp [bytesN]
  ·rw [if_neg hi]
   simp only [bytesSt,List.getElem_append]
   by_cases hlt:i<k
   ·simp;rw [dif_pos (by omega),dif_pos (by omega)]
   ·simp;rw [dif_neg (by omega),dif_neg (by omega)]
theorem bytesSt_zero (m N:Nat):bytesSt m N 0=List.replicate m 0:=by simp [bytesSt]
theorem bytesSt_all (m N:Nat):bytesSt m N m=bytesN m N:=by
 simp only [bytesSt,Nat.sub_self,List.replicate_zero,List.append_nil]
 exact List.take_of_length_le (by simp)
theorem byte_of_limb {l:List UInt64} {at_:Nat} (hq:at_/8<l.length):UInt8.ofNat (l[at_/8].toNat/2^(at_ % 8*8))=UInt8.ofNat (v64 l/256^at_):=by
 have hlimb:=limb_v64 hq
 rw [←hlimb]
 apply UInt8.toNat_inj.1
 rw [UInt8.toNat_ofNat',UInt8.toNat_ofNat']
 obtain⟨q,r,hqr,hr⟩: ∃q r,at_=8*q+r∧r<8:=⟨at_/8,at_ % 8,by omega,Nat.mod_lt _ (by decide)⟩
 have e1:at_/8=q:=by omega
 have e2:at_ % 8=r:=by omega
 rw [e1,e2,hqr,show(256:Nat)=2^8 from rfl, ←Nat.pow_mul,show 8*(8*q+r)=64*q+r*8 from by omega,Nat.pow_add, ←Nat.div_div_eq_div_mul]
 generalize v64 l/2^(64*q)=X
 have:r*8+8≤64:=by omega
 rw [show(2:Nat)^64=2^(r*8)*2^(64- r*8)from by rw [←Nat.pow_add];congr 1;omega,Nat.mod_mul_right_div_self]
 exact Nat.mod_mod_of_dvd _ (Nat.pow_dvd_pow 2 (by omega))
def rlpHead (base n:Nat):List UInt8:=if n≤55 then [UInt8.ofNat (base+n)]else UInt8.ofNat (base+55+(bytesOf n).length)::bytesOf n
theorem v64_one (n:Nat) (h:n<2^64):v64 [UInt64.ofNat n]=n:=by
 simp only [v64,n64,val,List.map_cons,List.map_nil,Nat.mul_zero,Nat.add_zero,UInt64.toNat_ofNat']
 exact Nat.mod_eq_of_lt h
theorem byteLen8 {n:Nat} (h:n<2^64):(bytesOf n).length≤8:=by
 rw [length_bytesOf];exact byteLen_le.2 (by simpa using h)
theorem v64_take_succ {l:List UInt64} {k:Nat} (h:k<l.length):v64 (l.take (k+1))=v64 (l.take k)+2^(64*k)*(l.getD k 0).toNat:=by
 rw [List.take_succ_eq_append_getElem h,v64_append,List.length_take,Nat.min_eq_left (by omega),List.getD_eq_getElem?_getD,List.getElem?_eq_getElem h]
 simp only [v64,n64,val,List.map_cons,List.map_nil,Option.getD_some,Nat.mul_zero,Nat.add_zero]
theorem v64_take_lt (l:List UInt64) (k:Nat):v64 (l.take k)<2^(64*k):=by
 refine Nat.lt_of_lt_of_le (v64_lt _) (Nat.pow_le_pow_right (by decide) ?_)
 have:=List.length_take_le k l
 omega
theorem bitLen_join {L x k:Nat} (hL:L<2^k) (hx:x≠0):bitLen (L+2^k*x)=k+bitLen x:=by
 have h1:=lt_bitLen x
 have h0:=bitLen_pos (Nat.pos_of_ne_zero hx)
 have hp:0<2^k:=Nat.pow_pos (by decide)
 refine bitLen_eq ?_ (.inr ?_)
 ·rw [Nat.pow_add]
  have:2^k*(x+1)≤2^k*2^bitLen x:=Nat.mul_le_mul_left _ h1
  rw [Nat.mul_add,Nat.mul_one]at this
  omega
 ·have h2:2^(bitLen x- 1)≤x:=by
   rcases Nat.lt_or_ge x (2^(bitLen x- 1))with h|h
   ·have:=bitLen_le.2 h;omega
   ·exact h
  rw [show k+bitLen x- 1=k+(bitLen x- 1) by omega,Nat.pow_add]
  have:=Nat.mul_le_mul_left (2^k) h2
  omega
theorem bits_at {l:List UInt64} {k:Nat} (h:k<l.length) (hx:(l.getD k 0).toNat≠0) (hv:v64 l=v64 (l.take (k+1))):bitLen (v64 l)=64*k+bitLen (l.getD k 0).toNat:=by
 rw [hv,v64_take_succ h,bitLen_join (v64_take_lt l k) hx]
theorem v64_take_zero {l:List UInt64} {k:Nat} (h:k<l.length) (hx:(l.getD k 0).toNat=0) (hv:v64 l=v64 (l.take (k+1))):v64 l=v64 (l.take k):=by
 rw [hv,v64_take_succ h,hx,Nat.mul_zero,Nat.add_zero]
theorem bytesN_drop {n k N:Nat} (hk:k≤n) (h:N<256^k):(bytesN n N).drop (n- k)=bytesN k N:=by
 apply List.ext_getElem
 ·rw [List.length_drop,length_bytesN,length_bytesN];omega
 ·intro i h1 h2
  rw [length_bytesN]at h2
  rw [List.getElem_drop]
  simp only [bytesN,List.getElem_map,List.getElem_range]
  congr 3
  omega
theorem bytes_drop32 {N:Nat} (h:N<2^256):(bytesN 32 N).drop (32- (bitLen N+7)/8)=bytesOf N:=by
 have h1:(bitLen N+7)/8≤32:=byteLen_le.2 (by simpa using h)
 exact bytesN_drop h1 (byteLen_le.1 (Nat.le_refl _))
theorem v64_four_lt (a b c d:UInt64):v64 [a,b,c,d]<2^256:=v64_lt [a,b,c,d]
theorem v64_take_all {l:List UInt64} {k:Nat} (h:l.length≤k):v64 (l.take k)=v64 l:=by rw [List.take_of_length_le h]
theorem v64_take_succD (l:List UInt64) (k:Nat):v64 (l.take (k+1))=v64 (l.take k)+2^(64*k)*(l.getD k 0).toNat:=by
 rcases Nat.lt_or_ge k l.length with h|h
 ·exact v64_take_succ h
 ·rw [v64_take_all h,v64_take_all (by omega),List.getD_eq_getElem?_getD,List.getElem?_eq_none h]
  simp
theorem pow64 (k:Nat):(2:Nat)^(64*(k+1))=2^(64*k)*18446744073709551616:=by rw [show 64*(k+1)=64*k+64 by omega,Nat.pow_add]
theorem shl64_nat (x:UInt64) (s:Nat):(shl64 x s).toNat=x.toNat*2^s % 2^64:=by rw [shl64,UInt64.toNat_ofNat']
theorem shr64_nat (x:UInt64) (s:Nat):(shr64 x s).toNat=x.toNat/2^s:=by
 rw [shr64,UInt64.toNat_ofNat',Nat.mod_eq_of_lt (Nat.lt_of_le_of_lt (Nat.div_le_self _ _) x.toNat_lt)]
theorem u64_zero {x:UInt64} (h:(x.toNat:Int)=0):x=0:=by rw [←UInt64.toNat_inj];simpa using h
theorem trim_len {l:List UInt64} {k:Nat} (hk:k≤l.length) (hz: ∀i,k≤i→l.getD i 0=0) (hl:k=0∨(0<k∧l.getD (k- 1) 0≠0)):l.take k=limbsOf (v64 l)∧(limbsOf (v64 l)).length=k:=by
 have h1:l.take k=limbsOf (v64 l):=trim_eq hk (fun i h hki=>by
  have:=hz i hki
  rwa [List.getD_eq_getElem?_getD,List.getElem?_eq_getElem h]at this) (by
  rcases hl with h|⟨h0,h⟩
  ·exact .inl h
  ·refine .inr ⟨by omega,?_⟩
   rwa [List.getD_eq_getElem?_getD,List.getElem?_eq_getElem (by omega)]at h)
 exact⟨h1,by rw [←h1,List.length_take];omega⟩
theorem Trim_f {N:Heaplet} {ao:Option Addr} {n cap:Nat} {l:List UInt64} (h:RSl N 1 ao n cap (u64s l)):
 Fn Tryz.prog 180 #[.slice ao n cap] [] [N] (fun v L=>v=.slice ao (limbsOf (v64 l)).length (limbsOf (v64 l)).length∧L= []∧l.take (limbsOf (v64 l)).length=limbsOf (v64 l)∧(limbsOf (v64 l)).length≤n):=by
 have hlen:l.length=n:=by simpa using h.len
 have hcap:=h.2.1
 have hmax:=h.2.2.1
 unfold maxLen at hmax
 refine Fn.enter (vs:= [.slice ao n cap]) Tryz.func180 U U U ?_
 intro E R hR
 have h:=h.le (hR N (by simp))
 change At _ _ E [R] _
 refine aH fun _ s_1=>aB (bV U U (aI (s_1 (aH fun _ s_2=>aB (bC U U (dB aN se211 U U (bV U U (aI (s_2 (aH fun _ s_3=>bX ?_))))))))))
 refine At.loop (fun fr_ hp_ ms_=> ∃(k:Nat),fr_= [(0,.slice ao n cap),(3,.int .i64 (k:Int))]∧hp_= [R]∧k=ms_∧(k≤n)∧(∀i,k≤i→l.getD i 0=0)) ?_ aZ ⟨n,rfl,rfl,rfl,Nat.le_refl _,fun i hi=>by rw [List.getD_eq_getElem?_getD,List.getElem?_eq_none (by omega)];rfl⟩ ?_
 ·repeat first|apply cW|exact .nil|exact lkI rfl (by omega)|rfl
 rintro _ _ _ ⟨k,rfl,rfl,rfl,hk,hz⟩
 refine aH fun _ s_4=>aH fun _ s_5=>aB (bC U U (op_gtr aN U U U (bC U U (At.partP (d:=8) U (fun g8=>?_) (fun g8=>?_)))))
 ·refine aR (nxgf U U U U) U U (aR (nxgf U U U U) U U (op_subI (nxgf U U U U) U U (by omega) (by omega) U (op_idx1 (nxgf U U U U) se211 U U (by assumption) (show _=(((k- 1:Nat)):Int)from by omega) (by omega) U ?_)))
  refine op_loadE (nxgf U U U U) sc34 U (by assumption) (by first|exact get8 (by omega)|exact get64 (by omega)|exact get32 (by omega)) (by simp) U ?_
  refine op_eql (nxgf U U U U) U U U (op_pickT aN U U U (aI (s_5 (cD U (fun c15=>?_) (fun c15=>?_)))))
  ·refine cG (aS (s_4 (bX (aB (bC U U (op_subI aN U U (by omega) (by omega) U (bV U U (cE (cJ (aS ?_))))))))))
   refine At.back ?_ aZ ⟨k- 1,rfl,rfl,rfl,by omega,fun i hi=>by rcases Nat.lt_or_ge i k with h|h;(rw [show i=k- 1 by omega];exact u64_zero c15);exact hz i h⟩ ?_
   ·repeat first|apply cW|exact .nil|exact lkI rfl (by omega)|rfl
   ·omega
  refine At.exit (bD (bD (dE (aS (s_3 (aH fun _ s_6=>aB (bC U U (bC U U (bC U U (op_slice0 aN se211 U (.some U (show _=(((k:Nat)):Int)from by omega)) (.some U (show _=(((k:Nat)):Int)from by omega)) (by omega) (by omega) (by simp) U ?_))))))))))
  refine bV U U (aI (s_6 (cK ((cF (L1:= []) U (.tmp U .nil) (.refl _) aZ ?_)))))
  have ⟨e1,e2⟩:=trim_len (by omega) hz (.inr ⟨by omega,fun e=>c15 (by rw [e];rfl)⟩);rw [e2];exact⟨rfl,rfl,e1,hk⟩
 refine dF U U U U U U U (dF U U U U U U U (dF U U U U U U U (dF U U U U U U U (dF U U U U U U U (dF U U U U U U U (op_pickF aN U U U (aI (s_5 (At.condF U (At.exit (bD (bD (dE (aS (s_3 (aH fun _ s_7=>aB (bC U U (bC U U (bC U U (op_slice0 aN se211 U (.some U (show _=(((k:Nat)):Int)from by omega)) (.some U (show _=(((k:Nat)):Int)from by omega)) (by omega) (by omega) (by simp) U ?_))))))))))))))))))))
 refine bV U U (aI (s_7 (cK ((cF (L1:= []) U (.tmp U .nil) (.refl _) aZ ?_)))))
 have ⟨e1,e2⟩:=trim_len (by omega) hz (.inl (by omega));rw [e2];exact⟨rfl,rfl,e1,hk⟩
end Go.Proofs.YtalmjkcapecpiaaGreat
