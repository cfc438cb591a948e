/- Several texts in one: see the remarks ahead of each part. No condition but those told there. -/
import Derived.Test.YtdpjbefeabokgaaGreatProg
import Derived.Test.YtdpjbefeabokgaaGreatU4
import Derived.WalkKit
import Derived.Test.YtdpjbefeabokgaaGreatU2
import Derived.Test.YtdpjbefeabokgaaGreatU3
import Derived.Lib.Hide
set_option linter.unusedSimpArgs false
set_option linter.unusedVariables false
/- Facts on the types of the program, by number. No condition. -/
namespace Go.Proofs.YtdpjbefeabokgaaGreat
open Go Go.RowKit
theorem sc3:scal Tryz.prog 3=true:=by kernel_rfl
theorem sz3:siz Tryz.prog 3=some 1:=by kernel_rfl
theorem sc4:scal Tryz.prog 4=true:=by kernel_rfl
theorem sc5:scal Tryz.prog 5=true:=by kernel_rfl
theorem sz5:siz Tryz.prog 5=some 1:=by kernel_rfl
theorem ze5:zer Tryz.prog 5=some (.int .u8 0):=by kernel_rfl
theorem sc9:scal Tryz.prog 9=true:=by kernel_rfl
theorem sc22:scal Tryz.prog 22=true:=by kernel_rfl
theorem sz22:siz Tryz.prog 22=some 1:=by kernel_rfl
theorem se22:selt Tryz.prog 22=some (23,1):=by kernel_rfl
theorem sc23:scal Tryz.prog 23=true:=by kernel_rfl
theorem sz23:siz Tryz.prog 23=some 1:=by kernel_rfl
theorem ze23:zer Tryz.prog 23=some (.slice none 0 0):=by kernel_rfl
theorem se23:selt Tryz.prog 23=some (5,1):=by kernel_rfl
theorem ag25:aggOf Tryz.prog 25=some 32:=by kernel_rfl
theorem sz25:siz Tryz.prog 25=some 32:=by kernel_rfl
theorem ze25:zer Tryz.prog 25=some (.agg #[.int .u8 0,.int .u8 0,.int .u8 0,.int .u8 0,.int .u8 0,.int .u8 0,.int .u8 0,.int .u8 0,.int .u8 0,.int .u8 0,.int .u8 0,.int .u8 0,.int .u8 0,.int .u8 0,.int .u8 0,.int .u8 0,.int .u8 0,.int .u8 0,.int .u8 0,.int .u8 0,.int .u8 0,.int .u8 0,.int .u8 0,.int .u8 0,.int .u8 0,.int .u8 0,.int .u8 0,.int .u8 0,.int .u8 0,.int .u8 0,.int .u8 0,.int .u8 0]):=by kernel_rfl
theorem ae25:aelt Tryz.prog 25=some (32,5,1):=by kernel_rfl
theorem ag26:aggOf Tryz.prog 26=some 32:=by kernel_rfl
theorem sz26:siz Tryz.prog 26=some 32:=by kernel_rfl
theorem ze26:zer Tryz.prog 26=some (.agg #[.int .u8 0,.int .u8 0,.int .u8 0,.int .u8 0,.int .u8 0,.int .u8 0,.int .u8 0,.int .u8 0,.int .u8 0,.int .u8 0,.int .u8 0,.int .u8 0,.int .u8 0,.int .u8 0,.int .u8 0,.int .u8 0,.int .u8 0,.int .u8 0,.int .u8 0,.int .u8 0,.int .u8 0,.int .u8 0,.int .u8 0,.int .u8 0,.int .u8 0,.int .u8 0,.int .u8 0,.int .u8 0,.int .u8 0,.int .u8 0,.int .u8 0,.int .u8 0]):=by kernel_rfl
theorem ae26:aelt Tryz.prog 26=some (32,5,1):=by kernel_rfl
theorem se31:selt Tryz.prog 31=some (60,4):=by kernel_rfl
theorem ze52:zer Tryz.prog 52=some (.agg #[.slice none 0 0,.slice none 0 0]):=by kernel_rfl
theorem fl52_0:fld Tryz.prog 52 0=some 0:=by kernel_rfl
theorem fl52_1:fld Tryz.prog 52 1=some 1:=by kernel_rfl
theorem pl52:places Tryz.prog 52=some [(0,1),(1,1)]:=by kernel_rfl
theorem ze55:zer Tryz.prog 55=some (.agg #[.slice none 0 0,.slice none 0 0]):=by kernel_rfl
theorem fl55_0:fld Tryz.prog 55 0=some 0:=by kernel_rfl
theorem fl55_1:fld Tryz.prog 55 1=some 1:=by kernel_rfl
theorem pl55:places Tryz.prog 55=some [(0,1),(1,1)]:=by kernel_rfl
theorem ze58:zer Tryz.prog 58=some (.agg #[.slice none 0 0,.slice none 0 0,.slice none 0 0,.slice none 0 0,.int .i64 0]):=by kernel_rfl
theorem fl58_0:fld Tryz.prog 58 0=some 0:=by kernel_rfl
theorem fl58_1:fld Tryz.prog 58 1=some 1:=by kernel_rfl
theorem fl58_2:fld Tryz.prog 58 2=some 2:=by kernel_rfl
theorem fl58_3:fld Tryz.prog 58 3=some 3:=by kernel_rfl
theorem fl58_4:fld Tryz.prog 58 4=some 4:=by kernel_rfl
theorem pl58:places Tryz.prog 58=some [(0,1),(1,1),(2,1),(3,1),(4,1)]:=by kernel_rfl
theorem fl60_1:fld Tryz.prog 60 1=some 1:=by kernel_rfl
theorem fl60_2:fld Tryz.prog 60 2=some 2:=by kernel_rfl
theorem fl60_3:fld Tryz.prog 60 3=some 3:=by kernel_rfl
theorem sc66:scal Tryz.prog 66=true:=by kernel_rfl
theorem sz66:siz Tryz.prog 66=some 1:=by kernel_rfl
theorem se66:selt Tryz.prog 66=some (68,3):=by kernel_rfl
theorem ag68:aggOf Tryz.prog 68=some 3:=by kernel_rfl
theorem sz68:siz Tryz.prog 68=some 3:=by kernel_rfl
theorem ze68:zer Tryz.prog 68=some (.agg #[.bool false,.slice none 0 0,.slice none 0 0]):=by kernel_rfl
theorem fl68_0:fld Tryz.prog 68 0=some 0:=by kernel_rfl
theorem fl68_1:fld Tryz.prog 68 1=some 1:=by kernel_rfl
theorem fl68_2:fld Tryz.prog 68 2=some 2:=by kernel_rfl
theorem pl68:places Tryz.prog 68=some [(0,1),(1,1),(2,1)]:=by kernel_rfl
theorem sc70:scal Tryz.prog 70=true:=by kernel_rfl
theorem sz70:siz Tryz.prog 70=some 1:=by kernel_rfl
theorem ze70:zer Tryz.prog 70=some (.int .u64 0):=by kernel_rfl
theorem se80:selt Tryz.prog 80=some (110,2):=by kernel_rfl
theorem se85:selt Tryz.prog 85=some (92,2):=by kernel_rfl
theorem ag92:aggOf Tryz.prog 92=some 2:=by kernel_rfl
theorem sz92:siz Tryz.prog 92=some 2:=by kernel_rfl
theorem ze92:zer Tryz.prog 92=some (.agg #[.slice none 0 0,.slice none 0 0]):=by kernel_rfl
theorem fl92_0:fld Tryz.prog 92 0=some 0:=by kernel_rfl
theorem fl92_1:fld Tryz.prog 92 1=some 1:=by kernel_rfl
theorem pl92:places Tryz.prog 92=some [(0,1),(1,1)]:=by kernel_rfl
theorem ze95:zer Tryz.prog 95=some (.agg #[.slice none 0 0,.slice none 0 0]):=by kernel_rfl
theorem fl95_0:fld Tryz.prog 95 0=some 0:=by kernel_rfl
theorem fl95_1:fld Tryz.prog 95 1=some 1:=by kernel_rfl
theorem pl95:places Tryz.prog 95=some [(0,1),(1,1)]:=by kernel_rfl
theorem sc96:scal Tryz.prog 96=true:=by kernel_rfl
theorem ze98:zer Tryz.prog 98=some (.agg #[.map none]):=by kernel_rfl
theorem fl98_0:fld Tryz.prog 98 0=some 0:=by kernel_rfl
theorem pl98:places Tryz.prog 98=some [(0,1)]:=by kernel_rfl
theorem ag99:aggOf Tryz.prog 99=some 25:=by kernel_rfl
theorem sz99:siz Tryz.prog 99=some 25:=by kernel_rfl
theorem ze99:zer Tryz.prog 99=some (.agg #[.int .u64 0,.int .u64 0,.int .u64 0,.int .u64 0,.int .u64 0,.int .u64 0,.int .u64 0,.int .u64 0,.int .u64 0,.int .u64 0,.int .u64 0,.int .u64 0,.int .u64 0,.int .u64 0,.int .u64 0,.int .u64 0,.int .u64 0,.int .u64 0,.int .u64 0,.int .u64 0,.int .u64 0,.int .u64 0,.int .u64 0,.int .u64 0,.int .u64 0]):=by kernel_rfl
theorem ae99:aelt Tryz.prog 99=some (25,70,1):=by kernel_rfl
theorem se104:selt Tryz.prog 104=some (9,1):=by kernel_rfl
theorem ag110:aggOf Tryz.prog 110=some 2:=by kernel_rfl
theorem sz110:siz Tryz.prog 110=some 2:=by kernel_rfl
theorem ze110:zer Tryz.prog 110=some (.agg #[.slice none 0 0,.slice none 0 0]):=by kernel_rfl
theorem fl110_0:fld Tryz.prog 110 0=some 0:=by kernel_rfl
theorem fl110_1:fld Tryz.prog 110 1=some 1:=by kernel_rfl
theorem pl110:places Tryz.prog 110=some [(0,1),(1,1)]:=by kernel_rfl
theorem ag123:aggOf Tryz.prog 123=some 5:=by kernel_rfl
theorem sz123:siz Tryz.prog 123=some 5:=by kernel_rfl
theorem ze123:zer Tryz.prog 123=some (.agg #[.bool false,.slice none 0 0,.bool false,.slice none 0 0,.slice none 0 0]):=by kernel_rfl
theorem fl123_0:fld Tryz.prog 123 0=some 0:=by kernel_rfl
theorem fl123_1:fld Tryz.prog 123 1=some 1:=by kernel_rfl
theorem fl123_2:fld Tryz.prog 123 2=some 2:=by kernel_rfl
theorem pl123:places Tryz.prog 123=some [(0,1),(1,1),(2,3)]:=by kernel_rfl
theorem ag128:aggOf Tryz.prog 128=some 25:=by kernel_rfl
theorem sz128:siz Tryz.prog 128=some 25:=by kernel_rfl
theorem ze128:zer Tryz.prog 128=some (.agg #[.int .u64 0,.int .u64 0,.int .u64 0,.int .u64 0,.int .u64 0,.int .u64 0,.int .u64 0,.int .u64 0,.int .u64 0,.int .u64 0,.int .u64 0,.int .u64 0,.int .u64 0,.int .u64 0,.int .u64 0,.int .u64 0,.int .u64 0,.int .u64 0,.int .u64 0,.int .u64 0,.int .u64 0,.int .u64 0,.int .u64 0,.int .u64 0,.int .u64 0]):=by kernel_rfl
theorem ae128:aelt Tryz.prog 128=some (25,70,1):=by kernel_rfl
theorem ze130:zer Tryz.prog 130=some (.agg #[.int .u64 0,.int .u64 0,.int .u64 0,.int .u64 0,.int .u64 0,.int .u64 0,.int .u64 0,.int .u64 0,.int .u64 0,.int .u64 0,.int .u64 0,.int .u64 0,.int .u64 0,.int .u64 0,.int .u64 0,.int .u64 0,.int .u64 0,.int .u64 0,.int .u64 0,.int .u64 0,.int .u64 0,.int .u64 0,.int .u64 0,.int .u64 0,.int .u64 0,.slice none 0 0]):=by kernel_rfl
theorem fl130_0:fld Tryz.prog 130 0=some 0:=by kernel_rfl
theorem fl130_1:fld Tryz.prog 130 1=some 25:=by kernel_rfl
theorem pl130:places Tryz.prog 130=some [(0,25),(25,1)]:=by kernel_rfl
theorem ag132:aggOf Tryz.prog 132=some 5:=by kernel_rfl
theorem sz132:siz Tryz.prog 132=some 5:=by kernel_rfl
theorem ze132:zer Tryz.prog 132=some (.agg #[.int .u64 0,.int .u64 0,.int .u64 0,.int .u64 0,.int .u64 0]):=by kernel_rfl
theorem ae132:aelt Tryz.prog 132=some (5,70,1):=by kernel_rfl
theorem se140:selt Tryz.prog 140=some (157,1):=by kernel_rfl
def z152:List Value:=List.replicate 136 (.int .u8 0)
theorem ae152:aelt Tryz.prog 152=some (136,5,1):=by kernel_rfl
theorem se154:selt Tryz.prog 154=some (70,1):=by kernel_rfl
theorem sc157:scal Tryz.prog 157=true:=by kernel_rfl
theorem sz157:siz Tryz.prog 157=some 1:=by kernel_rfl
theorem ze157:zer Tryz.prog 157=some (.int .u32 0):=by kernel_rfl
theorem ag167:aggOf Tryz.prog 167=some 24:=by kernel_rfl
theorem sz167:siz Tryz.prog 167=some 24:=by kernel_rfl
theorem ze167:zer Tryz.prog 167=some (.agg #[.int .u64 0,.int .u64 0,.int .u64 0,.int .u64 0,.int .u64 0,.int .u64 0,.int .u64 0,.int .u64 0,.int .u64 0,.int .u64 0,.int .u64 0,.int .u64 0,.int .u64 0,.int .u64 0,.int .u64 0,.int .u64 0,.int .u64 0,.int .u64 0,.int .u64 0,.int .u64 0,.int .u64 0,.int .u64 0,.int .u64 0,.int .u64 0]):=by kernel_rfl
theorem ae167:aelt Tryz.prog 167=some (24,70,1):=by kernel_rfl
theorem ze184:zer Tryz.prog 184=some (.slice none 0 0):=by kernel_rfl
theorem te5:ElemInfo Tryz.prog 5 (.int .u8 0) 1 1:=elem_of (by kernel_rfl) rfl (by decide)
theorem te23:ElemInfo Tryz.prog 23 (.slice none 0 0) 1 24:=elem_of (by kernel_rfl) rfl (by decide)
theorem te68:ElemInfo Tryz.prog 68 (.agg #[.bool false,.slice none 0 0,.slice none 0 0]) 3 56:=elem_of (by kernel_rfl) rfl (by decide)
theorem te70:ElemInfo Tryz.prog 70 (.int .u64 0) 1 8:=elem_of (by kernel_rfl) rfl (by decide)
theorem te92:ElemInfo Tryz.prog 92 (.agg #[.slice none 0 0,.slice none 0 0]) 2 48:=elem_of (by kernel_rfl) rfl (by decide)
theorem te110:ElemInfo Tryz.prog 110 (.agg #[.slice none 0 0,.slice none 0 0]) 2 48:=elem_of (by kernel_rfl) rfl (by decide)
end Go.Proofs.YtdpjbefeabokgaaGreat
/- Plain law: what limb.From's loop builds. No condition. -/
namespace Go.Proofs.YtdpjbefeabokgaaGreat
/-- One round of limb.From. -/
def fromStep (l:List UInt8) (k:Nat) (a:List UInt64):List UInt64:=
 a.set ((l.length- 1- k)/8) (a.getD ((l.length- 1- k)/8) 0 |||(UInt64.ofNat ((l.getD k 0).toNat*2^((l.length- 1- k) % 8*8))))
def fromSt (l:List UInt8):Nat→List UInt64
 |0=>List.replicate ((l.length+7)/8) 0
 |k+1=>fromStep l k (fromSt l k)
theorem length_fromSt (l:List UInt8) (k:Nat):(fromSt l k).length=(l.length+7)/8:=by
 induction k with
 |zero=>simp [fromSt]
 |succ k ih=>simp [fromSt,fromStep,ih]
theorem v64_set {a:List UInt64} {i:Nat} {y:UInt64} (h:i<a.length):v64 (a.set i y)+a[i].toNat*2^(64*i)=v64 a+y.toNat*2^(64*i):=by
 have:=val_set (2^64) (n64 a) i y.toNat (by simpa using h)
 simp only [v64,n64,List.map_set,List.getElem_map]at this⊢
 rw [←Nat.pow_mul]at this
 exact this
theorem limb_v64 {a:List UInt64} {i:Nat} (h:i<a.length):v64 a/2^(64*i) % 2^64=a[i].toNat:=by
 have:=val_div_mod (B:=2^64) (by decide) (n64_lt a) i (by simpa using h)
 rw [←Nat.pow_mul]at this
 simpa [v64,n64]using this
theorem be_take_succ (l:List UInt8) (k:Nat) (h:k<l.length):be (l.take (k+1))=be (l.take k)*256+l[k].toNat:=by
 rw [List.take_succ_eq_append_getElem h,be_snoc]
theorem v64_fromSt (l:List UInt8) (k:Nat) (hk:k≤l.length):v64 (fromSt l k)=be (l.take k)*256^(l.length- k):=by
 induction k with
 |zero=>simp [fromSt,v64_replicate,be]
 |succ k ih=>
  have hlt:k<l.length:=by omega
  have ih:=ih (by omega)
  have hat:(l.length- 1- k)/8<(fromSt l k).length:=by rw [length_fromSt];omega
  have hs:=v64_set (a:=fromSt l k) (i:=(l.length- 1- k)/8) (y:=(fromSt l k)[(l.length- 1- k)/8]|||UInt64.ofNat (l[k].toNat*2^((l.length- 1- k) % 8*8))) hat
  have hd:fromSt l (k+1)=(fromSt l k).set ((l.length- 1- k)/8) ((fromSt l k)[(l.length- 1- k)/8]|||UInt64.ofNat (l[k].toNat*2^((l.length- 1- k) % 8*8))):=by
   simp [fromSt,fromStep,hat,hlt]
  rw [←hd]at hs
  have hx:=l[k].toNat_lt
  have hlimb:=limb_v64 hat
  generalize hq:(fromSt l k)[(l.length- 1- k)/8]=L at hs hlimb
  -- the exponent of the byte
  obtain⟨q,r,hqr,hr⟩: ∃q r,l.length- 1- k=8*q+r∧r<8:=⟨(l.length- 1- k)/8,(l.length- 1- k) % 8,by omega,Nat.mod_lt _ (by decide)⟩
  have e1:(l.length- 1- k)/8=q:=by omega
  have e2:(l.length- 1- k) % 8=r:=by omega
  rw [e1]at hs hlimb
  rw [e2]at hs
  have e3:l.length- k=8*q+r+1:=by omega
  have e4:l.length- (k+1)=8*q+r:=by omega
  rw [e3]at ih
  rw [e4,be_take_succ l k hlt]
  have p256: ∀m:Nat,(256:Nat)^m=2^(8*m):=fun m=>by rw [show(256:Nat)=2^8 from rfl, ←Nat.pow_mul]
  rw [p256]at ih⊢
  have hdiv:L.toNat % 2^(r*8+8)=0:=by
   rw [←hlimb,ih]
   have:be (l.take k)*2^(8*(8*q+r+1))=2^(64*q)*(2^(r*8+8)*be (l.take k)):=by
    rw [←Nat.mul_assoc, ←Nat.pow_add,Nat.mul_comm];congr 2;omega
   rw [this,Nat.mul_div_cancel_left _ (Nat.pow_pos (by decide)),Nat.mod_mod_of_dvd _ (Nat.pow_dvd_pow 2 (by omega)),Nat.mul_mod_right]
  have hc:l[k].toNat*2^(r*8)<2^(r*8+8):=by
   rw [Nat.pow_add,Nat.mul_comm]
   exact Nat.mul_lt_mul_of_pos_left hx (Nat.pow_pos (by decide))
  have hc64:l[k].toNat*2^(r*8)<2^64:=Nat.lt_of_lt_of_le hc (Nat.pow_le_pow_right (by decide) (by omega))
  have hor:(L |||UInt64.ofNat (l[k].toNat*2^(r*8))).toNat=L.toNat+l[k].toNat*2^(r*8):=by
   rw [UInt64.toNat_or,UInt64.toNat_ofNat',Nat.mod_eq_of_lt hc64]
   exact nat_join _ _ _ hdiv hc
  rw [hor,ih,Nat.add_mul]at hs
  have h5:l[k].toNat*2^(r*8)*2^(64*q)=l[k].toNat*2^(8*(8*q+r)):=by
   rw [Nat.mul_assoc, ←Nat.pow_add];congr 2;omega
  have h6:be (l.take k)*2^(8*(8*q+r+1))=be (l.take k)*256*2^(8*(8*q+r)):=by
   rw [Nat.mul_assoc,show(256:Nat)=2^8 from rfl, ←Nat.pow_add];congr 2;omega
  rw [h5,h6]at hs
  rw [Nat.add_mul]
  omega
theorem fromSt_all (l:List UInt8):v64 (fromSt l l.length)=be l:=by
 rw [v64_fromSt l l.length (Nat.le_refl _)];simp
end Go.Proofs.YtdpjbefeabokgaaGreat
/- Plain laws: the bytes of a number in limbs; the head of a payload. No condition. -/
namespace Go.Proofs.YtdpjbefeabokgaaGreat
theorem bitLen_div (N m:Nat):bitLen (N/2^m)=bitLen N- m:=by
 have h: ∀j,bitLen (N/2^m)≤j↔bitLen N- m≤j:=by
  intro j
  rw [bitLen_le,Nat.div_lt_iff_lt_mul (Nat.pow_pos (by decide)), ←Nat.pow_add, ←bitLen_le];omega
 have h1:=(h (bitLen N- m)).2 (Nat.le_refl _)
 have h2:=(h (bitLen (N/2^m))).1 (Nat.le_refl _)
 omega
theorem limbsOf_get {N i:Nat} (h:i<(limbsOf N).length):(limbsOf N)[i]=UInt64.ofNat (N/2^(64*i)):=by
 simp [limbsOf,limbsN]
theorem limbsOf_top {N:Nat} (h:0<(limbsOf N).length):(64*((limbsOf N).length- 1)+bitLen (limbsOf N)[(limbsOf N).length- 1].toNat)=bitLen N:=by
 rw [limbsOf_get,UInt64.toNat_ofNat']
 have hk:=length_limbsOf N
 have hN:N<2^(64*(limbsOf N).length):=by rw [hk];exact limbLen_le.1 (Nat.le_refl _)
 have:N/2^(64*((limbsOf N).length- 1))<2^64:=by
  rw [Nat.div_lt_iff_lt_mul (Nat.pow_pos (by decide)), ←Nat.pow_add]
  rwa [show 64+64*((limbsOf N).length- 1)=64*(limbsOf N).length from by omega]
 rw [Nat.mod_eq_of_lt this,bitLen_div]
 omega
theorem limbsOf_top' {N:Nat} {x:UInt64} (h:(limbsOf N)[(limbsOf N).length- 1]? =some x):64*((limbsOf N).length- 1)+bitLen x.toNat=bitLen N:=by
 obtain⟨h1,h2⟩:=List.getElem?_eq_some_iff.1 h
 rw [←h2]
 exact limbsOf_top (by omega)
/-- What has been written of so many bytes of N after k rounds. -/
def bytesSt (m N k:Nat):List UInt8:=(bytesN m N).take k++List.replicate (m- k) 0
theorem length_bytesSt {m N k:Nat} (h:k≤m):(bytesSt m N k).length=m:=by simp [bytesSt];omega
theorem bytesSt_succ {m N k:Nat} (h:k<m):bytesSt m N (k+1)=(bytesSt m N k).set k (UInt8.ofNat (N/256^(m- 1- k))):=by
 apply List.ext_getElem
 ·rw [length_bytesSt (by omega),List.length_set,length_bytesSt (by omega)]
 ·intro i h1 h2
  rw [length_bytesSt (by omega)]at h1
  rw [List.getElem_set]
  by_cases hi:k=i
  ·subst hi
   rw [if_pos rfl]
   simp only [bytesSt]
   rw [List.getElem_append_left (by simp;omega)]
   simp [bytesN]
  ·rw [if_neg hi]
   simp only [bytesSt,List.getElem_append]
   by_cases hlt:i<k
   ·simp;rw [dif_pos (by omega),dif_pos (by omega)]
   ·simp;rw [dif_neg (by omega),dif_neg (by omega)]
theorem bytesSt_zero (m N:Nat):bytesSt m N 0=List.replicate m 0:=by simp [bytesSt]
theorem bytesSt_all (m N:Nat):bytesSt m N m=bytesN m N:=by
 simp only [bytesSt,Nat.sub_self,List.replicate_zero,List.append_nil]
 exact List.take_of_length_le (by simp)
theorem byte_of_limb {l:List UInt64} {at_:Nat} (hq:at_/8<l.length):UInt8.ofNat (l[at_/8].toNat/2^(at_ % 8*8))=UInt8.ofNat (v64 l/256^at_):=by
 have hlimb:=limb_v64 hq
 rw [←hlimb]
 apply UInt8.toNat_inj.1
 rw [UInt8.toNat_ofNat',UInt8.toNat_ofNat']
 obtain⟨q,r,hqr,hr⟩: ∃q r,at_=8*q+r∧r<8:=⟨at_/8,at_ % 8,by omega,Nat.mod_lt _ (by decide)⟩
 have e1:at_/8=q:=by omega
 have e2:at_ % 8=r:=by omega
 rw [e1,e2,hqr,show(256:Nat)=2^8 from rfl, ←Nat.pow_mul,show 8*(8*q+r)=64*q+r*8 from by omega,Nat.pow_add, ←Nat.div_div_eq_div_mul]
 generalize v64 l/2^(64*q)=X
 have:r*8+8≤64:=by omega
 rw [show(2:Nat)^64=2^(r*8)*2^(64- r*8)from by rw [←Nat.pow_add];congr 1;omega,Nat.mod_mul_right_div_self]
 exact Nat.mod_mod_of_dvd _ (Nat.pow_dvd_pow 2 (by omega))
/-- The head of a payload of n bytes. -/
def rlpHead (base n:Nat):List UInt8:=if n≤55 then [UInt8.ofNat (base+n)]else UInt8.ofNat (base+55+(bytesOf n).length)::bytesOf n
theorem v64_one (n:Nat) (h:n<2^64):v64 [UInt64.ofNat n]=n:=by
 simp only [v64,n64,val,List.map_cons,List.map_nil,Nat.mul_zero,Nat.add_zero,UInt64.toNat_ofNat']
 exact Nat.mod_eq_of_lt h
theorem byteLen8 {n:Nat} (h:n<2^64):(bytesOf n).length≤8:=by
 rw [length_bytesOf];exact byteLen_le.2 (by simpa using h)
end Go.Proofs.YtdpjbefeabokgaaGreat
/- Plain laws on numbers in digits of 32 bits. No condition. -/
namespace Go.Proofs.YtdpjbefeabokgaaGreat
/-! Limbs of 32 bits, the lowest first. -/
def n32 (l:List UInt32):List Nat:=l.map UInt32.toNat
def v32 (l:List UInt32):Nat:=val (2^32) (n32 l)
theorem n32_lt (l:List UInt32): ∀x∈n32 l,x<2^32:=by
 intro x hx;obtain⟨y,_,rfl⟩:=List.mem_map.1 hx;exact y.toNat_lt
theorem n32_inj {a b:List UInt32} (h:n32 a=n32 b):a=b:=List.map_inj_right (fun x y e=>UInt32.toNat_inj.1 e)|>.1 h
@[simp] theorem length_n32 (l:List UInt32):(n32 l).length=l.length:=by simp [n32]
theorem v32_lt (l:List UInt32):v32 l<2^(32*l.length):=by
 have:=val_lt (B:=2^32) (by decide) (n32_lt l)
 rw [length_n32, ←Nat.pow_mul]at this
 exact this
/-- So many digs of N. -/
def digsN (k N:Nat):List UInt32:=(List.range k).map fun i=>UInt32.ofNat (N/2^(32*i))
@[simp] theorem length_digsN (k N:Nat):(digsN k N).length=k:=by simp [digsN]
theorem n32_digsN (k N:Nat):n32 (digsN k N)=dig (2^32) k N:=by
 simp only [n32,digsN,dig,List.map_map]
 apply List.map_congr_left
 intro i _
 show(UInt32.ofNat (N/2^(32*i))).toNat=_
 rw [UInt32.toNat_ofNat',Nat.pow_mul]
theorem v32_digsN (k N:Nat):v32 (digsN k N)=N % 2^(32*k):=by rw [v32,n32_digsN,val_dig, ←Nat.pow_mul]
theorem digsN_v32 (l:List UInt32):digsN l.length (v32 l)=l:=by
 apply n32_inj;rw [n32_digsN,v32, ←length_n32,dig_val (by decide) (n32_lt l)]
theorem eq_digsN {l:List UInt32} {k N:Nat} (hl:l.length=k) (h:v32 l=N):l=digsN k N:=by rw [←hl, ←h,digsN_v32]
/-- The digs of N, no zeros at the end. -/
def digsOf (N:Nat):List UInt32:=digsN ((bitLen N+31)/32) N
theorem digLen_le {N k:Nat} :(bitLen N+31)/32≤k↔N<2^(32*k):=by
 rw [←bitLen_le];omega
theorem v32_digsOf (N:Nat):v32 (digsOf N)=N:=by
 rw [digsOf,v32_digsN];exact Nat.mod_eq_of_lt (digLen_le.1 (Nat.le_refl _))
theorem length_digsOf (N:Nat):(digsOf N).length=(bitLen N+31)/32:=by simp [digsOf]
theorem v32_append (a b:List UInt32):v32 (a++b)=v32 a+2^(32*a.length)*v32 b:=by
 simp only [v32,n32,List.map_append,val_append,List.length_map, ←Nat.pow_mul]
theorem v32_replicate (n:Nat):v32 (List.replicate n 0)=0:=by simp [v32,n32,val_replicate]
/-- What is left when the zeros at the end are taken away. -/
theorem trim_eq32 {l:List UInt32} {k:Nat} (hk:k≤l.length) (hz: ∀i (h:i<l.length),k≤i→l[i]=0) (hl:k=0∨ ∃h:k- 1<l.length,l[k- 1]≠0):l.take k=digsOf (v32 l):=by
 have hd:l.drop k=List.replicate (l.length- k) 0:=by
  apply List.ext_getElem (by simp)
  intro i h1 h2
  simp only [List.length_drop]at h1
  simp only [List.getElem_drop,List.getElem_replicate]
  exact hz (k+i) (by omega) (by omega)
 have hv:v32 l=v32 (l.take k):=by
  conv=>lhs;rw [←List.take_append_drop k l]
  rw [v32_append,hd,v32_replicate];simp
 have hlen:(l.take k).length=k:=by simp;omega
 refine eq_digsN ?_ hv.symm
 rw [hlen]
 have h1:v32 l<2^(32*k):=by rw [hv];have:=v32_lt (l.take k);rwa [hlen]at this
 have h2:=digLen_le.2 h1
 rcases hl with rfl|⟨hlt,hne⟩
 ·omega
 ·by_cases hc:(bitLen (v32 l)+31)/32≤k- 1
  ·exfalso
   have h3:=digLen_le.1 hc
   have h4:=val_div_mod (B:=2^32) (by decide) (n32_lt l) (k- 1) (by simpa using hlt)
   have h5:val (2^32) (n32 l)/ (2^32)^(k- 1)=0:=by
    rw [←Nat.pow_mul];exact Nat.div_eq_of_lt h3
   rw [h5]at h4
   simp [n32]at h4
   exact hne (by rw [←UInt32.toNat_inj];simpa using h4.symm)
  ·by_cases h0:k=0
   ·omega
   ·omega
theorem dig_v32 {a:List UInt32} {i:Nat} (h:i<a.length):v32 a/2^(32*i) % 2^32=a[i].toNat:=by
 have:=val_div_mod (B:=2^32) (by decide) (n32_lt a) i (by simpa using h)
 rw [←Nat.pow_mul]at this
 simpa [v32,n32]using this
end Go.Proofs.YtdpjbefeabokgaaGreat
/- Plain laws: numbers in digits of 32 bits and their bytes. No condition. -/
namespace Go.Proofs.YtdpjbefeabokgaaGreat
theorem bytesOf_zero:bytesOf 0= []:=rfl
theorem bytesOf_step {x:Nat} (h:x≠0):bytesOf x=bytesOf (x/256)++ [UInt8.ofNat x]:=by
 have hb:(bitLen x+7)/8=(bitLen (x/256)+7)/8+1:=by
  have h1:bitLen (x/256)=bitLen x- 8:=bitLen_div x 8
  have h2:=bitLen_pos (Nat.pos_of_ne_zero h)
  omega
 rw [bytesOf,hb,bytesN_succ];rfl
theorem trim_len32 {l:List UInt32} {k:Nat} (hk:k≤l.length) (hz: ∀i,k≤i→l.getD i 0=0) (hl:k=0∨(0<k∧l.getD (k- 1) 0≠0)):l.take k=digsOf (v32 l)∧(digsOf (v32 l)).length=k:=by
 have h1:l.take k=digsOf (v32 l):=trim_eq32 hk (fun i h hki=>by
  have:=hz i hki
  rwa [List.getD_eq_getElem?_getD,List.getElem?_eq_getElem h]at this) (by
  rcases hl with h|⟨h0,h⟩
  ·exact .inl h
  ·refine .inr ⟨by omega,?_⟩
   rwa [List.getD_eq_getElem?_getD,List.getElem?_eq_getElem (by omega)]at h)
 exact⟨h1,by rw [←h1,List.length_take];omega⟩
theorem v32_two (x:UInt64):v32 [UInt32.ofNat x.toNat,UInt32.ofNat (shr64 x 32).toNat]=x.toNat:=by
 have hx:=x.toNat_lt
 simp only [v32,n32,val,List.map_cons,List.map_nil,shr64,UInt32.toNat_ofNat',UInt64.toNat_ofNat']
 omega
theorem byte32_at {l:List UInt32} {i:Nat} (h:i/4<l.length):UInt8.ofNat (shr32 (l.getD (i/4) 0) (8*(i % 4))).toNat=UInt8.ofNat (v32 l/256^i):=by
 rw [shr32,UInt32.toNat_ofNat',Nat.mod_eq_of_lt (Nat.lt_of_le_of_lt (Nat.div_le_self _ _) (UInt32.toNat_lt _)),List.getD_eq_getElem?_getD,List.getElem?_eq_getElem h,Option.getD_some, ←dig_v32 h]
 apply UInt8.toNat_inj.1
 rw [UInt8.toNat_ofNat',UInt8.toNat_ofNat']
 obtain⟨q,r,hqr,hr⟩: ∃q r,i=4*q+r∧r<4:=⟨i/4,i % 4,by omega,Nat.mod_lt _ (by decide)⟩
 have e1:i/4=q:=by omega
 have e2:i % 4=r:=by omega
 rw [e1,e2,hqr,show(256:Nat)^(4*q+r)=2^(32*q)*2^(8*r)from by rw [←Nat.pow_add,show(256:Nat)=2^8 from rfl, ←Nat.pow_mul];congr 1;omega, ←Nat.div_div_eq_div_mul]
 generalize v32 l/2^(32*q)=X
 rw [show(2:Nat)^32=2^(8*r)*2^(32- 8*r)from by rw [←Nat.pow_add];congr 1;omega,Nat.mod_mul_right_div_self]
 exact Nat.mod_mod_of_dvd _ (Nat.pow_dvd_pow 2 (by omega:8≤32- 8*r))
theorem bytesOf_down {N i:Nat} (h:N/256^i≠0):bytesOf (N/256^i)=bytesOf (N/256^(i+1))++ [UInt8.ofNat (N/256^i)]:=by
 rw [bytesOf_step h,Nat.div_div_eq_div_mul,Nat.pow_succ]
theorem bytesOf_len0 {n:Nat} (h:(bytesOf n).length=0):n=0:=by
 rw [length_bytesOf]at h
 have:=byteLen_le (N:=n) (k:=0)
 have h2:=this.1 (by omega)
 simpa using h2
theorem down_ne {N i:Nat} (h:0<(bytesOf (N/256^(i+1))).length∨(UInt8.ofNat (N/256^i)).toNat≠0):N/256^i≠0:=by
 intro e
 rcases h with h|h
 ·have:N/256^(i+1)=0:=by rw [Nat.pow_succ, ←Nat.div_div_eq_div_mul,e,Nat.zero_div]
  rw [this,bytesOf_zero]at h;simp at h
 ·rw [e]at h;exact h rfl
theorem down_eq {N i:Nat} (h1: ¬0<(bytesOf (N/256^(i+1))).length) (h2: ¬(UInt8.ofNat (N/256^i)).toNat≠0):bytesOf (N/256^i)=bytesOf (N/256^(i+1)):=by
 have e1:=bytesOf_len0 (Nat.eq_zero_of_not_pos h1)
 have e2:N/256^i % 256=0:=by
  have:(UInt8.ofNat (N/256^i)).toNat=0:=by omega
  rwa [UInt8.toNat_ofNat']at this
 have e3:N/256^i=0:=by
  have h3:N/256^i/256=0:=by rw [Nat.div_div_eq_div_mul, ←Nat.pow_succ];exact e1
  omega
 rw [e1,e3]
end Go.Proofs.YtdpjbefeabokgaaGreat
/- limb.Trim: a number without zeros at its upper end. No condition. -/
namespace Go.Proofs.YtdpjbefeabokgaaGreat
open Go Go.RowKit
theorem u64_zero {x:UInt64} (h:(x.toNat:Int)=0):x=0:=by rw [←UInt64.toNat_inj];simpa using h
theorem trim_len {l:List UInt64} {k:Nat} (hk:k≤l.length) (hz: ∀i,k≤i→l.getD i 0=0) (hl:k=0∨(0<k∧l.getD (k- 1) 0≠0)):l.take k=limbsOf (v64 l)∧(limbsOf (v64 l)).length=k:=by
 have h1:l.take k=limbsOf (v64 l):=trim_eq hk (fun i h hki=>by
  have:=hz i hki
  rwa [List.getD_eq_getElem?_getD,List.getElem?_eq_getElem h]at this) (by
  rcases hl with h|⟨h0,h⟩
  ·exact .inl h
  ·refine .inr ⟨by omega,?_⟩
   rwa [List.getD_eq_getElem?_getD,List.getElem?_eq_getElem (by omega)]at h)
 exact⟨h1,by rw [←h1,List.length_take];omega⟩
theorem Trim_f {N:Heaplet} {ao:Option Addr} {n cap:Nat} {l:List UInt64} (h:RSl N 1 ao n cap (u64s l)):
 Fn Tryz.prog 133 #[.slice ao n cap] [] [N] (fun v L=>v=.slice ao (limbsOf (v64 l)).length (limbsOf (v64 l)).length∧L= []∧l.take (limbsOf (v64 l)).length=limbsOf (v64 l)∧(limbsOf (v64 l)).length≤n):=by
 have hlen:l.length=n:=by simpa using h.len
 have hcap:=h.2.1
 have hmax:=h.2.2.1
 unfold maxLen at hmax
 refine Fn.enter (vs:= [.slice ao n cap]) Tryz.func133 rfl rfl rfl ?_
 intro E R hR
 have h:=h.le (hR N (by simp))
 change At _ _ E [R] _
 refine At.seq fun _ s_1=>At.region (aE (aD rfl) rfl rfl (aA (aB (s_1 (At.seq fun _ s_2=>At.region (aC (aD rfl) rfl rfl (aU (aD rfl) se154 rfl rfl (aE (aD rfl) rfl rfl (aA (aB (s_2 (At.seq fun _ s_3=>At.block ?_))))))))))))
 refine At.loop (fun fr_ hp_ ms_=> ∃(k:Nat),fr_= [(0,.slice ao n cap),(3,.int .i64 (k:Int))]∧hp_= [R]∧k=ms_∧(k≤n)∧(∀i,k≤i→l.getD i 0=0)) ?_ (.refl _) ⟨n,rfl,rfl,rfl,Nat.le_refl _,fun i hi=>by rw [List.getD_eq_getElem?_getD,List.getElem?_eq_none (by omega)];rfl⟩ ?_
 ·exact .cons (by first|exact aP rfl (by omega)|rfl) (.cons (by first|exact aP rfl (by omega)|rfl) .nil)
 rintro _ _ _ ⟨k,rfl,rfl,rfl,hk,hz⟩
 refine At.seq fun _ s_4=>At.seq fun _ s_5=>At.region (aC (aD rfl) rfl rfl (op_gtr (aD rfl) rfl rfl rfl (aC (aD rfl) rfl rfl (At.partP (d:=8) rfl (fun g8=>?_) (fun g8=>?_)))))
 ·refine aC (aY rfl rfl rfl rfl) rfl rfl (aC (aY rfl rfl rfl rfl) rfl rfl (op_subI (aY rfl rfl rfl rfl) rfl rfl (by omega) (by omega) rfl (bI (aY rfl rfl rfl rfl) se154 rfl rfl (by assumption) (show _=(((k- 1:Nat)):Int)from by omega) (by omega) rfl ?_)))
  refine aT (aY rfl rfl rfl rfl) sc70 rfl (by assumption) (by first|exact get8 (by omega)|exact bT (by omega)|exact bU (by omega)) (by first|exact aL|exact aZ|exact bB|exact bF|exact bG|exact bH|exact bL|exact bK|exact bJ|exact bM) rfl ?_
  refine op_eql (aY rfl rfl rfl rfl) rfl rfl rfl (bS (aD rfl) rfl rfl rfl (aA (aB (s_5 (aK rfl (fun c15=>?_) (fun c15=>?_))))))
  ·refine At.skip (aB (s_4 (At.block (At.region (aC (aD rfl) rfl rfl (op_subI (aD rfl) rfl rfl (by omega) (by omega) rfl (aE (aD rfl) rfl rfl (aA (aR (aB ?_))))))))))
   refine bD ?_ (.refl _) ⟨k- 1,rfl,rfl,rfl,by omega,fun i hi=>by rcases Nat.lt_or_ge i k with h|h;(rw [show i=k- 1 by omega];exact u64_zero c15);exact hz i h⟩ ?_
   ·exact .cons (by first|exact aP rfl (by omega)|rfl) (.cons (by first|exact aP rfl (by omega)|rfl) .nil)
   ·omega
  refine At.exit (aG (aG (bC (aB (s_3 (At.seq fun _ s_6=>At.region (aC (aD rfl) rfl rfl (aC (aD rfl) rfl rfl (aC (aD rfl) rfl rfl (op_slice0 (aD rfl) se154 rfl (.some rfl (show _=(((k:Nat)):Int)from by omega)) (.some rfl (show _=(((k:Nat)):Int)from by omega)) (by omega) (by omega) (by simp) rfl ?_))))))))))
  refine aE (aD rfl) rfl rfl (aA (aB (s_6 (At.ret ((aW (L1:= []) rfl (.tmp rfl .nil) (.refl _) (.refl _) ?_))))))
  have ⟨e1,e2⟩:=trim_len (by omega) hz (.inr ⟨by omega,fun e=>c15 (by rw [e];rfl)⟩);rw [e2];exact⟨rfl,rfl,e1,hk⟩
 refine aH rfl rfl rfl rfl rfl rfl rfl (aH rfl rfl rfl rfl rfl rfl rfl (aH rfl rfl rfl rfl rfl rfl rfl (aH rfl rfl rfl rfl rfl rfl rfl (aH rfl rfl rfl rfl rfl rfl rfl (aH rfl rfl rfl rfl rfl rfl rfl (bR (aD rfl) rfl rfl rfl (aA (aB (s_5 (At.condF rfl (At.exit (aG (aG (bC (aB (s_3 (At.seq fun _ s_7=>At.region (aC (aD rfl) rfl rfl (aC (aD rfl) rfl rfl (aC (aD rfl) rfl rfl (op_slice0 (aD rfl) se154 rfl (.some rfl (show _=(((k:Nat)):Int)from by omega)) (.some rfl (show _=(((k:Nat)):Int)from by omega)) (by omega) (by omega) (by simp) rfl ?_)))))))))))))))))))))
 refine aE (aD rfl) rfl rfl (aA (aB (s_7 (At.ret ((aW (L1:= []) rfl (.tmp rfl .nil) (.refl _) (.refl _) ?_))))))
 have ⟨e1,e2⟩:=trim_len (by omega) hz (.inl (by omega));rw [e2];exact⟨rfl,rfl,e1,hk⟩
end Go.Proofs.YtdpjbefeabokgaaGreat
/- Cells of numbers: what is set and what is zero. No condition. -/
namespace Go.Proofs.YtdpjbefeabokgaaGreat
open Go Go.RowKit
theorem set_u64s (l:List UInt64) (i:Nat) (x:UInt64):(u64s l).set i (.int .u64 (x.toNat:Int))=u64s (l.set i x):=by simp [u64s,List.map_set,vl]
theorem set_u8s (l:List UInt8) (i:Nat) (x:UInt8):(u8s l).set i (.int .u8 (x.toNat:Int))=u8s (l.set i x):=by simp [u8s,List.map_set,vb]
theorem zero_u64s (m:Nat):List.replicate m (Value.int .u64 0)=u64s (List.replicate m 0):=by simp [u64s,vl]
theorem zero_u8s (m:Nat):List.replicate m (Value.int .u8 0)=u8s (List.replicate m 0):=by simp [u8s,vb]
theorem ofNat_shl (x:UInt8) (m:Nat):shl64 (UInt64.ofNat x.toNat) m=UInt64.ofNat (x.toNat*2^m):=by
 unfold shl64
 rw [UInt64.toNat_ofNat',Nat.mod_eq_of_lt (by have:=x.toNat_lt;omega)]
end Go.Proofs.YtdpjbefeabokgaaGreat
/- limb.From: the number of bytes. No condition. -/
namespace Go.Proofs.YtdpjbefeabokgaaGreat
open Go Go.RowKit
theorem From_f {N:Heaplet} {ao:Option Addr} {n cap:Nat} {l:List UInt8} (h:RSl N 1 ao n cap (u8s l)) (hn:n≤140737488351232):
 Fn Tryz.prog 140 #[.slice ao n cap] [] [N] (fun v L=> ∃M a,v=.slice a (limbsOf (be l)).length (limbsOf (be l)).length∧L= [M]∧RSl M 1 a (limbsOf (be l)).length (limbsOf (be l)).length (u64s (limbsOf (be l)))):=by
 have hlen:=h.len8
 have hcap:=h.cap63
 refine Fn.enter (vs:= [.slice ao n cap]) Tryz.func140 rfl rfl rfl ?_
 intro E R hR
 have h:=h.le (hR N (by simp))
 change At _ _ E [R] _
 refine At.seq fun _ s_1=>At.region (aE (aD rfl) rfl rfl (aA (aB (s_1 (At.seq fun _ s_2=>At.region (aC (aD rfl) rfl rfl (aU (aD rfl) se23 rfl rfl (aV (aD rfl) rfl rfl (by omega) (by omega) rfl (op_quoI (aD rfl) rfl rfl (by omega) (by omega) (by omega) rfl ?_)))))))))
 refine op_make (bA rfl) Tryz.underlying154 te70 rfl rfl (show _=((((n+7)/8:Nat)):Int)from by omega) (show _=((((n+7)/8:Nat)):Int)from by omega) (by omega) (by unfold maxLen;omega) rfl (fun N11 a11 r11=>?_)
 rw [made_one _ _ rfl,zero_u64s]at r11
 have s11:=r11.rsl
 refine aE (aD rfl) rfl rfl (aA (aB (s_2 (At.seq fun _ s_3=>At.seq fun _ s_4=>At.region (aC (aD rfl) rfl rfl (aU (aD rfl) se23 rfl rfl (aC (aD rfl) rfl rfl (aA (aB (s_4 (At.block (At.loop (fun fr_ hp_ ms_=> ∃(k:Nat) (Nq:Heaplet),fr_= [(0,.slice ao n cap),(3,.slice a11 ((n+7)/8) ((n+7)/8)),(12,.slice ao n cap),(13,.int .i64 (n:Int)),(14,.int .i64 (k:Int))]∧hp_= [Nq,R]∧n- k=ms_∧(k≤n)∧(Row Nq 70 1 a11 ((n+7)/8) ((n+7)/8) (u64s (fromSt l k)))) ?_ (.refl _) ⟨0,N11,rfl,rfl,rfl,by omega,by simpa [fromSt,hlen]using r11⟩ ?_))))))))))))
 ·exact .cons (by first|exact aP rfl (by omega)|rfl) (.cons (by first|exact aP rfl (by omega)|rfl) (.cons (by first|exact aP rfl (by omega)|rfl) (.cons (by first|exact aP rfl (by omega)|rfl) (.cons (by first|exact aP rfl (by omega)|rfl) .nil))))
 rintro _ _ _ ⟨k,Nq,rfl,rfl,rfl,hk,rq⟩
 have sq:=rq.rsl
 have hlq:=sq.len64
 refine At.seq fun _ s_5=>At.region (op_lss (aD rfl) rfl rfl rfl (aA (aB (s_5 (At.seq fun _ s_6=>aK rfl (fun c15=>?_) (fun c15=>?_))))))
 ·refine At.skip (aB (s_6 (At.seq fun _ s_7=>At.block (At.seq fun _ s_8=>At.region (aC (aD rfl) rfl rfl (bI (aD rfl) se23 rfl rfl (by assumption) (show _=(((k:Nat)):Int)from by omega) (by omega) rfl ?_))))))
  refine aT (aD rfl) sc5 rfl (by assumption) (by first|exact get8 (by omega)|exact bT (by omega)|exact bU (by omega)) (by first|exact aL|exact aZ|exact bB|exact bF|exact bG|exact bH|exact bL|exact bK|exact bJ|exact bM) rfl ?_
  refine aE (aD rfl) rfl rfl (aE (aD rfl) rfl rfl (aA (aB (s_8 (At.seq fun _ s_9=>At.region (aC (aD rfl) rfl rfl (aU (aD rfl) se23 rfl rfl (op_subI (aD rfl) rfl rfl (by omega) (by omega) rfl (aC (aD rfl) rfl rfl (op_subI (aD rfl) rfl rfl (by omega) (by omega) rfl (aE (aD rfl) rfl rfl (aA (aB (s_9 (At.drawn [13] [0,1,2,3,4,5,6,7,8,9,10,11,12,13] (by kernel_rfl) (by kernel_rfl) (aC (aN rfl rfl rfl (by kernel_rfl)) rfl rfl (aC (aN rfl rfl rfl (by kernel_rfl)) rfl rfl (op_quoI (aN rfl rfl rfl (by kernel_rfl)) rfl rfl (by omega) (by omega) (by omega) rfl (bI (aN rfl rfl rfl (by kernel_rfl)) se154 rfl rfl (by assumption) (show _=((((n- 1- k)/8:Nat)):Int)from by omega) (by omega) rfl ?_)))))))))))))))))))
  refine aT (aN rfl rfl rfl (by kernel_rfl)) sc70 rfl (by assumption) (by first|exact get8 (by omega)|exact bT (by omega)|exact bU (by omega)) (by first|exact aL|exact aZ|exact bB|exact bF|exact bG|exact bH|exact bL|exact bK|exact bJ|exact bM) rfl ?_
  refine aC (aN rfl rfl rfl (by kernel_rfl)) rfl rfl (op_conv64 (aN rfl rfl rfl (by kernel_rfl)) (und_some Tryz.underlying5) Tryz.underlying70 rfl (by first|rfl|exact(Int.toNat_of_nonneg (by omega)).symm) rfl ?_)
  refine aC (aN rfl rfl rfl (by kernel_rfl)) rfl rfl (op_rem (aN rfl rfl rfl (by kernel_rfl)) rfl rfl (by omega) (by omega) rfl (op_mulI (aN rfl rfl rfl (by kernel_rfl)) rfl rfl (by omega) (by omega) rfl (op_shlU (aN rfl rfl rfl (by kernel_rfl)) rfl rfl (show _=((((n- 1- k) % 8*8:Nat)):Int)from by omega) rfl ?_)))
  refine op_orU (aN rfl rfl rfl (by kernel_rfl)) rfl rfl rfl (bI (aN rfl rfl rfl (by kernel_rfl)) se154 rfl rfl (by assumption) (show _=((((n- 1- k)/8:Nat)):Int)from by omega) (by omega) rfl ?_)
  refine op_storeE (nxos rfl rfl rfl rfl) sz70 rfl rfl rfl rfl rfl rq (by simp<;>omega) (by simp) sel0 (fun Nq rq=>?_)
  simp only [setL]at rq
  have sq:=rq.rsl
  refine At.oneNil (aR (aB (s_7 (At.region (aV (aD rfl) rfl rfl (by omega) (by omega) rfl (aC (aD rfl) rfl rfl (aA (aB ?_))))))))
  refine bD ?_ (.refl _) ⟨k+1,Nq,rfl,rfl,rfl,by omega,by rw [fromSt,fromStep,hlen, ←ofNat_shl, ←set_u64s];exact rq⟩ ?_
  ·exact .cons (by first|exact aP rfl (by omega)|rfl) (.cons (by first|exact aP rfl (by omega)|rfl) (.cons (by first|exact aP rfl (by omega)|rfl) (.cons (by first|exact aP rfl (by omega)|rfl) (.cons (by first|exact aP rfl (by omega)|rfl) .nil))))
  ·omega
 refine At.exit (aG (aG (bC (aB (s_3 (At.seq fun _ s_10=>At.region (aC (aD rfl) rfl rfl (aJ (bA rfl) (.cons rfl .nil) (Trim_f sq) Tryz.func133 rfl rfl (by simp) rfl ?_))))))))
 rintro v39 L39 ⟨rfl,rfl,e1,e2⟩
 change At _ _ _ [Nq,R] _
 refine aE (aD rfl) rfl rfl (aA (aB (s_10 (At.ret ((aW (L1:= [Nq]) rfl (.tmp rfl .nil) (.refl _) (.refl _) ?_))))))
 obtain rfl:k=l.length:=by omega
 rw [fromSt_all]at e1 e2⊢
 have h2:=sq.take (Nat.le_refl _) e2 e2
 rw [Nat.mul_one,u64s_takeR,e1]at h2
 exact⟨Nq,a11,rfl,rfl,h2⟩
end Go.Proofs.YtdpjbefeabokgaaGreat
/- quarryref02's trim, Of, Bytes: numbers in digits of 32 bits. No condition. -/
namespace Go.Proofs.YtdpjbefeabokgaaGreat
open Go Go.RowKit
theorem u32_zero {x:UInt32} (h:(x.toNat:Int)=0):x=0:=by rw [←UInt32.toNat_inj];simpa using h
theorem trim32_f {N:Heaplet} {ao:Option Addr} {n cap:Nat} {l:List UInt32} (h:RSl N 1 ao n cap (u32s l)):
 Fn Tryz.prog 118 #[.slice ao n cap] [] [N] (fun v L=>v=.slice ao (digsOf (v32 l)).length cap∧L= []∧l.take (digsOf (v32 l)).length=digsOf (v32 l)∧(digsOf (v32 l)).length≤n):=by
 have hlen:=h.len32
 have hcap:=h.cap63
 refine Fn.enter (vs:= [.slice ao n cap]) Tryz.func118 rfl rfl rfl ?_
 intro E R hR
 have h:=h.le (hR N (by simp))
 change At _ _ E [R] _
 refine At.seq fun _ s_1=>At.region (aE (aD rfl) rfl rfl (aA (aB (s_1 (At.seq fun _ s_2=>At.region (aC (aD rfl) rfl rfl (aU (aD rfl) se140 rfl rfl (aE (aD rfl) rfl rfl (aA (aB (s_2 (At.seq fun _ s_3=>At.block ?_))))))))))))
 refine At.loop (fun fr_ hp_ ms_=> ∃(k:Nat),fr_= [(0,.slice ao n cap),(3,.int .i64 (k:Int))]∧hp_= [R]∧k=ms_∧(k≤n)∧(∀i,k≤i→l.getD i 0=0)) ?_ (.refl _) ⟨n,rfl,rfl,rfl,Nat.le_refl _,fun i hi=>by rw [List.getD_eq_getElem?_getD,List.getElem?_eq_none (by omega)];rfl⟩ ?_
 ·exact .cons (by first|exact aP rfl (by omega)|rfl) (.cons (by first|exact aP rfl (by omega)|rfl) .nil)
 rintro _ _ _ ⟨k,rfl,rfl,rfl,hk,hz⟩
 refine At.seq fun _ s_4=>At.seq fun _ s_5=>At.region (aC (aD rfl) rfl rfl (op_gtr (aD rfl) rfl rfl rfl (aC (aD rfl) rfl rfl (At.partP (d:=8) rfl (fun g8=>?_) (fun g8=>?_)))))
 ·refine aC (aY rfl rfl rfl rfl) rfl rfl (aC (aY rfl rfl rfl rfl) rfl rfl (op_subI (aY rfl rfl rfl rfl) rfl rfl (by omega) (by omega) rfl (bI (aY rfl rfl rfl rfl) se140 rfl rfl (by assumption) (show _=(((k- 1:Nat)):Int)from by omega) (by omega) rfl ?_)))
  refine aT (aY rfl rfl rfl rfl) sc157 rfl (by assumption) (by first|exact get8 (by omega)|exact bT (by omega)|exact bU (by omega)) (by first|exact aL|exact aZ|exact bB|exact bF|exact bG|exact bH|exact bL|exact bK|exact bJ|exact bM) rfl ?_
  refine op_eql (aY rfl rfl rfl rfl) rfl rfl rfl (bS (aD rfl) rfl rfl rfl (aA (aB (s_5 (aK rfl (fun c15=>?_) (fun c15=>?_))))))
  ·refine At.skip (aB (s_4 (At.block (At.region (aC (aD rfl) rfl rfl (op_subI (aD rfl) rfl rfl (by omega) (by omega) rfl (aE (aD rfl) rfl rfl (aA (aR (aB ?_))))))))))
   refine bD ?_ (.refl _) ⟨k- 1,rfl,rfl,rfl,by omega,fun i hi=>by rcases Nat.lt_or_ge i k with h|h;(rw [show i=k- 1 by omega];exact u32_zero c15);exact hz i h⟩ ?_
   ·exact .cons (by first|exact aP rfl (by omega)|rfl) (.cons (by first|exact aP rfl (by omega)|rfl) .nil)
   ·omega
  refine At.exit (aG (aG (bC (aB (s_3 (At.seq fun _ s_6=>At.region (aC (aD rfl) rfl rfl (aC (aD rfl) rfl rfl (op_slice0 (aD rfl) se140 rfl (.some rfl (show _=(((k:Nat)):Int)from by omega)) .none (by omega) (by omega) (by simp) rfl ?_)))))))))
  refine aE (aD rfl) rfl rfl (aA (aB (s_6 (At.ret ((aW (L1:= []) rfl (.tmp rfl .nil) (.refl _) (.refl _) ?_))))))
  have ⟨e1,e2⟩:=trim_len32 (by omega) hz (.inr ⟨by omega,fun e=>c15 (by rw [e];rfl)⟩);rw [e2];exact⟨rfl,rfl,e1,hk⟩
 refine aH rfl rfl rfl rfl rfl rfl rfl (aH rfl rfl rfl rfl rfl rfl rfl (aH rfl rfl rfl rfl rfl rfl rfl (aH rfl rfl rfl rfl rfl rfl rfl (aH rfl rfl rfl rfl rfl rfl rfl (aH rfl rfl rfl rfl rfl rfl rfl (bR (aD rfl) rfl rfl rfl (aA (aB (s_5 (At.condF rfl (At.exit (aG (aG (bC (aB (s_3 (At.seq fun _ s_7=>At.region (aC (aD rfl) rfl rfl (aC (aD rfl) rfl rfl (op_slice0 (aD rfl) se140 rfl (.some rfl (show _=(((k:Nat)):Int)from by omega)) .none (by omega) (by omega) (by simp) rfl ?_))))))))))))))))))))
 refine aE (aD rfl) rfl rfl (aA (aB (s_7 (At.ret ((aW (L1:= []) rfl (.tmp rfl .nil) (.refl _) (.refl _) ?_))))))
 have ⟨e1,e2⟩:=trim_len32 (by omega) hz (.inl (by omega));rw [e2];exact⟨rfl,rfl,e1,hk⟩
theorem Of32_f (x:UInt64):Fn Tryz.prog 103 #[.int .u64 (x.toNat:Int)] [] [] (fun v L=> ∃M a cap,v=.slice a (digsOf x.toNat).length cap∧L= [M]∧RSl M 1 a (digsOf x.toNat).length cap (u32s (digsOf x.toNat))):=by
 refine Fn.enter (vs:= [.int .u64 (x.toNat:Int)]) Tryz.func103 rfl rfl rfl ?_
 intro E R hR
 change At _ _ E [R] _
 refine At.seq fun _ s_1=>At.region (aE (aD rfl) rfl rfl (aA (aB (s_1 (At.seq fun _ s_2=>At.region (aC (aD rfl) rfl rfl (op_conv32 (aD rfl) (und_some Tryz.underlying70) Tryz.underlying157 rfl (by first|rfl|exact(Int.toNat_of_nonneg (by omega)).symm) rfl ?_)))))))
 refine aC (aD rfl) rfl rfl (op_shrU (aD rfl) rfl rfl (show _=((32:Nat):Int)from rfl) rfl (op_conv32 (aD rfl) (und_some Tryz.underlying70) Tryz.underlying157 rfl (by first|rfl|exact(Int.toNat_of_nonneg (by omega)).symm) rfl ?_))
 refine op_lit (bA rfl) Tryz.underlying140 ze157 sz157 (.cons rfl (.cons rfl .nil)) rfl rfl (by simp [Value.cells]) rfl rfl rfl (fun N8 a8 r8=>?_)
 simp only [flatV,List.flatMap_cons,List.flatMap_nil,Value.cells,List.append_nil,List.cons_append,List.nil_append]at r8
 have s8:=r8.rsl
 refine aJ (bA rfl) (.cons rfl .nil) (trim32_f (l:= [UInt32.ofNat x.toNat,UInt32.ofNat (shr64 x 32).toNat]) s8) Tryz.func118 rfl rfl (by simp) rfl ?_
 rintro v9 L9 ⟨rfl,rfl,e1,e2⟩
 change At _ _ _ [N8,R] _
 rw [v32_two]at e1 e2⊢
 have s9:=s8.take e2 (Nat.le_refl _) e2
 refine aE (aD rfl) rfl rfl (aA (aB (s_2 (At.ret ((aW (L1:= [N8]) rfl (.tmp rfl .nil) (.refl _) (.refl _) (⟨N8,a8,2,rfl,rfl,?_⟩)))))))
 have e:List.take ((digsOf x.toNat).length*1) [Value.int IntKind.u32 ↑(UInt32.ofNat x.toNat).toNat,Value.int IntKind.u32 ↑(UInt32.ofNat (shr64 x 32).toNat).toNat]=u32s (digsOf x.toNat):=by
  rw [Nat.mul_one, ←e1, ←u32s_take,e1];rfl
 rw [e]at s9
 exact s9
theorem Bytes32_f {N:Heaplet} {ao:Option Addr} {n cap:Nat} {l:List UInt32} (h:RSl N 1 ao n cap (u32s l)) (hn:n≤17592186044416):
 Fn Tryz.prog 86 #[.slice ao n cap] [] [N] (fun v L=> ∃M a cap,v=.slice a (bytesOf (v32 l)).length cap∧L= [M]∧Row M 5 1 a (bytesOf (v32 l)).length cap (u8s (bytesOf (v32 l)))):=by
 have hlen:=h.len32
 have hcap:=h.cap63
 have hlim:v32 l<256^(4*n):=by
  rw [show(256:Nat)=2^8 from rfl, ←Nat.pow_mul,show 8*(4*n)=32*l.length from by omega];exact v32_lt l
 have hb4: ∀j,(bytesOf (v32 l/256^j)).length≤4*n:=fun j=>by
  rw [length_bytesOf];exact byteLen_le.2 (Nat.lt_of_le_of_lt (Nat.div_le_self _ _) hlim)
 refine Fn.enter (vs:= [.slice ao n cap]) Tryz.func86 rfl rfl rfl ?_
 intro E R hR
 have h:=h.le (hR N (by simp))
 change At _ _ E [R] _
 refine At.seq fun _ s_1=>At.region (aE (aD rfl) rfl rfl (aA (aB (s_1 (At.seq fun _ s_2=>At.region (aE (aD rfl) rfl rfl (aA (aB (s_2 (At.seq fun _ s_3=>At.seq fun _ s_4=>At.region (aC (aD rfl) rfl rfl (aU (aD rfl) se140 rfl rfl (op_mulI (aD rfl) rfl rfl (by omega) (by omega) rfl (op_subI (aD rfl) rfl rfl (by omega) (by omega) rfl (aE (aD rfl) rfl rfl (aA (aB (s_4 (At.block ?_)))))))))))))))))))
 refine At.empty ?_
 refine At.loop (fun fr_ hp_ ms_=> ∃(j:Nat) (ap:Option Addr) (np cp:Nat) (Np:Heaplet),fr_= [(0,.slice ao n cap),(3,.slice ap np cp),(4,.int .i64 ((j:Int)- 1))]∧hp_= [Np,R]∧j=ms_∧(j≤4*n)∧(np=(bytesOf (v32 l/256^j)).length)∧(Row Np 5 1 ap np cp (u8s (bytesOf (v32 l/256^j))))) ?_ (.refl _) ⟨4*n,none,0,0,nilH,rfl,rfl,rfl,Nat.le_refl _,by rw [Nat.div_eq_of_lt hlim];rfl,by rw [Nat.div_eq_of_lt hlim];exact Row.nil _ _ _⟩ ?_
 ·exact .cons (by first|exact aP rfl (by omega)|rfl) (.cons (by first|exact aP rfl (by omega)|rfl) (.cons (by first|exact aP rfl (by omega)|rfl) .nil))
 rintro _ _ _ ⟨j,ap,np,cp,Np,rfl,rfl,rfl,hj,hnp,rp⟩
 have hb:=hb4 j
 refine At.seq fun _ s_5=>At.seq fun _ s_6=>At.region (aC (aD rfl) rfl rfl (op_geq (aD rfl) rfl rfl rfl (aA (aB (s_6 (aK rfl (fun c11=>?_) (fun c11=>?_)))))))
 ·have hbyte:=byte32_at (l:=l) (i:=j- 1) (by omega)
  obtain⟨i,hi⟩: ∃i,j=i+1:=⟨j- 1,by omega⟩
  have hj1:j- 1=i:=by omega
  have hj1':j=i+1:=hi
  have hst:(0<np∨(UInt8.ofNat (shr32 (l.getD ((j- 1)/4) 0) (8*((j- 1) % 4))).toNat).toNat≠0)→bytesOf (v32 l/256^(j- 1))=bytesOf (v32 l/256^j)++ [UInt8.ofNat (shr32 (l.getD ((j- 1)/4) 0) (8*((j- 1) % 4))).toNat]:=fun hh=>by
   rw [hbyte]at hh⊢
   rw [hnp]at hh
   rw [hj1,hj1']at*
   exact bytesOf_down (down_ne hh)
  refine At.skip (aB (s_5 (At.seq fun _ s_7=>At.block (At.seq fun _ s_8=>At.region (aC (aD rfl) rfl rfl (aC (aD rfl) rfl rfl (op_quoI (aD rfl) rfl rfl (by omega) (by omega) (by omega) rfl (bI (aD rfl) se140 rfl rfl (by assumption) (show _=((((j- 1)/4:Nat)):Int)from by omega) (by omega) rfl ?_))))))))
  refine aT (aD rfl) sc157 rfl (by assumption) (by first|exact get8 (by omega)|exact bT (by omega)|exact bU (by omega)) (by first|exact aL|exact aZ|exact bB|exact bF|exact bG|exact bH|exact bL|exact bK|exact bJ|exact bM) rfl ?_
  refine aC (aD rfl) rfl rfl (op_rem (aD rfl) rfl rfl (by omega) (by omega) rfl (op_mulI (aD rfl) rfl rfl (by omega) (by omega) rfl (op_shrU32 (aD rfl) rfl rfl (show _=(((8*((j- 1) % 4):Nat)):Int)from by omega) rfl ?_)))
  refine op_conv8 (aD rfl) (und_some Tryz.underlying157) Tryz.underlying5 rfl (by first|rfl|exact(Int.toNat_of_nonneg (by omega)).symm) rfl ?_
  refine aE (aD rfl) rfl rfl (aA (aB (s_8 (At.seq fun _ s_9=>At.region (aC (aD rfl) rfl rfl (aU (aD rfl) se23 rfl rfl (op_gtr (aD rfl) rfl rfl rfl (aC (aD rfl) rfl rfl (At.partP (d:=27) rfl (fun g27=>?_) (fun g27=>?_))))))))))
  ·refine aH rfl rfl rfl rfl rfl rfl rfl (aH rfl rfl rfl rfl rfl rfl rfl (bS (aD rfl) rfl rfl rfl (aA (aB (s_9 (At.condT rfl (At.region (aC (aD rfl) rfl rfl (aC (aD rfl) rfl rfl (op_lit (bA rfl) Tryz.underlying23 ze5 sz5 (.cons rfl .nil) rfl rfl (by simp [Value.cells]) rfl rfl rfl (fun N33 a33 r33=>?_)))))))))))
   simp only [flatV,List.flatMap_cons,List.flatMap_nil,Value.cells,List.append_nil,List.cons_append,List.nil_append]at r33
   have s33:=r33.rsl
   refine bE (nxl rfl) Tryz.underlying23 Tryz.underlying23 te5 rfl rfl rp (by assumption) (by first|exact aL|exact aZ|exact bB|exact bF|exact bG|exact bH|exact bL|exact bK|exact bJ|exact bM) (by first|exact one_u8s _|exact one_u64s _|exact one_u32s _|(intro u hu;simp at hu;subst hu;rfl)) (by omega) (by omega) sel1 rfl (fun N34 a34 p34 r34=>?_)
   have s34:=r34.rsl
   refine aE (aD rfl) rfl rfl (aA (aR (aB (s_7 (At.region (aC (aD rfl) rfl rfl (op_subI (aD rfl) rfl rfl (by omega) (by omega) rfl (aE (aD rfl) rfl rfl (aA (aB (At.sub (L':= [N34,R]) (.cons_cons _ (.cons _ (.cons_cons _ (.slnil)))) ?_)))))))))))
   refine bD ?_ (.refl _) ⟨j- 1,a34,np+1,p34,N34,rfl,rfl,rfl,by omega,by rw [hst (.inl (by omega)),List.length_append,hnp];rfl,by rw [hst (.inl (by omega)),u8s,List.map_append];exact r34⟩ ?_
   ·exact .cons (by first|exact aP rfl (by omega)|rfl) (.cons (by first|exact aP rfl (by omega)|rfl) (.cons (by first|exact aP rfl (by omega)|rfl) .nil))
   ·omega
  refine aC (aY rfl rfl rfl rfl) rfl rfl (op_neq (aY rfl rfl rfl rfl) rfl rfl rfl (bR (aD rfl) rfl rfl rfl (aA (aB (s_9 (aK rfl (fun c30=>?_) (fun c30=>?_)))))))
  ·refine At.region (aC (aD rfl) rfl rfl (aC (aD rfl) rfl rfl (op_lit (bA rfl) Tryz.underlying23 ze5 sz5 (.cons rfl .nil) rfl rfl (by simp [Value.cells]) rfl rfl rfl (fun N33 a33 r33=>?_))))
   simp only [flatV,List.flatMap_cons,List.flatMap_nil,Value.cells,List.append_nil,List.cons_append,List.nil_append]at r33
   have s33:=r33.rsl
   refine bE (nxl rfl) Tryz.underlying23 Tryz.underlying23 te5 rfl rfl rp (by assumption) (by first|exact aL|exact aZ|exact bB|exact bF|exact bG|exact bH|exact bL|exact bK|exact bJ|exact bM) (by first|exact one_u8s _|exact one_u64s _|exact one_u32s _|(intro u hu;simp at hu;subst hu;rfl)) (by omega) (by omega) sel1 rfl (fun N34 a34 p34 r34=>?_)
   have s34:=r34.rsl
   refine aE (aD rfl) rfl rfl (aA (aR (aB (s_7 (At.region (aC (aD rfl) rfl rfl (op_subI (aD rfl) rfl rfl (by omega) (by omega) rfl (aE (aD rfl) rfl rfl (aA (aB (At.sub (L':= [N34,R]) (.cons_cons _ (.cons _ (.cons_cons _ (.slnil)))) ?_)))))))))))
   refine bD ?_ (.refl _) ⟨j- 1,a34,np+1,p34,N34,rfl,rfl,rfl,by omega,by rw [hst (.inr (by omega)),List.length_append,hnp];rfl,by rw [hst (.inr (by omega)),u8s,List.map_append];exact r34⟩ ?_
   ·exact .cons (by first|exact aP rfl (by omega)|rfl) (.cons (by first|exact aP rfl (by omega)|rfl) (.cons (by first|exact aP rfl (by omega)|rfl) .nil))
   ·omega
  refine At.skip (aR (aB (s_7 (At.region (aC (aD rfl) rfl rfl (op_subI (aD rfl) rfl rfl (by omega) (by omega) rfl (aE (aD rfl) rfl rfl (aA (aB ?_)))))))))
  have hc0: ¬(UInt8.ofNat (v32 l/256^(j- 1))).toNat≠0:=by rw [←hbyte];omega
  have hl0: ¬0<(bytesOf (v32 l/256^(i+1))).length:=by rw [←hj1', ←hnp];omega
  rw [hj1]at hc0
  refine bD ?_ (.refl _) ⟨j- 1,ap,np,cp,Np,rfl,rfl,rfl,by omega,by rw [hj1,down_eq hl0 hc0, ←hj1'];exact hnp,by rw [hj1,down_eq hl0 hc0, ←hj1'];exact rp⟩ ?_
  ·exact .cons (by first|exact aP rfl (by omega)|rfl) (.cons (by first|exact aP rfl (by omega)|rfl) (.cons (by first|exact aP rfl (by omega)|rfl) .nil))
  ·omega
 refine At.exit (aG (aG (bC (aB (s_3 (At.seq fun _ s_10=>At.region (aC (aD rfl) rfl rfl (aE (aD rfl) rfl rfl (aA (aB (s_10 (At.ret ((aW (L1:= [Np]) rfl (.tmp rfl .nil) (.refl _) (.refl _) ?_))))))))))))))
 obtain rfl:j=0:=by omega
 rw [Nat.pow_zero,Nat.div_one]at hnp rp
 subst hnp
 exact⟨Np,ap,cp,rfl,rfl,rp⟩
end Go.Proofs.YtdpjbefeabokgaaGreat
/- Plain law: what the reference's From builds. No condition. -/
namespace Go.Proofs.YtdpjbefeabokgaaGreat
def rfromStep (l:List UInt8) (i:Nat) (a:List UInt32):List UInt32:=
 a.set (i/4) (a.getD (i/4) 0 |||(UInt32.ofNat ((l.getD (l.length- 1- i) 0).toNat*2^(8*(i % 4)))))
def rfromSt (l:List UInt8):Nat→List UInt32
 |0=>List.replicate ((l.length+3)/4) 0
 |k+1=>rfromStep l k (rfromSt l k)
end Go.Proofs.YtdpjbefeabokgaaGreat
/- The engine, arrays of words: what is read and written at a place. For whatever program. No condition. -/
namespace Go.Proofs.YtdpjbefeabokgaaGreat
open Go Go.RowKit
theorem get64A {bs:List UInt64} {j:Nat} (h:j<bs.length):(u64s bs)[0+j*1]? =some (.int .u64 ((bs.getD j 0).toNat:Int)):=by rw [Nat.zero_add,Nat.mul_one];exact bT h
theorem get8A {bs:List UInt8} {j:Nat} (h:j<bs.length):(u8s bs)[0+j*1]? =some (.int .u8 ((bs.getD j 0).toNat:Int)):=by rw [Nat.zero_add,Nat.mul_one];exact get8 h
theorem set64A (l:List UInt64) (j:Nat) (x:UInt64):setL (u64s l) (0+j*1) [.int .u64 (x.toNat:Int)]=u64s (l.set j x):=by rw [Nat.zero_add,Nat.mul_one,setL,setL,set_u64s]
theorem set8A (l:List UInt8) (j:Nat) (x:UInt8):setL (u8s l) (0+j*1) [.int .u8 (x.toNat:Int)]=u8s (l.set j x):=by rw [Nat.zero_add,Nat.mul_one,setL,setL,set_u8s]
theorem four {α:Type} {l:List α} (h:l.length=4): ∃a b c d,l= [a,b,c,d]:=by
 match l,h with
 | [a,b,c,d],_=>exact⟨a,b,c,d,rfl⟩
/-- A word of four limbs as a value. -/
def wv (l:List UInt64):Value:=.agg (u64s l).toArray
section
variable {P : Program} {n : Nat} {l : List (Nat × Value)} {E : World} {L Ls : List Heaplet} {X Y : Act → World → Prop} {d : Nat} {t ty e : TypeId} {x y : Operand}
theorem op_idxV {alen j:Nat} {k:IntKind} {p:Int} {v:Value} {cs:Array Value} {pos:_} {aft:_} {g:_} (s:NxF P n l E L Ls ⟨some d,.index t x y,ty,pos,aft,g⟩ X Y) (ht:aelt P t=some (alen,e,1)) (he:scal P e=true) (hx:ev l x=some (.agg cs)) (hy:ev l y=some (.int k p)) (hj:p=(j:Int)) (hlt:j<alen) (hc:cs[j]? =some v) (hn:Nat.ble (d+1) n=true) (h:At n ((d,v)::l) E L Y):At n l E L X:=by
 obtain⟨hu,i,hi,hsz⟩:=aelt_spec ht
 refine op_val s (fun a w hf hw=>?_) rfl hn h
 subst hj
 simp only [execOp,hf.eval hx,hf.eval hy,Instr.index,asIntOf,Sem.run_bind,Sem.run_pure,Result.andThen_ok,run_underlying hu]
 have h0:(0:Int)≤(j:Int)∧(j:Int)<(alen:Int):=by omega
 simp only [if_pos h0,Sem.run_bind,run_sizeOf hi,hsz,Result.andThen_ok,Int.toNat_natCast,Nat.mul_one]
 simp only [part,Sem.run_bind]
 rw [run_isAgg_scal he]
 simp only [Result.andThen_ok,Bool.false_eq_true,if_false,hc,Sem.run_pure]
end
end Go.Proofs.YtdpjbefeabokgaaGreat
/- Plain laws: words built by or, place by place. No condition. -/
namespace Go.Proofs.YtdpjbefeabokgaaGreat
end Go.Proofs.YtdpjbefeabokgaaGreat
/- quarryref02's From, Cmp; quarryref01's W. No condition but that bytes are not more than a machine holds. -/
namespace Go.Proofs.YtdpjbefeabokgaaGreat
open Go Go.RowKit
/-- How two numbers stand to each other. -/
def cmpI (x y:Nat):Int:=if x<y then-1 else if y<x then 1 else 0
end Go.Proofs.YtdpjbefeabokgaaGreat
