/- Several texts in one: see the remarks ahead of each part. No condition but those told there. -/
import Derived.Test.YtdpjbefeabokgaaU7
import Derived.Test.YtdpjbefeabokgaaU6
import Derived.Test.YtdpjbefeabokgaaU4
import Derived.Test.YtdpjbefeabokgaaU5
import Derived.Stop.BytesEq
set_option linter.unusedSimpArgs false
set_option linter.unusedVariables false
/- The reference's permutation. No condition. -/
namespace Go.Proofs.Ytdpjbefeabokgaa
open Go Go.RowKit
theorem all_take {xs:List Value} {k:Nat} (h:xs.length=k):(xs.drop 0).take k=xs:=by rw [List.drop_zero,List.take_of_length_le (by omega)]
theorem len64s {l:List UInt64} {k:Nat} (h:l.length=k):(u64s l).length=k:=by simp [u64s,h]
end Go.Proofs.Ytdpjbefeabokgaa
/- Keccak-256 in the program and in the reference. Condition: at most 2^40 bytes. -/
namespace Go.Proofs.Ytdpjbefeabokgaa
open Go Go.RowKit
/-- What the reference pads. -/
def refX (l:List UInt8) (j:Nat):List UInt8:=l++1::List.replicate j 0
def refB (l:List UInt8) (j:Nat):List UInt8:=(refX l j).set (l.length+j) ((refX l j).getD (l.length+j) 0 |||128)
theorem len8s {l:List UInt8} {k:Nat} (h:l.length=k):(u8s l).length=k:=by simp [u8s,h]
set_option maxRecDepth 100000 in
set_option maxHeartbeats 4000000 in
theorem FKeccak_f {N:Heaplet} {ao:Option Addr} {n cap:Nat} {l:List UInt8} (hb:RSl N 1 ao n cap (u8s l)) (hn:n≤1099511627776):Fn Try.prog 31 #[.slice ao n cap] [] [N] (fun v L=>v=.agg (u8s (kec l)).toArray∧L= []):=by
 have hlen:=hb.len8
 have hcap:=hb.cap63
 refine Fn.enter (vs:= [.slice ao n cap]) Try.func31 rfl rfl rfl ?_
 intro E R hR
 have hb:=hb.le (hR N (by simp))
 change At _ _ E [R] _
 refine At.seq fun _ s_1=>At.region (op_alloc (nxla rfl) ze47 rfl (fun N2 b2 B2=>?_))
 change Blk N2 b2 _ [.int .u8 0,.int .u8 0,.int .u8 0,.int .u8 0,.int .u8 0,.int .u8 0,.int .u8 0,.int .u8 0,.int .u8 0,.int .u8 0,.int .u8 0,.int .u8 0,.int .u8 0,.int .u8 0,.int .u8 0,.int .u8 0,.int .u8 0,.int .u8 0,.int .u8 0,.int .u8 0,.int .u8 0,.int .u8 0,.int .u8 0,.int .u8 0,.int .u8 0,.int .u8 0,.int .u8 0,.int .u8 0,.int .u8 0,.int .u8 0,.int .u8 0,.int .u8 0]at B2
 refine aB (aC (s_1 (At.seq fun _ s_2=>At.region (aG (nxla rfl) .nil (FNew_f) Try.func44 rfl rfl (by simp) rfl ?_))))
 rintro v4 L4 ⟨N4,b4,e4,rfl,rfl,B4⟩
 change At _ _ _ [N4,N2,R] _
 refine aE (aD rfl) rfl rfl (aB (aC (s_2 (At.seq fun _ s_3=>At.block (At.loop (fun fr_ hp_ ms_=> ∃(k:Nat) (po:Option Addr) (pn pc:Nat) (N4:Heaplet),fr_= [(0,.slice po pn pc),(2,.pointer (some ⟨b2,0,none⟩)),(3,.pointer (some ⟨b4,0,none⟩))]∧hp_= [N4,N2,R]∧n- 136*k=ms_∧(136*k≤n)∧(pn=n- 136*k)∧(RSl R 1 po pn pc (u8s (l.drop (136*k))))∧(Blk N4 b4 e4 (u64s (absN l k)++ [.slice none 0 0]))) ?_ (.refl _) ⟨0,ao,n,cap,N4,rfl,rfl,rfl,by omega,by omega,hb,B4⟩ ?_)))))
 ·exact .cons (by first|exact lkI rfl (by omega)|rfl) (.cons (by first|exact lkI rfl (by omega)|rfl) (.cons (by first|exact lkI rfl (by omega)|rfl) .nil))
 rintro _ _ _ ⟨k,po,pn,pc,N4,rfl,rfl,rfl,hk,hpn,hp,B4⟩
 have hal:=absN_len l k
 have hpc:=hp.cap63
 refine At.seq fun _ s_4=>At.seq fun _ s_5=>At.region (aA (aD rfl) rfl rfl (op_lenS (aD rfl) se33 rfl rfl (op_geq (aD rfl) rfl rfl rfl (aB (aC (s_5 (aK rfl (fun c7=>?_) (fun c7=>?_))))))))
 ·refine At.skip (aC (s_4 (At.seq fun _ s_6=>At.block (At.drawn [5] [0,1,2,3,4,5] (by kernel_rfl) (by kernel_rfl) (aA (aJ rfl rfl rfl (by kernel_rfl)) rfl rfl (op_nilChk (aJ rfl rfl rfl (by kernel_rfl)) rfl rfl (op_fieldAddr (aJ rfl rfl rfl (by kernel_rfl)) fl92_0 rfl rfl (aA (aJ rfl rfl rfl (by kernel_rfl)) rfl rfl (op_slice0 (aJ rfl rfl rfl (by kernel_rfl)) se33 rfl (.some rfl (show _=(((136:Nat)):Int)from by omega)) .none (by omega) (by omega) (by simp) rfl ?_)))))))))
  have s14:=hp.take8 (hi:=136) (m:=pc) (by omega) (Nat.le_refl _) (by omega)
  refine op_call (nxos rfl rfl rfl rfl) (.cons rfl (.cons rfl .nil)) (FAbsorb_f hal B4 s14 rfl) (F:= [N2,R]) Try.func45 rfl rfl (.refl _) (by simp) rfl ?_
  rintro v15 L15 ⟨N4,rfl,rfl,B4⟩
  change At _ _ _ [N4,N2,R] _
  refine At.oneNil (At.inNorm (aC (s_6 (At.region (aA (aD rfl) rfl rfl (op_slice (aD rfl) se33 rfl (.some rfl (show _=(((136:Nat)):Int)from by omega)) .none .none (by omega) (by omega) (by omega) (by simp) rfl ?_))))))
  refine aE (aD rfl) rfl rfl (aB (aC ?_))
  refine At.back ?_ (.refl _) ⟨k+1,sadr po 136 pc 1,pn- 136,pc- 136,N4,rfl,rfl,rfl,by omega,by omega,by rw [show 136*(k+1)=136*k+136 by omega, ←List.drop_drop];exact hp.drop8 (lo:=136) (by omega),B4⟩ ?_
  ·exact .cons (by first|exact lkI rfl (by omega)|rfl) (.cons (by first|exact lkI rfl (by omega)|rfl) (.cons (by first|exact lkI rfl (by omega)|rfl) .nil))
  ·omega
 refine At.exit (aF (aF (At.inHit (aC (s_3 (At.seq fun _ s_7=>At.region (aA (aD rfl) rfl rfl (aA (aD rfl) rfl rfl (op_nilChk (aD rfl) rfl rfl (op_fieldAddr (aD rfl) fl92_1 rfl rfl ?_))))))))))
 refine op_loadB (aD rfl) sc33 rfl B4 (by first|rfl|(rw [List.getElem?_append_right (by rw [len64s hal];decide),len64s hal];rfl)) mem0 rfl ?_
 refine aA (aD rfl) rfl rfl ?_
 refine op_append0 (nxla rfl) Try.underlying33 Try.underlying33 te5 rfl rfl hp (by first|exact mem0|exact mem1|exact mem2|exact mem3|exact mem4|exact mem5|exact mem6|exact mem7|exact mem8|exact mem9) (by first|exact one_u8s _|exact one_u64s _|exact one_u32s _|(intro u hu;simp at hu;subst hu;rfl)) (by omega) (by omega) rfl (fun N22 a22 p22 r22=>?_)
 have s22:=r22.rsl
 refine op_nilChk (aD rfl) rfl rfl (op_fieldAddr (aD rfl) fl92_1 rfl rfl (op_store (nxl rfl) sz33 rfl rfl rfl rfl rfl B4 (by simp [u64s,hal]) sel1 (fun N4 B4=>?_)))
 have B4:Blk N4 b4 e4 (u64s (absN l k)++ [.slice a22 pn p22]):=by
  rw [setL,setL,List.set_append_right _ _ (by rw [len64s hal];decide),len64s hal]at B4
  exact B4
 refine aB (aC (s_7 (At.seq fun _ s_8=>At.region (aA (aD rfl) rfl rfl ?_))))
 have hkm:k=n/136:=by omega
 have hkec:ouI (absorb (absN l k) (padL (l.drop (136*k)))) 32=kec l:=by rw [kec,hlen, ←hkm]
 have hol:=kec_len l
 refine op_call (nxl rfl) (.cons rfl .nil) (FSum_f hal B4 s22 (by omega)) (F:= [N22,N2,R]) Try.func46 rfl rfl (.refl _) (by simp) rfl ?_
 rintro v26 L26 ⟨rfl,rfl⟩
 change At _ _ _ [N22,N2,R] _
 rw [hkec]
 refine op_store (nxl rfl) sz47 rfl rfl rfl (len8s hol) (all8 _) B2 (by rw [len8s hol];simp) sel1 (fun N2 B2=>?_)
 rw [setL_whole (by rw [len8s hol];simp)]at B2
 refine aB (aC (s_8 (At.ret ((At.sub (L':= [N2,R]) (.cons_cons _ (.cons _ (.cons_cons _ (.slnil)))) (At.ret1 (L1:= []) rfl (.cell rfl (res_agg (ds:=u8s (kec l)) ag47 B2 (all_take (len8s hol)) (len8s hol) mem0) .nil) (.cons _ (.refl _)) (.refl _) ?_))))))
 exact⟨rfl,rfl⟩
end Go.Proofs.Ytdpjbefeabokgaa
/- The reference's Keccak-256. Condition: at most 2^40 bytes. -/
namespace Go.Proofs.Ytdpjbefeabokgaa
open Go Go.RowKit
end Go.Proofs.Ytdpjbefeabokgaa
/- Plain law: a number of two limbs divided by one limb, as package math/bits reckons it. No condition. -/
namespace Go.Proofs.Ytdpjbefeabokgaa
/-- A guess of the quotient's digit, and what it leaves of the upper digits. -/
def DInv (R u1 y1 y0 q rh:Nat):Prop:=rh+q*y1=R∧rh*4294967296+u1<q*y0+y1*4294967296+y0∧q≤4294967297
end Go.Proofs.Ytdpjbefeabokgaa
/- Package math/bits: sums, differences, products, quotients of limbs. No condition but what Go asks. -/
namespace Go.Proofs.Ytdpjbefeabokgaa
open Go Go.RowKit
def sub64E:Array Value→Sem Value:=fun args=>do
 let (x,y,b)←Extern.MathBitsCarry.three "Sub64" args
 pure (Extern.MathBitsCarry.pair ((x+Extern.MathBitsCarry.m64- y- b) % Extern.MathBitsCarry.m64) (if x<y+b then 1 else 0))
end Go.Proofs.Ytdpjbefeabokgaa
/- math/bits.Div64: a number of two limbs by one limb. Condition: the upper limb is below the divisor. -/
namespace Go.Proofs.Ytdpjbefeabokgaa
open Go Go.RowKit
def DivP (hi lo y:UInt64) (v:Value) (L:List Heaplet):Prop:=
 ∃q r:UInt64,v=.tuple #[.int .u64 (q.toNat:Int),.int .u64 (r.toNat:Int)]∧L= []∧q.toNat=(hi.toNat*18446744073709551616+lo.toNat)/y.toNat∧r.toNat=(hi.toNat*18446744073709551616+lo.toNat) % y.toNat
end Go.Proofs.Ytdpjbefeabokgaa
/- math/bits.Div64: a number of two limbs by one limb. Condition: the upper limb is below the divisor. -/
namespace Go.Proofs.Ytdpjbefeabokgaa
open Go Go.RowKit
end Go.Proofs.Ytdpjbefeabokgaa
/- limb.Add, limb.Sub: sums and differences of numbers in limbs. Condition: numbers of at most 2^40 limbs; for Sub: the second is no greater. -/
namespace Go.Proofs.Ytdpjbefeabokgaa
open Go Go.RowKit
/-- Limbs in new memory: a number without zeros at its upper end. -/
def LimbsP (V:Nat) (v:Value) (L:List Heaplet):Prop:=
 ∃M a c,v=.slice a (limbsOf V).length c∧L= [M]∧RSl M 1 a (limbsOf V).length c (u64s (limbsOf V))
end Go.Proofs.Ytdpjbefeabokgaa
/- Plain laws: numbers in limbs compared, their bits, shifted. No condition. -/
namespace Go.Proofs.Ytdpjbefeabokgaa
/-- The order of two numbers. -/
def cmpN (a b:Nat):Int:=if a<b then-1 else if b<a then 1 else 0
/-! Shifts. -/
/-- The limbs of V shifted to the left, so many. -/
def shlN (L V s:Nat):List UInt64:=limbsN L (V*2^s)
/-- What stands when the places from i on are shifted. -/
def shSt (o:List UInt64) (L s i:Nat):List UInt64:=o.take i++(shlN L (v64 o) s).drop i
end Go.Proofs.Ytdpjbefeabokgaa
/- Plain laws: one step of the division of numbers in limbs, and the whole. No condition. -/
namespace Go.Proofs.Ytdpjbefeabokgaa
theorem getD_set_ne {α:Type} {l:List α} {i j:Nat} {y z:α} (h:i≠j):(l.set i y).getD j z=l.getD j z:=by
 rw [List.getD_eq_getElem?_getD,List.getD_eq_getElem?_getD,List.getElem?_set_ne h]
/-! The whole division. -/
end Go.Proofs.Ytdpjbefeabokgaa
/- limb.Mul, limb.Cmp, limb.Bit, limb.shifted. Condition: numbers of at most 2^40 limbs. -/
namespace Go.Proofs.Ytdpjbefeabokgaa
open Go Go.RowKit
end Go.Proofs.Ytdpjbefeabokgaa
/- limb.shifted, limb.step: the parts of a division of numbers in limbs. Condition: numbers of at most 2^40 limbs. -/
namespace Go.Proofs.Ytdpjbefeabokgaa
open Go Go.RowKit
end Go.Proofs.Ytdpjbefeabokgaa
/- limb.step: the upper limbs divided. Condition: at most 2^40 limbs; the quotient is one limb. -/
namespace Go.Proofs.Ytdpjbefeabokgaa
open Go Go.RowKit
def StepP (b:Nat) (e:TypeId) (pre u v post:List UInt64) (r:Value) (L:List Heaplet):Prop:=
 ∃M x, ∃q:UInt64,r=.int .u64 (q.toNat:Int)∧L= [M]∧Blk M b e (u64s (pre++x++post))∧x.length=u.length∧q.toNat=v64 u/v64 v∧v64 x=v64 u % v64 v
end Go.Proofs.Ytdpjbefeabokgaa
/- limb.DivMod: a number in limbs divided by one that is not 0. Condition: numbers of at most 2^40 limbs. -/
namespace Go.Proofs.Ytdpjbefeabokgaa
open Go Go.RowKit
theorem Row.blk {N:Heaplet} {e:TypeId} {ao:Option Addr} {n:Nat} {xs:List Value} (h:Row N e 1 ao n n xs) (h0:0<n): ∃b,ao=some ⟨b,0,none⟩∧Blk N b e xs:=by
 obtain⟨h1,h2,h3,h4⟩:=h
 rcases h4 with ⟨_,h5,_⟩|⟨b,cur,rfl,hN,hs,ht⟩
 ·omega
 ·refine⟨b,rfl,?_⟩
  have hl:cur.toList.length=n:=by simpa using hs
  rw [List.take_of_length_le (by omega)]at ht
  rw [Blk,hN, ←ht]
/-- Two numbers in limbs, in new memory. -/
def LimbsP2 (A B:Nat) (v:Value) (L:List Heaplet):Prop:=
 ∃M1 a1 c1 M2 a2 c2,v=.tuple #[.slice a1 (limbsOf A).length c1,.slice a2 (limbsOf B).length c2]∧L= [M1,M2]∧RSl M1 1 a1 (limbsOf A).length c1 (u64s (limbsOf A))∧RSl M2 1 a2 (limbsOf B).length c2 (u64s (limbsOf B))
end Go.Proofs.Ytdpjbefeabokgaa
/- Plain laws: words. No condition. -/
namespace Go.Proofs.Ytdpjbefeabokgaa
open Go Go.RowKit
/-- How many words there are. -/
def WW:Nat:=2^256
/-- The word of a number modulo 2^256, as limbs and as a value. -/
def wl (x:Nat):List UInt64:=limbsN 4 x
def wo (x:Nat):Value:=.agg (u64s (wl x)).toArray
@[simp] theorem length_wl (x:Nat):(wl x).length=4:=rfl
theorem v64_wl (x:Nat):v64 (wl x)=x % WW:=v64_limbsN 4 x
end Go.Proofs.Ytdpjbefeabokgaa
/- Package word: Of, Small, sums, differences, products. No condition. -/
namespace Go.Proofs.Ytdpjbefeabokgaa
open Go Go.RowKit
end Go.Proofs.Ytdpjbefeabokgaa
/- The engine, words compared. For whatever program. No condition. -/
namespace Go.Proofs.Ytdpjbefeabokgaa
open Go Go.RowKit
section
variable {P : Program}
variable {n : Nat} {l : List (Nat × Value)} {E : World} {L Ls : List Heaplet} {X Y : Act → World → Prop} {d : Nat} {t t' ty e : TypeId} {x y : Operand}
end
end Go.Proofs.Ytdpjbefeabokgaa
