/- Several texts in one: see the remarks ahead of each part. No condition but those told there. -/
import Derived.Test.YtljacjjeinmfnaaU8
import Derived.Test.YtljacjjeinmfnaaU7
import Derived.Test.YtljacjjeinmfnaaU6
import Derived.Test.YtljacjjeinmfnaaU4
import Derived.Test.YtljacjjeinmfnaaU5
import Derived.Stop.BytesEq
set_option linter.unusedSimpArgs false
set_option linter.unusedVariables false
/- The reference's Keccak-256. Condition: at most 2^40 bytes. -/
namespace Go.Proofs.Ytljacjjeinmfnaa
open Go Go.RowKit
end Go.Proofs.Ytljacjjeinmfnaa
/- Plain law: a number of two limbs divided by one limb, as package math/bits reckons it. No condition. -/
namespace Go.Proofs.Ytljacjjeinmfnaa
/-- A guess of the quotient's digit, and what it leaves of the upper digits. -/
def DInv (R u1 y1 y0 q rh:Nat):Prop:=rh+q*y1=R∧rh*4294967296+u1<q*y0+y1*4294967296+y0∧q≤4294967297
end Go.Proofs.Ytljacjjeinmfnaa
/- Package math/bits: sums, differences, products, quotients of limbs. No condition but what Go asks. -/
namespace Go.Proofs.Ytljacjjeinmfnaa
open Go Go.RowKit
theorem run_add64' {P:Program} (x y c:UInt64) (hc:c.toNat≤1) (w:World):(add64Entry #[.int .u64 (x.toNat:Int),.int .u64 (y.toNat:Int),.int .u64 (c.toNat:Int)]).run P w=.ok (.tuple #[.int .u64 ((addS x y c).toNat:Int),.int .u64 ((addC x y c).toNat:Int)]) w:=by
 rw [run_add64 _ _ _ (by omega) (by omega) (by omega) (by omega),addS_nat,addC_nat _ _ _ hc]
 congr 5
theorem Add64_x (x y c:UInt64) (hc:c.toNat≤1) (w:World):(callFunc 139 #[.int .u64 (x.toNat:Int),.int .u64 (y.toNat:Int),.int .u64 (c.toNat:Int)]).run Try.prog w=.ok (.value (.tuple #[.int .u64 ((addS x y c).toNat:Int),.int .u64 ((addC x y c).toNat:Int)])) w:=by
 rw [run_callFunc_extern Try.func139 (by kernel_rfl) (by kernel_rfl) (by kernel_rfl) (e:=add64Entry) (by kernel_rfl),run_add64' x y c hc]
 rfl
def sub64E:Array Value→Sem Value:=fun args=>do
 let (x,y,b)←Extern.MathBitsCarry.three "Sub64" args
 pure (Extern.MathBitsCarry.pair ((x+Extern.MathBitsCarry.m64- y- b) % Extern.MathBitsCarry.m64) (if x<y+b then 1 else 0))
theorem run_sub64' {P:Program} (x y b:Nat) (hb:b≤1) (w:World):(sub64E #[.int .u64 x,.int .u64 y,.int .u64 b]).run P w=
 .ok (.tuple #[.int .u64 (((x+18446744073709551616- y- b) % 18446744073709551616:Nat):Int),.int .u64 ((if x<y+b then 1 else 0:Nat):Int)]) w:=by
 have:b=0∨b=1:=by omega
 rcases this with rfl|rfl<;>rfl
theorem Sub64_x (x y c:UInt64) (hc:c.toNat≤1) (w:World):(callFunc 143 #[.int .u64 (x.toNat:Int),.int .u64 (y.toNat:Int),.int .u64 (c.toNat:Int)]).run Try.prog w=.ok (.value (.tuple #[.int .u64 ((subS x y c).toNat:Int),.int .u64 ((subC x y c).toNat:Int)])) w:=by
 rw [run_callFunc_extern Try.func143 (by kernel_rfl) (by kernel_rfl) (by kernel_rfl) (e:=sub64E) (by kernel_rfl),run_sub64' _ _ _ hc,subS_nat,subC_nat]
 rfl
theorem Mul64_f (x y:UInt64):Fn Try.prog 140 #[.int .u64 (x.toNat:Int),.int .u64 (y.toNat:Int)] [] [] (fun v L=>v=.tuple #[.int .u64 ((mulH x y).toNat:Int),.int .u64 ((x*y).toNat:Int)]∧L= []):=by
 refine Fn.enter (vs:= [.int .u64 (x.toNat:Int),.int .u64 (y.toNat:Int)]) Try.func140 rfl rfl rfl ?_
 intro E R hR
 change At _ _ E [R] _
 refine At.seq fun _ s_1=>At.region (aE (aC rfl) rfl rfl (aE (aC rfl) rfl rfl (aA (aB (s_1 (At.seq fun _ s_2=>At.region (aD (aC rfl) rfl rfl (op_andU (b:=4294967295) (aC rfl) rfl rfl rfl (aE (aC rfl) rfl rfl (aA (aB (s_2 (At.seq fun _ s_3=>At.region (aD (aC rfl) rfl rfl (op_shrU (aC rfl) rfl rfl (show _=((32:Nat):Int)from rfl) rfl (aE (aC rfl) rfl rfl (aA (aB (s_3 (At.seq fun _ s_4=>?_))))))))))))))))))))
 refine At.region (aD (aC rfl) rfl rfl (op_andU (b:=4294967295) (aC rfl) rfl rfl rfl (aE (aC rfl) rfl rfl (aA (aB (s_4 (At.seq fun _ s_5=>At.region (aD (aC rfl) rfl rfl (op_shrU (aC rfl) rfl rfl (show _=((32:Nat):Int)from rfl) rfl (aE (aC rfl) rfl rfl (aA (aB (s_5 (At.seq fun _ s_6=>At.region (aD (aC rfl) rfl rfl (aD (aC rfl) rfl rfl (op_mulU (aC rfl) rfl rfl rfl (aE (aC rfl) rfl rfl (aA (aB (s_6 ?_)))))))))))))))))))))
 refine At.seq fun _ s_7=>At.region (aD (aC rfl) rfl rfl (aD (aC rfl) rfl rfl (op_mulU (aC rfl) rfl rfl rfl (aD (aC rfl) rfl rfl (op_shrU (aC rfl) rfl rfl (show _=((32:Nat):Int)from rfl) rfl (op_addU (aC rfl) rfl rfl rfl (aE (aC rfl) rfl rfl (aA (aB (s_7 (At.seq fun _ s_8=>At.region (aD (aC rfl) rfl rfl (op_andU (b:=4294967295) (aC rfl) rfl rfl rfl (aE (aC rfl) rfl rfl (aA (aB (s_8 (At.seq fun _ s_9=>At.region (aD (aC rfl) rfl rfl ?_)))))))))))))))))))
 refine op_shrU (aC rfl) rfl rfl (show _=((32:Nat):Int)from rfl) rfl (aE (aC rfl) rfl rfl (aA (aB (s_9 (At.seq fun _ s_10=>At.region (aD (aC rfl) rfl rfl (aD (aC rfl) rfl rfl (aD (aC rfl) rfl rfl (op_mulU (aC rfl) rfl rfl rfl (op_addU (aC rfl) rfl rfl rfl (aE (aC rfl) rfl rfl (aA (aB (s_10 (At.seq fun _ s_11=>At.region (aD (aC rfl) rfl rfl (aD (aC rfl) rfl rfl (op_mulU (aC rfl) rfl rfl rfl (aD (aC rfl) rfl rfl (op_addU (aC rfl) rfl rfl rfl ?_))))))))))))))))))))
 refine aD (aC rfl) rfl rfl (op_shrU (aC rfl) rfl rfl (show _=((32:Nat):Int)from rfl) rfl (op_addU (aC rfl) rfl rfl rfl (aE (aC rfl) rfl rfl (aA (aB (s_11 (At.seq fun _ s_12=>At.region (aD (aC rfl) rfl rfl (aD (aC rfl) rfl rfl (op_mulU (aC rfl) rfl rfl rfl (aE (aC rfl) rfl rfl (aA (aB (s_12 (At.ret ((bF (L1:= []) rfl (.tmp rfl (.tmp rfl .nil)) rfl (.refl _) (.refl _) ?_)))))))))))))))))
 exact⟨by rw [←mulH_eq],rfl⟩
end Go.Proofs.Ytljacjjeinmfnaa
/- math/bits.Div64: a number of two limbs by one limb. Condition: the upper limb is below the divisor. -/
namespace Go.Proofs.Ytljacjjeinmfnaa
open Go Go.RowKit
def DivP (hi lo y:UInt64) (v:Value) (L:List Heaplet):Prop:=
 ∃q r:UInt64,v=.tuple #[.int .u64 (q.toNat:Int),.int .u64 (r.toNat:Int)]∧L= []∧q.toNat=(hi.toNat*18446744073709551616+lo.toNat)/y.toNat∧r.toNat=(hi.toNat*18446744073709551616+lo.toNat) % y.toNat
end Go.Proofs.Ytljacjjeinmfnaa
/- math/bits.Div64: a number of two limbs by one limb. Condition: the upper limb is below the divisor. -/
namespace Go.Proofs.Ytljacjjeinmfnaa
open Go Go.RowKit
end Go.Proofs.Ytljacjjeinmfnaa
/- limb.Add, limb.Sub: sums and differences of numbers in limbs. Condition: numbers of at most 2^40 limbs; for Sub: the second is no greater. -/
namespace Go.Proofs.Ytljacjjeinmfnaa
open Go Go.RowKit
/-- Limbs in new memory: a number without zeros at its upper end. -/
def LimbsP (V:Nat) (v:Value) (L:List Heaplet):Prop:=
 ∃M a c,v=.slice a (limbsOf V).length c∧L= [M]∧RSl M 1 a (limbsOf V).length c (u64s (limbsOf V))
theorem getD_big {α:Type} {l:List α} {k:Nat} {z:α} (h:l.length≤k):l.getD k z=z:=by
 rw [List.getD_eq_getElem?_getD,List.getElem?_eq_none h];rfl
theorem set_rep {α:Type} {w:List α} {j m:Nat} {z y:α} (hw:w.length=j) (h:0<m):(w++List.replicate m z).set j y=(w++ [y])++List.replicate (m- 1) z:=by
 obtain⟨k,rfl⟩: ∃k,m=k+1:=⟨m- 1,by omega⟩
 rw [List.replicate_succ,set_mid hw];rfl
theorem getD_app {α:Type} {p r:List α} {j:Nat} {z:α} (h:j<p.length):(p++r).getD j z=p.getD j z:=by
 rw [List.getD_eq_getElem?_getD,List.getD_eq_getElem?_getD,List.getElem?_append_left h]
end Go.Proofs.Ytljacjjeinmfnaa
/- Plain laws: numbers in limbs compared, their bits, shifted. No condition. -/
namespace Go.Proofs.Ytljacjjeinmfnaa
/-- The order of two numbers. -/
def cmpN (a b:Nat):Int:=if a<b then-1 else if b<a then 1 else 0
theorem cmpN_lt {a b:Nat} (h:a<b):cmpN a b= -1:=by rw [cmpN,if_pos h]
theorem cmpN_gt {a b:Nat} (h:b<a):cmpN a b=1:=by rw [cmpN,if_neg (by omega),if_pos h]
theorem cmpN_eq (a:Nat):cmpN a a=0:=by rw [cmpN,if_neg (Nat.lt_irrefl _),if_neg (Nat.lt_irrefl _)]
theorem v64_split {l:List UInt64} {j:Nat} (h:j<l.length):v64 l=v64 (l.take j)+2^(64*j)*((l.getD j 0).toNat+18446744073709551616*v64 (l.drop (j+1))):=by
 have e:l=l.take (j+1)++l.drop (j+1):=(List.take_append_drop _ _).symm
 conv=>lhs;rw [e]
 rw [v64_append,List.length_take,Nat.min_eq_left (by omega),v64_take_succD,pow64,Nat.mul_add,Nat.mul_assoc,Nat.add_assoc]
theorem cmp_at {x y:List UInt64} {j:Nat} (hl:x.length=y.length) (hj:j<x.length) (hd:x.drop (j+1)=y.drop (j+1)) (hlt:(x.getD j 0).toNat<(y.getD j 0).toNat):v64 x<v64 y:=by
 rw [v64_split hj,v64_split (l:=y) (j:=j) (by omega),hd]
 have h1:=v64_take_lt x j
 have h2:=Nat.mul_le_mul_left (2^(64*j)) (show(x.getD j 0).toNat+18446744073709551616*v64 (y.drop (j+1))+1≤(y.getD j 0).toNat+18446744073709551616*v64 (y.drop (j+1)) by omega)
 rw [Nat.mul_add _ _ 1,Nat.mul_one]at h2
 omega
theorem drop_eq_succ {α:Type} {x y:List α} {j:Nat} {z:α} (hx:j<x.length) (hy:j<y.length) (he:x.getD j z=y.getD j z) (hd:x.drop (j+1)=y.drop (j+1)):x.drop j=y.drop j:=by
 rw [List.drop_eq_getElem_cons hx,List.drop_eq_getElem_cons hy,hd]
 rw [List.getD_eq_getElem?_getD,List.getD_eq_getElem?_getD,List.getElem?_eq_getElem hx,List.getElem?_eq_getElem hy]at he
 simp only [Option.getD_some]at he
 rw [he]
theorem limb_at (l:List UInt64) (i:Nat):v64 l/2^(64*i) % 2^64=(l.getD i 0).toNat:=by
 rcases Nat.lt_or_ge i l.length with h|h
 ·rw [limb_v64 h,List.getD_eq_getElem?_getD,List.getElem?_eq_getElem h];rfl
 ·rw [getD_big h,Nat.div_eq_of_lt (Nat.lt_of_lt_of_le (v64_lt l) (Nat.pow_le_pow_right (by decide) (by omega)))];rfl
/-! Shifts. -/
/-- The limbs of V shifted to the left, so many. -/
def shlN (L V s:Nat):List UInt64:=limbsN L (V*2^s)
theorem getD_limbsN {L V i:Nat} (h:i<L):(limbsN L V).getD i 0=UInt64.ofNat (V/2^(64*i)):=by
 rw [List.getD_eq_getElem?_getD,List.getElem?_eq_getElem (by simp [limbsN];exact h)]
 simp [limbsN]
theorem mid_at {l:List UInt64} {i r:Nat} (hr:r≤64):v64 l/2^(64*i+r) % 2^64=(shr64 (l.getD i 0) r |||shl64 (l.getD (i+1) 0) (64- r)).toNat:=by
 rw [Nat.pow_add, ←Nat.div_div_eq_div_mul]
 have e:v64 l/2^(64*i)=(l.getD i 0).toNat+2^64*(v64 l/2^(64*(i+1))):=by
  rw [←limb_at,pow64, ←Nat.div_div_eq_div_mul]
  exact(Nat.mod_add_div _ _).symm
 rw [e,limb_mid hr (limb_at l (i+1))]
/-- What stands when the places from i on are shifted. -/
def shSt (o:List UInt64) (L s i:Nat):List UInt64:=o.take i++(shlN L (v64 o) s).drop i
end Go.Proofs.Ytljacjjeinmfnaa
/- Plain laws: one step of the division of numbers in limbs, and the whole. No condition. -/
namespace Go.Proofs.Ytljacjjeinmfnaa
theorem getD_set_ne {α:Type} {l:List α} {i j:Nat} {y z:α} (h:i≠j):(l.set i y).getD j z=l.getD j z:=by
 rw [List.getD_eq_getElem?_getD,List.getD_eq_getElem?_getD,List.getElem?_set_ne h]
theorem set_drop {α:Type} {w u:List α} {k:Nat} {d:α} (hw:w.length=k) (hk:k<u.length):(w++u.drop k).set k d=(w++ [d])++u.drop (k+1):=by
 rw [List.drop_eq_getElem_cons hk,set_mid hw]
theorem getD_drop {α:Type} {w u:List α} {k:Nat} {z:α} (hw:w.length=k) (hk:k<u.length):(w++u.drop k).getD k z=u.getD k z:=by
 rw [List.drop_eq_getElem_cons hk,getD_mid hw,List.getD_eq_getElem?_getD,List.getElem?_eq_getElem hk];rfl
/-! The whole division. -/
theorem v64_take_drop (G:List UInt64) {k:Nat} (h:k≤G.length):v64 G=v64 (G.take k)+2^(64*k)*v64 (G.drop k):=by
 conv=>lhs;rw [←List.take_append_drop k G]
 rw [v64_append,List.length_take,Nat.min_eq_left h]
end Go.Proofs.Ytljacjjeinmfnaa
/- limb.Mul, limb.Cmp, limb.Bit, limb.shifted. Condition: numbers of at most 2^40 limbs. -/
namespace Go.Proofs.Ytljacjjeinmfnaa
open Go Go.RowKit
end Go.Proofs.Ytljacjjeinmfnaa
/- limb.shifted, limb.step: the parts of a division of numbers in limbs. Condition: numbers of at most 2^40 limbs. -/
namespace Go.Proofs.Ytljacjjeinmfnaa
open Go Go.RowKit
end Go.Proofs.Ytljacjjeinmfnaa
/- limb.step: the upper limbs divided. Condition: at most 2^40 limbs; the quotient is one limb. -/
namespace Go.Proofs.Ytljacjjeinmfnaa
open Go Go.RowKit
def StepP (b:Nat) (e:TypeId) (pre u v post:List UInt64) (r:Value) (L:List Heaplet):Prop:=
 ∃M x, ∃q:UInt64,r=.int .u64 (q.toNat:Int)∧L= [M]∧Blk M b e (u64s (pre++x++post))∧x.length=u.length∧q.toNat=v64 u/v64 v∧v64 x=v64 u % v64 v
end Go.Proofs.Ytljacjjeinmfnaa
/- limb.DivMod: a number in limbs divided by one that is not 0. Condition: numbers of at most 2^40 limbs. -/
namespace Go.Proofs.Ytljacjjeinmfnaa
open Go Go.RowKit
/-- Two numbers in limbs, in new memory. -/
def LimbsP2 (A B:Nat) (v:Value) (L:List Heaplet):Prop:=
 ∃M1 a1 c1 M2 a2 c2,v=.tuple #[.slice a1 (limbsOf A).length c1,.slice a2 (limbsOf B).length c2]∧L= [M1,M2]∧RSl M1 1 a1 (limbsOf A).length c1 (u64s (limbsOf A))∧RSl M2 1 a2 (limbsOf B).length c2 (u64s (limbsOf B))
end Go.Proofs.Ytljacjjeinmfnaa
/- Plain laws: words. No condition. -/
namespace Go.Proofs.Ytljacjjeinmfnaa
open Go Go.RowKit
/-- How many words there are. -/
def WW:Nat:=2^256
theorem WW_eq:WW=2^(64*4):=rfl
theorem WW_pos:0<WW:=Nat.pow_pos (by decide)
/-- The word of a number modulo 2^256, as limbs and as a value. -/
def wl (x:Nat):List UInt64:=limbsN 4 x
def wo (x:Nat):Value:=.agg (u64s (wl x)).toArray
@[simp] theorem length_wl (x:Nat):(wl x).length=4:=rfl
theorem v64_wl (x:Nat):v64 (wl x)=x % WW:=v64_limbsN 4 x
theorem v64_wl_lt {x:Nat} (h:x<WW):v64 (wl x)=x:=by rw [v64_wl,Nat.mod_eq_of_lt h]
theorem v64_lt4 {w:List UInt64} (h:w.length=4):v64 w<WW:=by have:=v64_lt w;rwa [h]at this
theorem wl_of {w:List UInt64} {N:Nat} (hw:w.length=4) (h:v64 w=N % WW):w=wl N:=eq_words4 hw rfl (h.trans (v64_wl N).symm)
theorem wl_self {w:List UInt64} (hw:w.length=4):w=wl (v64 w):=wl_of hw (Nat.mod_eq_of_lt (v64_lt4 hw)).symm
theorem wl_mod (x:Nat):wl (x % WW)=wl x:=wl_of (w:=wl (x % WW)) rfl (by rw [v64_wl,Nat.mod_mod])
theorem wl_inj {x y:Nat} (hx:x<WW) (hy:y<WW) (h:wl x=wl y):x=y:=by
 have:=congrArg v64 h
 rwa [v64_wl_lt hx,v64_wl_lt hy]at this
theorem wl_congr {x y:Nat} (h:x % WW=y % WW):wl x=wl y:=by rw [←wl_mod x,h,wl_mod]
theorem wo_mod (x:Nat):wo (x % WW)=wo x:=by rw [wo,wl_mod];rfl
theorem wo_congr {x y:Nat} (h:x % WW=y % WW):wo x=wo y:=by rw [wo,wl_congr h];rfl
theorem wo_list {w:List UInt64} (hw:w.length=4):Value.agg (u64s w).toArray=wo (v64 w):=by rw [wo, ←wl_self hw]
theorem wl_small (n:UInt64):wl n.toNat= [n,0,0,0]:=by
 have h:=n.toNat_lt
 refine(wl_of rfl ?_).symm
 have e:v64 [n,0,0,0]=n.toNat:=by simp [v64,n64,val]
 rw [e]
 exact(Nat.mod_eq_of_lt (Nat.lt_trans h (Nat.pow_lt_pow_right (by decide) (by decide)))).symm
theorem wo_small (n:UInt64):wo n.toNat=.agg #[.int .u64 (n.toNat:Int),.int .u64 0,.int .u64 0,.int .u64 0]:=by rw [wo,wl_small];rfl
/-- The limbs behind the first are naught just for small numbers. -/
theorem small_iff {x:Nat} (hx:x<WW):(wl x).getD 1 0 |||(wl x).getD 2 0 |||(wl x).getD 3 0=0↔x<2^64:=by
 have hv:=v64_wl_lt hx
 obtain⟨a,b,c,d,h⟩:=four (length_wl x)
 rw [h]at hv⊢
 have e:v64 [a,b,c,d]=a.toNat+18446744073709551616*(b.toNat+18446744073709551616*(c.toNat+18446744073709551616*d.toNat)):=by simp [v64,n64,val]
 rw [e]at hv
 have ha:=a.toNat_lt
 show b |||c |||d=0↔x<2^64
 constructor
 ·intro h0
  have h1:=congrArg UInt64.toNat h0
  rw [UInt64.toNat_or,UInt64.toNat_or]at h1
  have h2:(b.toNat |||c.toNat)=0∧d.toNat=0:=Nat.or_eq_zero_iff.1 h1
  have h3:b.toNat=0∧c.toNat=0:=Nat.or_eq_zero_iff.1 h2.1
  rw [h2.2,h3.1,h3.2]at hv
  omega
 ·intro h0
  have h1:b.toNat=0∧c.toNat=0∧d.toNat=0:=by omega
  apply UInt64.toNat_inj.1
  rw [UInt64.toNat_or,UInt64.toNat_or,h1.1,h1.2.1,h1.2.2];rfl
theorem small_val {x:Nat} (h:x<2^64):((wl x).getD 0 0).toNat=x:=by
 have e:wl x= [UInt64.ofNat x,0,0,0]:=by
  have:=wl_small (UInt64.ofNat x)
  rwa [UInt64.toNat_ofNat',Nat.mod_eq_of_lt h]at this
 rw [e]
 show(UInt64.ofNat x).toNat=x
 rw [UInt64.toNat_ofNat',Nat.mod_eq_of_lt h]
end Go.Proofs.Ytljacjjeinmfnaa
/- Package word: Of, Small, sums, differences, products. No condition. -/
namespace Go.Proofs.Ytljacjjeinmfnaa
open Go Go.RowKit
theorem arr_part {N:Heaplet} {b lo hi c:Nat} {e:TypeId} {L:List UInt64} (h:Blk N b e (u64s L)) (hl:lo≤hi) (hh:hi≤L.length) (hc:hi- lo≤c) (hm:c≤9223372036854775807):RSl N 1 (some ⟨b,0+lo*1,none⟩) (hi- lo) c (u64s ((L.drop lo).take (hi- lo))):=by
 refine⟨by simp [u64s];omega,hc,hm,fun h0=>⟨b,lo,by rw [Nat.zero_add,Nat.mul_one],?_⟩⟩
 have e:=h.rng.sub (o:=lo) (ds:=u64s ((L.drop lo).take (hi- lo))) fun i hi'=>by
  rw [List.getElem?_eq_getElem (by simp [u64s]at hi'⊢;omega)]
  simp [u64s]
 rwa [Nat.zero_add]at e
theorem copy_all {zs:List Value} {l:List UInt64} {o k:Nat} (ho:o=0) (hl:l.length≤k) (hz:zs.length≤k):zs.take o++(u64s l).take k++zs.drop (o+k)=u64s l:=by
 subst ho
 rw [List.take_zero,List.nil_append,List.take_of_length_le (by simpa using hl),List.drop_of_length_le (by omega),List.append_nil]
theorem WOf_f (n:UInt64):Fn Try.prog 87 #[.int .u64 (n.toNat:Int)] [] [] (fun v L=>v=wo n.toNat∧L= []):=by
 refine Fn.enter (vs:= [.int .u64 (n.toNat:Int)]) Try.func87 rfl rfl rfl ?_
 intro E R hR
 change At _ _ E [R] _
 refine At.seq fun _ s_1=>At.region (aU (aV rfl) ze26 rfl (fun N2 b2 B2=>?_))
 change Blk N2 b2 _ [.int .u64 0,.int .u64 0,.int .u64 0,.int .u64 0]at B2
 refine aA (aB (s_1 (At.seq fun _ s_2=>At.region (aD (aC rfl) rfl rfl (op_buildA (out:= [_,.int .u64 0,.int .u64 0,.int .u64 0]) (aC rfl) ze26 ae26 (.cons rfl .nil) rfl rfl (aG (nxl rfl) sz26 rfl rfl rfl rfl rfl B2 (by simp) sel0 (fun N2 B2=>?_)))))))
 simp only [setL,List.set]at B2
 refine aA (aB (s_2 (At.ret ((aZ (L1:= []) rfl (.cell rfl (bH (ds:= [_,_,_,_]) ag26 B2 rfl rfl aN) .nil) (.cons _ (.refl _)) (.refl _) ?_)))))
 exact⟨(wo_small n).symm,rfl⟩
theorem WSmall_no {x:Nat} (hx:x<WW) (h: ¬x<2^64):Fn Try.prog 113 #[wo x] [] [] (fun v L=>v=.tuple #[.int .u64 0,.bool false]∧L= []):=by
 have hl:=length_wl x
 have hs:=small_iff hx
 refine Fn.enter (vs:= [wo x]) Try.func113 rfl rfl rfl ?_
 intro E R hR
 change At _ _ E [R] _
 refine At.seq fun _ s_1=>At.region (op_box (aV rfl) rfl rfl rfl (fun N1 b1 B1=>?_))
 change Blk N1 b1 _ (u64s (wl x))at B1
 refine aE (aC rfl) rfl rfl (aE (aC rfl) rfl rfl (aA (aB (s_1 (At.seq fun _ s_2=>At.seq fun _ s_3=>At.region (bY (aC rfl) ae26 rfl rfl (show _=((1:Nat):Int)from rfl) (by omega) rfl (aH (aC rfl) sc24 rfl B1 (by first|exact get64A (by omega)|rfl) aN rfl ?_)))))))
 refine bY (aC rfl) ae26 rfl rfl (show _=((2:Nat):Int)from rfl) (by omega) rfl (aH (aC rfl) sc24 rfl B1 (by first|exact get64A (by omega)|rfl) aN rfl ?_)
 refine op_orU (aC rfl) rfl rfl rfl (bY (aC rfl) ae26 rfl rfl (show _=((3:Nat):Int)from rfl) (by omega) rfl (aH (aC rfl) sc24 rfl B1 (by first|exact get64A (by omega)|rfl) aN rfl ?_))
 refine op_orU (aC rfl) rfl rfl rfl (op_neq (aC rfl) rfl rfl rfl (aA (aB (s_3 (aP rfl (fun c12=>?_) (fun c12=>?_))))))
 rotate_left
 ·exact absurd (hs.1 (by apply UInt64.toNat_inj.1;show _=0;omega)) h
 refine At.seq fun _ s_4=>At.region (aE (aC rfl) rfl rfl (aE (aC rfl) rfl rfl (aA (aB (s_4 (At.ret (aT ((At.sub (L':= [R]) (.cons _ (.cons_cons _ (.slnil))) (bF (L1:= []) rfl (.tmp rfl (.tmp rfl .nil)) rfl (.refl _) (.refl _) ?_))))))))))
 exact⟨rfl,rfl⟩
theorem WSmall_f {x:Nat} (hx:x<WW) (h:x<2^64):Fn Try.prog 113 #[wo x] [] [] (fun v L=>v=.tuple #[.int .u64 (x:Int),.bool true]∧L= []):=by
 have hl:=length_wl x
 have hs:=(small_iff hx).2 h
 have hv:=small_val h
 refine Fn.enter (vs:= [wo x]) Try.func113 rfl rfl rfl ?_
 intro E R hR
 change At _ _ E [R] _
 refine At.seq fun _ s_1=>At.region (op_box (aV rfl) rfl rfl rfl (fun N1 b1 B1=>?_))
 change Blk N1 b1 _ (u64s (wl x))at B1
 refine aE (aC rfl) rfl rfl (aE (aC rfl) rfl rfl (aA (aB (s_1 (At.seq fun _ s_2=>At.seq fun _ s_3=>At.region (bY (aC rfl) ae26 rfl rfl (show _=((1:Nat):Int)from rfl) (by omega) rfl (aH (aC rfl) sc24 rfl B1 (by first|exact get64A (by omega)|rfl) aN rfl ?_)))))))
 refine bY (aC rfl) ae26 rfl rfl (show _=((2:Nat):Int)from rfl) (by omega) rfl (aH (aC rfl) sc24 rfl B1 (by first|exact get64A (by omega)|rfl) aN rfl ?_)
 refine op_orU (aC rfl) rfl rfl rfl (bY (aC rfl) ae26 rfl rfl (show _=((3:Nat):Int)from rfl) (by omega) rfl (aH (aC rfl) sc24 rfl B1 (by first|exact get64A (by omega)|rfl) aN rfl ?_))
 refine op_orU (aC rfl) rfl rfl rfl (op_neq (aC rfl) rfl rfl rfl (aA (aB (s_3 (aP rfl (fun c12=>?_) (fun c12=>?_))))))
 ·exfalso;apply c12;rw [hs];rfl
 refine At.skip (aB (s_2 (At.seq fun _ s_4=>At.region (bY (aC rfl) ae26 rfl rfl (show _=((0:Nat):Int)from rfl) (by omega) rfl (aH (aC rfl) sc24 rfl B1 (by first|exact get64A (by omega)|rfl) aN rfl ?_)))))
 rw [hv]
 refine aE (aC rfl) rfl rfl (aE (aC rfl) rfl rfl (aA (aB (s_4 (At.ret ((At.sub (L':= [R]) (.cons _ (.cons_cons _ (.slnil))) (bF (L1:= []) rfl (.tmp rfl (.tmp rfl .nil)) rfl (.refl _) (.refl _) ?_))))))))
 exact⟨rfl,rfl⟩
set_option maxRecDepth 100000 in
theorem added_f {x y:Nat} (hx:x<WW) (hy:y<WW):Fn Try.prog 122 #[wo x,wo y] [] [] (fun v L=> ∃c:UInt64,v=.tuple #[wo (x+y),.int .u64 (c.toNat:Int)]∧L= []∧(x+y) % WW+c.toNat*WW=x+y):=by
 have hlx:=length_wl x
 have hly:=length_wl y
 have hvx:=v64_wl_lt hx
 have hvy:=v64_wl_lt hy
 refine Fn.enter (vs:= [wo x,wo y]) Try.func122 rfl rfl rfl ?_
 intro E R hR
 change At _ _ E [R] _
 refine At.seq fun _ s_1=>At.region (op_box (aV rfl) rfl rfl rfl (fun N2 b2 B2=>?_))
 change Blk N2 b2 _ (u64s (wl x))at B2
 refine op_box (aV rfl) rfl rfl rfl (fun N3 b3 B3=>?_)
 change Blk N3 b3 _ (u64s (wl y))at B3
 refine aU (aV rfl) ze26 rfl (fun N4 b4 B4=>?_)
 change Blk N4 b4 _ [.int .u64 0,.int .u64 0,.int .u64 0,.int .u64 0]at B4
 refine aE (aC rfl) rfl rfl (aA (aB (s_1 (At.seq fun _ s_2=>At.region (aE (aC rfl) rfl rfl (aA (aB (s_2 (At.seq fun _ s_3=>At.seq fun _ s_4=>At.region (aD (aC rfl) rfl rfl (aA (aB (s_4 (At.block (At.perm aW (At.perm bZ (At.perm aX (At.perm aW ?_))))))))))))))))))
 refine At.loop (fun fr_ hp_ ms_=> ∃(k:Nat) (c:UInt64) (w:List UInt64) (N2:Heaplet),fr_= [(2,.pointer (some ⟨b2,0,none⟩)),(3,.pointer (some ⟨b3,0,none⟩)),(4,.pointer (some ⟨b4,0,none⟩)),(6,.int .u64 (c.toNat:Int)),(8,.int .i64 (k:Int))]∧hp_= [N2,N3,N4,R]∧4- k=ms_∧(k≤4)∧(w.length=k)∧(c.toNat≤1)∧(v64 w+c.toNat*2^(64*k)=v64 ((wl x).take k)+v64 ((wl y).take k))∧(Blk N2 b2 26 (u64s (w++(wl x).drop k)))) ?_ (.refl _) ⟨0,0,[],N2,rfl,rfl,rfl,by omega,rfl,by decide,by simp;rfl,by simpa using B2⟩ ?_
 ·exact .cons (by first|exact bE rfl (by omega)|rfl) (.cons (by first|exact bE rfl (by omega)|rfl) (.cons (by first|exact bE rfl (by omega)|rfl) (.cons (by first|exact bE rfl (by omega)|rfl) (.cons (by first|exact bE rfl (by omega)|rfl) .nil))))
 rintro _ _ _ ⟨k,c,w,N2,rfl,rfl,rfl,hk,hw,hc,hv,B2⟩
 have hwl:(w++(wl x).drop k).length=4:=by rw [List.length_append,List.length_drop];omega
 refine At.seq fun _ s_5=>At.region (op_lss (aC rfl) rfl rfl rfl (aA (aB (s_5 (At.seq fun _ s_6=>aP rfl (fun c9=>?_) (fun c9=>?_))))))
 ·refine At.skip (aB (s_6 (At.seq fun _ s_7=>At.block (At.seq fun _ s_8=>At.region (aD (aC rfl) rfl rfl (aE (aC rfl) rfl rfl (aA (aB (s_8 (At.perm aW (At.perm aX (At.perm aX (At.perm aW (At.drawnS [N2,N3,R] [8,13] [0,11] [0,1,2,3,4,5,6,7,8,9,10,11,12,13,14] (by kernel_rfl) (by kernel_rfl) (.cons _ (.refl _)) (aD (bK rfl rfl rfl) rfl rfl (aD (bK rfl rfl rfl) rfl rfl (bY (bK rfl rfl rfl) ae26 rfl rfl (show _=(((k:Nat)):Int)from by omega) (by omega) rfl ?_)))))))))))))))))
  refine aH (bK rfl rfl rfl) sc24 rfl B2 (by first|exact get64A (by omega)|rfl) aN rfl ?_
  rw [getD_drop hw (show k<(wl x).length by omega)]
  refine aD (bK rfl rfl rfl) rfl rfl (bY (bK rfl rfl rfl) ae26 rfl rfl (show _=(((k:Nat)):Int)from by omega) (by omega) rfl ?_)
  refine aH (bK rfl rfl rfl) sc24 rfl B3 (by first|exact get64A (by omega)|rfl) bC rfl ?_
  refine aD (bK rfl rfl rfl) rfl rfl (op_ext (Nx.agree (nxss rfl rfl rfl rfl)) (.cons rfl (.cons rfl (.cons rfl .nil))) (Add64_x ((wl x).getD k 0) ((wl y).getD k 0) c hc) rfl (At.anyS (.refl _) (aD (bK rfl rfl rfl) rfl rfl (aM (bK rfl rfl rfl) rfl rfl rfl (aM (bK rfl rfl rfl) rfl rfl rfl (bY (bK rfl rfl rfl) ae26 rfl rfl (show _=(((k:Nat)):Int)from by omega) (by omega) rfl ?_))))))
  refine aG (nxss rfl rfl rfl rfl) sz24 rfl rfl rfl rfl rfl B2 (by simp<;>omega) bZ (fun N2 B2=>?_)
  rw [set64A,set_drop hw (show k<(wl x).length by omega)]at B2
  refine At.anyS (.refl _) (aE (bK rfl rfl rfl) rfl rfl (At.sNil (bB (aB (s_7 (At.region (bI (aC rfl) rfl rfl (by omega) (by omega) rfl (aD (aC rfl) rfl rfl (aA (aB (At.perm aW (At.perm aX (At.perm aW (At.perm aW ?_))))))))))))))
  refine At.back ?_ (.refl _) ⟨k+1,addC ((wl x).getD k 0) ((wl y).getD k 0) c,w++ [addS ((wl x).getD k 0) ((wl y).getD k 0) c],N2,rfl,rfl,rfl,by omega,by simp;omega,(add64_law _ _ _ hc).2,add_round hw hc hv,B2⟩ ?_
  ·exact .cons (by first|exact bE rfl (by omega)|rfl) (.cons (by first|exact bE rfl (by omega)|rfl) (.cons (by first|exact bE rfl (by omega)|rfl) (.cons (by first|exact bE rfl (by omega)|rfl) (.cons (by first|exact bE rfl (by omega)|rfl) .nil))))
  ·omega
 refine At.exit (aO (aO (At.inHit (aB (s_3 (At.seq fun _ s_9=>At.region ?_))))))
 have hk4:k=4:=by omega
 rw [hk4,v64_take_all (by omega),v64_take_all (by omega),hvx,hvy]at hv
 rw [hk4,List.drop_of_length_le (by omega),List.append_nil]at B2
 have hw4:w.length=4:=by omega
 have hvw:=v64_lt4 hw4
 have hsum:v64 w=(x+y) % WW:=by
  rw [←WW_eq]at hv
  rw [←hv,Nat.add_mul_mod_self_right,Nat.mod_eq_of_lt hvw]
 have hwe:=wl_of hw4 hsum
 rw [hwe]at B2
 refine aL (ds:=u64s (wl (x+y))) (aC rfl) ag26 rfl B2 (by first|(rw [List.drop_zero,List.take_of_length_le (by first|(simp;done)|(simp;omega))];done)|rfl) (by first|(simp;done)|(simp;omega)) aN rfl ?_
 refine aD (aC rfl) rfl rfl (aG (nxl rfl) sz26 rfl rfl rfl rfl rfl B4 (by simp) aX (fun N4 B4=>?_))
 rw [bD (by simp)]at B4
 refine aE (aC rfl) rfl rfl (aA (aB (s_9 (At.ret ((At.sub (L':= [N4,R]) (.cons_cons _ (.cons _ (.cons _ (.cons_cons _ (.slnil))))) ?_))))))
 refine bF (L1:= []) rfl (.cell rfl (bH (ds:=u64s (wl (x+y))) ag26 B4 (by first|(rw [List.drop_zero,List.take_of_length_le (by first|(simp;done)|(simp;omega))];done)|rfl) (by first|(simp;done)|(simp;omega)) aN) (.tmp rfl .nil)) rfl (.cons _ (.refl _)) (.refl _) ?_
 exact⟨c,rfl,rfl,by rw [←hsum];rw [←WW_eq]at hv;exact hv⟩
set_option maxRecDepth 100000 in
theorem WAdd_f {x y:Nat} (hx:x<WW) (hy:y<WW):Fn Try.prog 102 #[wo x,wo y] [] [] (fun v L=>v=wo (x+y)∧L= []):=by
 refine Fn.enter (vs:= [wo x,wo y]) Try.func102 rfl rfl rfl ?_
 intro E R hR
 change At _ _ E [R] _
 refine At.seq fun _ s_1=>At.region (op_box (aV rfl) rfl rfl rfl (fun N2 b2 B2=>?_))
 change Blk N2 b2 _ (u64s (wl x))at B2
 refine op_box (aV rfl) rfl rfl rfl (fun N3 b3 B3=>?_)
 change Blk N3 b3 _ (u64s (wl y))at B3
 refine aU (aV rfl) ze26 rfl (fun N4 b4 B4=>?_)
 change Blk N4 b4 _ [.int .u64 0,.int .u64 0,.int .u64 0,.int .u64 0]at B4
 refine aA (aB (s_1 (At.seq fun _ s_2=>At.region ?_)))
 refine aL (ds:=u64s (wl x)) (aC rfl) ag26 rfl B2 (by first|(rw [List.drop_zero,List.take_of_length_le (by first|(simp;done)|(simp;omega))];done)|rfl) (by first|(simp;done)|(simp;omega)) bV rfl ?_
 refine aL (ds:=u64s (wl y)) (aC rfl) ag26 rfl B3 (by first|(rw [List.drop_zero,List.take_of_length_le (by first|(simp;done)|(simp;omega))];done)|rfl) (by first|(simp;done)|(simp;omega)) bC rfl ?_
 refine aR (aV rfl) (.cons rfl (.cons rfl .nil)) (added_f hx hy) Try.func122 rfl rfl (by simp) rfl ?_
 rintro v10 L10 ⟨c,rfl,rfl,hs⟩
 change At _ _ _ [N4,N3,N2,R] _
 refine aD (aC rfl) rfl rfl (aM (aC rfl) rfl rfl rfl (aM (aC rfl) rfl rfl rfl (aU (aV rfl) ze26 rfl (fun N5 b5 B5=>?_))))
 change Blk N5 b5 _ [.int .u64 0,.int .u64 0,.int .u64 0,.int .u64 0]at B5
 refine aG (nxl rfl) sz26 rfl rfl rfl rfl rfl B5 (by simp) sel0 (fun N5 B5=>?_)
 rw [bD (by simp)]at B5
 refine aE (aC rfl) rfl rfl (aA (aB (s_2 (At.seq fun _ s_3=>At.region ?_))))
 refine aL (ds:=u64s (wl (x+y))) (aC rfl) ag26 rfl B5 (by first|(rw [List.drop_zero,List.take_of_length_le (by first|(simp;done)|(simp;omega))];done)|rfl) (by first|(simp;done)|(simp;omega)) aN rfl ?_
 refine aG (nxl rfl) sz26 rfl rfl rfl rfl rfl B4 (by simp) bZ (fun N4 B4=>?_)
 rw [bD (by simp)]at B4
 refine aA (aB (s_3 (At.ret ((At.sub (L':= [N4,R]) (.cons_cons _ (.cons _ (.cons _ (.cons _ (.cons_cons _ (.slnil)))))) ?_)))))
 refine aZ (L1:= []) rfl (.cell rfl (bH (ds:=u64s (wl (x+y))) ag26 B4 (by first|(rw [List.drop_zero,List.take_of_length_le (by first|(simp;done)|(simp;omega))];done)|rfl) (by first|(simp;done)|(simp;omega)) aN) .nil) (.cons _ (.refl _)) (.refl _) ?_
 exact⟨rfl,rfl⟩
set_option maxRecDepth 100000 in
theorem WSub_f {x y:Nat} (hx:x<WW) (hy:y<WW):Fn Try.prog 129 #[wo x,wo y] [] [] (fun v L=>v=wo (x+WW- y)∧L= []):=by
 have hlx:=length_wl x
 have hly:=length_wl y
 have hvx:=v64_wl_lt hx
 have hvy:=v64_wl_lt hy
 refine Fn.enter (vs:= [wo x,wo y]) Try.func129 rfl rfl rfl ?_
 intro E R hR
 change At _ _ E [R] _
 refine At.seq fun _ s_1=>At.region (op_box (aV rfl) rfl rfl rfl (fun N2 b2 B2=>?_))
 change Blk N2 b2 _ (u64s (wl x))at B2
 refine op_box (aV rfl) rfl rfl rfl (fun N3 b3 B3=>?_)
 change Blk N3 b3 _ (u64s (wl y))at B3
 refine aU (aV rfl) ze26 rfl (fun N4 b4 B4=>?_)
 change Blk N4 b4 _ [.int .u64 0,.int .u64 0,.int .u64 0,.int .u64 0]at B4
 refine aA (aB (s_1 (At.seq fun _ s_2=>At.region (aE (aC rfl) rfl rfl (aA (aB (s_2 (At.seq fun _ s_3=>At.seq fun _ s_4=>At.region (aD (aC rfl) rfl rfl (aA (aB (s_4 (At.block (At.perm aW (At.perm bZ (At.perm aX (At.perm aW ?_)))))))))))))))))
 refine At.loop (fun fr_ hp_ ms_=> ∃(k:Nat) (c:UInt64) (w:List UInt64) (N2:Heaplet),fr_= [(2,.pointer (some ⟨b2,0,none⟩)),(3,.pointer (some ⟨b3,0,none⟩)),(4,.pointer (some ⟨b4,0,none⟩)),(5,.int .u64 (c.toNat:Int)),(7,.int .i64 (k:Int))]∧hp_= [N2,N3,N4,R]∧4- k=ms_∧(k≤4)∧(w.length=k)∧(c.toNat≤1)∧(v64 w+v64 ((wl y).take k)=v64 ((wl x).take k)+c.toNat*2^(64*k))∧(Blk N2 b2 26 (u64s (w++(wl x).drop k)))) ?_ (.refl _) ⟨0,0,[],N2,rfl,rfl,rfl,by omega,rfl,by decide,by simp;rfl,by simpa using B2⟩ ?_
 ·exact .cons (by first|exact bE rfl (by omega)|rfl) (.cons (by first|exact bE rfl (by omega)|rfl) (.cons (by first|exact bE rfl (by omega)|rfl) (.cons (by first|exact bE rfl (by omega)|rfl) (.cons (by first|exact bE rfl (by omega)|rfl) .nil))))
 rintro _ _ _ ⟨k,c,w,N2,rfl,rfl,rfl,hk,hw,hc,hv,B2⟩
 have hwl:(w++(wl x).drop k).length=4:=by rw [List.length_append,List.length_drop];omega
 refine At.seq fun _ s_5=>At.region (op_lss (aC rfl) rfl rfl rfl (aA (aB (s_5 (At.seq fun _ s_6=>aP rfl (fun c8=>?_) (fun c8=>?_))))))
 ·refine At.skip (aB (s_6 (At.seq fun _ s_7=>At.block (At.seq fun _ s_8=>At.region (aD (aC rfl) rfl rfl (aE (aC rfl) rfl rfl (aA (aB (s_8 (At.perm aW (At.perm aX (At.perm aX (At.perm aW (At.drawnS [N2,N3,R] [8,13] [0,11] [0,1,2,3,4,5,6,7,8,9,10,11,12,13,14] (by kernel_rfl) (by kernel_rfl) (.cons _ (.refl _)) (aD (bK rfl rfl rfl) rfl rfl (aD (bK rfl rfl rfl) rfl rfl (bY (bK rfl rfl rfl) ae26 rfl rfl (show _=(((k:Nat)):Int)from by omega) (by omega) rfl ?_)))))))))))))))))
  refine aH (bK rfl rfl rfl) sc24 rfl B2 (by first|exact get64A (by omega)|rfl) aN rfl ?_
  rw [getD_drop hw (show k<(wl x).length by omega)]
  refine aD (bK rfl rfl rfl) rfl rfl (bY (bK rfl rfl rfl) ae26 rfl rfl (show _=(((k:Nat)):Int)from by omega) (by omega) rfl ?_)
  refine aH (bK rfl rfl rfl) sc24 rfl B3 (by first|exact get64A (by omega)|rfl) bC rfl ?_
  refine aD (bK rfl rfl rfl) rfl rfl (op_ext (Nx.agree (nxss rfl rfl rfl rfl)) (.cons rfl (.cons rfl (.cons rfl .nil))) (Sub64_x ((wl x).getD k 0) ((wl y).getD k 0) c hc) rfl (At.anyS (.refl _) (aD (bK rfl rfl rfl) rfl rfl (aM (bK rfl rfl rfl) rfl rfl rfl (aM (bK rfl rfl rfl) rfl rfl rfl (bY (bK rfl rfl rfl) ae26 rfl rfl (show _=(((k:Nat)):Int)from by omega) (by omega) rfl ?_))))))
  refine aG (nxss rfl rfl rfl rfl) sz24 rfl rfl rfl rfl rfl B2 (by simp<;>omega) bZ (fun N2 B2=>?_)
  rw [set64A,set_drop hw (show k<(wl x).length by omega)]at B2
  refine At.anyS (.refl _) (aE (bK rfl rfl rfl) rfl rfl (At.sNil (bB (aB (s_7 (At.region (bI (aC rfl) rfl rfl (by omega) (by omega) rfl (aD (aC rfl) rfl rfl (aA (aB (At.perm aW (At.perm aX (At.perm aW (At.perm aW ?_))))))))))))))
  refine At.back ?_ (.refl _) ⟨k+1,subC ((wl x).getD k 0) ((wl y).getD k 0) c,w++ [subS ((wl x).getD k 0) ((wl y).getD k 0) c],N2,rfl,rfl,rfl,by omega,by simp;omega,(sub64_law _ _ _ hc).2,sub_round hw hc hv,B2⟩ ?_
  ·exact .cons (by first|exact bE rfl (by omega)|rfl) (.cons (by first|exact bE rfl (by omega)|rfl) (.cons (by first|exact bE rfl (by omega)|rfl) (.cons (by first|exact bE rfl (by omega)|rfl) (.cons (by first|exact bE rfl (by omega)|rfl) .nil))))
  ·omega
 refine At.exit (aO (aO (At.inHit (aB (s_3 (At.seq fun _ s_9=>At.region ?_))))))
 have hk4:k=4:=by omega
 rw [hk4,v64_take_all (by omega),v64_take_all (by omega),hvx,hvy]at hv
 rw [hk4,List.drop_of_length_le (by omega),List.append_nil]at B2
 have hw4:w.length=4:=by omega
 have hvw:=v64_lt4 hw4
 have hsum:v64 w=(x+WW- y) % WW:=by
  rw [←WW_eq]at hv
  have hc2:c.toNat=0∨c.toNat=1:=by omega
  rcases hc2 with h|h
  ·rw [h,Nat.zero_mul]at hv
   rw [show x+WW- y=v64 w+WW by omega,Nat.add_mod_right,Nat.mod_eq_of_lt hvw]
  ·rw [h,Nat.one_mul]at hv
   rw [show x+WW- y=v64 w by omega,Nat.mod_eq_of_lt hvw]
 have hwe:=wl_of hw4 hsum
 rw [hwe]at B2
 refine aL (ds:=u64s (wl (x+WW- y))) (aC rfl) ag26 rfl B2 (by first|(rw [List.drop_zero,List.take_of_length_le (by first|(simp;done)|(simp;omega))];done)|rfl) (by first|(simp;done)|(simp;omega)) aN rfl ?_
 refine aG (nxl rfl) sz26 rfl rfl rfl rfl rfl B4 (by simp) aX (fun N4 B4=>?_)
 rw [bD (by simp)]at B4
 refine aA (aB (s_9 (At.ret ((At.sub (L':= [N4,R]) (.cons_cons _ (.cons _ (.cons _ (.cons_cons _ (.slnil))))) ?_)))))
 refine aZ (L1:= []) rfl (.cell rfl (bH (ds:=u64s (wl (x+WW- y))) ag26 B4 (by first|(rw [List.drop_zero,List.take_of_length_le (by first|(simp;done)|(simp;omega))];done)|rfl) (by first|(simp;done)|(simp;omega)) aN) .nil) (.cons _ (.refl _)) (.refl _) ?_
 exact⟨rfl,rfl⟩
set_option maxRecDepth 100000 in
theorem Wide_f {x y:Nat} (hx:x<WW) (hy:y<WW):Fn Try.prog 123 #[wo x,wo y] [] [] (fun v L=>v=.tuple #[wo (x*y/WW),wo (x*y)]∧L= []):=by
 have hlx:=length_wl x
 have hly:=length_wl y
 have hvx:=v64_wl_lt hx
 have hvy:=v64_wl_lt hy
 refine Fn.enter (vs:= [wo x,wo y]) Try.func123 rfl rfl rfl ?_
 intro E R hR
 change At _ _ E [R] _
 refine At.seq fun _ s_1=>At.region (op_box (aV rfl) rfl rfl rfl (fun N2 b2 B2=>?_))
 change Blk N2 b2 _ (u64s (wl x))at B2
 refine op_box (aV rfl) rfl rfl rfl (fun N3 b3 B3=>?_)
 change Blk N3 b3 _ (u64s (wl y))at B3
 refine aU (aV rfl) ze26 rfl (fun N4 b4 B4=>?_)
 change Blk N4 b4 _ [.int .u64 0,.int .u64 0,.int .u64 0,.int .u64 0]at B4
 refine aU (aV rfl) ze26 rfl (fun N5 b5 B5=>?_)
 change Blk N5 b5 _ [.int .u64 0,.int .u64 0,.int .u64 0,.int .u64 0]at B5
 refine aA (aB (s_1 (At.seq fun _ s_2=>At.region (aU (aV rfl) ze198 rfl (fun N6 b6 B6=>?_)))))
 change Blk N6 b6 _ [.int .u64 0,.int .u64 0,.int .u64 0,.int .u64 0,.int .u64 0,.int .u64 0,.int .u64 0,.int .u64 0]at B6
 change Blk N6 b6 _ (u64s (List.replicate 8 0))at B6
 refine aA (aB (s_2 (At.seq fun _ s_3=>At.seq fun _ s_4=>At.region ?_)))
 refine aL (ds:=u64s (wl x)) (aC rfl) ag26 rfl B2 (by first|(rw [List.drop_zero,List.take_of_length_le (by first|(simp;done)|(simp;omega))];done)|rfl) (by first|(simp;done)|(simp;omega)) mem4 rfl ?_
 refine aD (aC rfl) rfl rfl (aA (aB (s_4 (At.block (At.sub (L':= [N6,N5,N4,N3,R]) (.cons_cons _ (.cons_cons _ (.cons_cons _ (.cons_cons _ (.cons _ (.cons_cons _ (.slnil))))))) (At.perm bJ (At.perm aX (At.perm aW (At.perm bJ (At.perm bJ ?_))))))))))
 refine At.loop (fun fr_ hp_ ms_=> ∃(i:Nat) (p:List UInt64) (N6:Heaplet),fr_= [(3,.pointer (some ⟨b3,0,none⟩)),(4,.pointer (some ⟨b4,0,none⟩)),(5,.pointer (some ⟨b5,0,none⟩)),(6,.pointer (some ⟨b6,0,none⟩)),(15,.agg (u64s (wl x)).toArray),(16,.int .i64 (i:Int))]∧hp_= [N6,N3,N4,N5,R]∧4- i=ms_∧(i≤4)∧(p.length=i+4)∧(v64 p=v64 ((wl x).take i)*v64 (wl y))∧(Blk N6 b6 198 (u64s (p++List.replicate (4- i) 0)))) ?_ (.refl _) ⟨0,List.replicate 4 0,N6,rfl,rfl,rfl,by omega,by simp,by rw [v64_replicate];simp [v64,n64,val],B6⟩ ?_
 ·exact .cons (by first|exact bE rfl (by omega)|rfl) (.cons (by first|exact bE rfl (by omega)|rfl) (.cons (by first|exact bE rfl (by omega)|rfl) (.cons (by first|exact bE rfl (by omega)|rfl) (.cons (by first|exact bE rfl (by omega)|rfl) (.cons (by first|exact bE rfl (by omega)|rfl) .nil)))))
 rintro _ _ _ ⟨i,p,N6,rfl,rfl,rfl,hi,hp,hv,B6⟩
 have hpl:(p++List.replicate (4- i) (0:UInt64)).length=8:=by simp;omega
 refine At.seq fun _ s_5=>At.region (op_lss (aC rfl) rfl rfl rfl (aA (aB (s_5 (At.seq fun _ s_6=>aP rfl (fun c17=>?_) (fun c17=>?_))))))
 ·refine At.skip (aB (s_6 (At.seq fun _ s_7=>At.block (At.seq fun _ s_8=>At.region (aD (aC rfl) rfl rfl (op_idxV (aC rfl) ae26 sc24 rfl rfl (show _=(((i:Nat)):Int)from by omega) (by omega) (by simpa using get64 (bs:=wl x) (j:=i) (by omega)) rfl ?_))))))
  refine aE (aC rfl) rfl rfl (aE (aC rfl) rfl rfl (aA (aB (s_8 (At.seq fun _ s_9=>At.region (aE (aC rfl) rfl rfl (aA (aB (s_9 (At.seq fun _ s_10=>At.seq fun _ s_11=>At.region ?_))))))))))
  refine aL (ds:=u64s (wl y)) (aC rfl) ag26 rfl B3 (by first|(rw [List.drop_zero,List.take_of_length_le (by first|(simp;done)|(simp;omega))];done)|rfl) (by first|(simp;done)|(simp;omega)) bC rfl ?_
  refine aD (aC rfl) rfl rfl (aA (aB (s_11 (At.block ?_))))
  refine At.loop (fun fr_ hp_ ms_=> ∃(k:Nat) (c:UInt64) (p:List UInt64) (N6:Heaplet),fr_= [(3,.pointer (some ⟨b3,0,none⟩)),(4,.pointer (some ⟨b4,0,none⟩)),(5,.pointer (some ⟨b5,0,none⟩)),(6,.pointer (some ⟨b6,0,none⟩)),(7,.int .i64 (i:Int)),(8,.int .u64 (((wl x).getD i 0).toNat:Int)),(9,.int .u64 (c.toNat:Int)),(15,.agg (u64s (wl x)).toArray),(16,.int .i64 (i:Int)),(20,.agg (u64s (wl y)).toArray),(21,.int .i64 (k:Int))]∧hp_= [N6,N3,N4,N5,R]∧4- k=ms_∧(k≤4)∧(p.length=i+4)∧(v64 p+c.toNat*2^(64*(i+k))=v64 ((wl x).take i)*v64 (wl y)+2^(64*i)*(((wl x).getD i 0).toNat*v64 ((wl y).take k)))∧(Blk N6 b6 198 (u64s (p++List.replicate (4- i) 0)))) ?_ (.refl _) ⟨0,0,p,N6,rfl,rfl,rfl,by omega,hp,by rw [hv];simp [v64,n64,val],B6⟩ ?_
  ·exact .cons (by first|exact bE rfl (by omega)|rfl) (.cons (by first|exact bE rfl (by omega)|rfl) (.cons (by first|exact bE rfl (by omega)|rfl) (.cons (by first|exact bE rfl (by omega)|rfl) (.cons (by first|exact bE rfl (by omega)|rfl) (.cons (by first|exact bE rfl (by omega)|rfl) (.cons (by first|exact bE rfl (by omega)|rfl) (.cons (by first|exact bE rfl (by omega)|rfl) (.cons (by first|exact bE rfl (by omega)|rfl) (.cons (by first|exact bE rfl (by omega)|rfl) (.cons (by first|exact bE rfl (by omega)|rfl) .nil))))))))))
  rintro _ _ _ ⟨k,c,p,N6,rfl,rfl,rfl,hk,hp,hv,B6⟩
  have hpl:(p++List.replicate (4- i) (0:UInt64)).length=8:=by simp;omega
  refine At.seq fun _ s_12=>At.region (op_lss (aC rfl) rfl rfl rfl (aA (aB (s_12 (At.seq fun _ s_13=>aP rfl (fun c22=>?_) (fun c22=>?_))))))
  ·refine At.skip (aB (s_13 (At.seq fun _ s_14=>At.block (At.seq fun _ s_15=>At.region (aD (aC rfl) rfl rfl (op_idxV (aC rfl) ae26 sc24 rfl rfl (show _=(((k:Nat)):Int)from by omega) (by omega) (by simpa using get64 (bs:=wl y) (j:=k) (by omega)) rfl ?_))))))
   refine aE (aC rfl) rfl rfl (aE (aC rfl) rfl rfl (aA (aB (s_15 (At.seq fun _ s_16=>At.region (aD (aC rfl) rfl rfl (aD (aC rfl) rfl rfl (aR (aV rfl) (.cons rfl (.cons rfl .nil)) (Mul64_f ((wl x).getD i 0) ((wl y).getD k 0)) Try.func140 rfl rfl (by simp) rfl ?_))))))))
   rintro v28 L28 ⟨rfl,rfl⟩
   change At _ _ _ [N6,N3,N4,N5,R] _
   refine aD (aC rfl) rfl rfl (aM (aC rfl) rfl rfl rfl (aM (aC rfl) rfl rfl rfl (aE (aC rfl) rfl rfl (aE (aC rfl) rfl rfl (aA (aB (s_16 (At.seq fun _ s_17=>At.region (aE (aC rfl) rfl rfl (aA (aB (s_17 (At.seq fun _ s_18=>At.region (aD (aC rfl) rfl rfl (aD (aC rfl) rfl rfl (aD (aC rfl) rfl rfl (bI (aC rfl) rfl rfl (by omega) (by omega) rfl (bY (aC rfl) ae198 rfl rfl (show _=(((i+k:Nat)):Int)from by omega) (by omega) rfl ?_))))))))))))))))))
   refine aH (aC rfl) sc24 rfl B6 (by first|exact get64A (by omega)|rfl) aN rfl ?_
   rw [getD_app (p:=p) (j:=i+k) (by omega)]
   refine op_ext (aV rfl) (.cons rfl (.cons rfl (.cons rfl .nil))) (Add64_x ((wl x).getD i 0*(wl y).getD k 0) (p.getD (i+k) 0) 0 (by decide)) rfl (aD (aC rfl) rfl rfl (aM (aC rfl) rfl rfl rfl (aM (aC rfl) rfl rfl rfl (aE (aC rfl) rfl rfl (aE (aC rfl) rfl rfl (aA (aB (s_18 (At.seq fun _ s_19=>At.region (aD (aC rfl) rfl rfl (aD (aC rfl) rfl rfl (op_addU (aC rfl) rfl rfl rfl (aE (aC rfl) rfl rfl (aA (aB (s_19 (At.seq fun _ s_20=>At.region (aD (aC rfl) rfl rfl (aD (aC rfl) rfl rfl (op_ext (aV rfl) (.cons rfl (.cons rfl (.cons rfl .nil))) (Add64_x (addS ((wl x).getD i 0*(wl y).getD k 0) (p.getD (i+k) 0) 0) c 0 (by decide)) rfl ?_))))))))))))))))))))
   refine aD (aC rfl) rfl rfl (aM (aC rfl) rfl rfl rfl (aM (aC rfl) rfl rfl rfl (aE (aC rfl) rfl rfl (aE (aC rfl) rfl rfl (aA (aB (s_20 (At.region (aD (aC rfl) rfl rfl (aD (aC rfl) rfl rfl (bI (aC rfl) rfl rfl (by omega) (by omega) rfl (aD (aC rfl) rfl rfl (aD (aC rfl) rfl rfl (aD (aC rfl) rfl rfl (op_addU (aC rfl) rfl rfl rfl (bY (aC rfl) ae198 rfl rfl (show _=(((i+k:Nat)):Int)from by omega) (by omega) rfl ?_))))))))))))))))
   refine aG (nxl rfl) sz24 rfl rfl rfl rfl rfl B6 (by simp<;>omega) sel0 (fun N6 B6=>?_)
   rw [set64A,List.set_append_left (i+k) _ (show i+k<p.length by omega)]at B6
   refine aE (aC rfl) rfl rfl (aA (bB (aB (s_14 (At.region (bI (aC rfl) rfl rfl (by omega) (by omega) rfl (aD (aC rfl) rfl rfl (aA (aB ?_)))))))))
   refine At.back ?_ (.refl _) ⟨k+1,mulH ((wl x).getD i 0) ((wl y).getD k 0)+addC ((wl x).getD i 0*(wl y).getD k 0) (p.getD (i+k) 0) 0+addC (addS ((wl x).getD i 0*(wl y).getD k 0) (p.getD (i+k) 0) 0) c 0,p.set (i+k) (addS (addS ((wl x).getD i 0*(wl y).getD k 0) (p.getD (i+k) 0) 0) c 0),N6,rfl,rfl,rfl,by omega,by simp;omega,mul_round (by omega) hv,B6⟩ ?_
   ·exact .cons (by first|exact bE rfl (by omega)|rfl) (.cons (by first|exact bE rfl (by omega)|rfl) (.cons (by first|exact bE rfl (by omega)|rfl) (.cons (by first|exact bE rfl (by omega)|rfl) (.cons (by first|exact bE rfl (by omega)|rfl) (.cons (by first|exact bE rfl (by omega)|rfl) (.cons (by first|exact bE rfl (by omega)|rfl) (.cons (by first|exact bE rfl (by omega)|rfl) (.cons (by first|exact bE rfl (by omega)|rfl) (.cons (by first|exact bE rfl (by omega)|rfl) (.cons (by first|exact bE rfl (by omega)|rfl) .nil))))))))))
   ·omega
  refine At.exit (aO (aO (At.inHit (aB (s_10 (At.region ?_))))))
  have hk4:k=4:=by omega
  refine aD (aC rfl) rfl rfl (bI (aC rfl) rfl rfl (by omega) (by omega) rfl (aD (aC rfl) rfl rfl (bY (aC rfl) ae198 rfl rfl (show _=(((i+4:Nat)):Int)from by omega) (by omega) rfl ?_)))
  refine aG (nxl rfl) sz24 rfl rfl rfl rfl rfl B6 (by simp<;>omega) sel0 (fun N6 B6=>?_)
  rw [set64A,set_rep hp (by omega)]at B6
  refine aA (bB (aB (s_7 (At.region (bI (aC rfl) rfl rfl (by omega) (by omega) rfl (aD (aC rfl) rfl rfl (aA (aB ?_))))))))
  refine At.back ?_ (.refl _) ⟨i+1,p++ [c],N6,rfl,rfl,rfl,by omega,by simp;omega,by subst hk4;exact mul_outer (by rw [hly];exact hp) (by rw [hly];exact hv),by rw [show 4- (i+1)=4- i- 1 by omega];exact B6⟩ ?_
  ·exact .cons (by first|exact bE rfl (by omega)|rfl) (.cons (by first|exact bE rfl (by omega)|rfl) (.cons (by first|exact bE rfl (by omega)|rfl) (.cons (by first|exact bE rfl (by omega)|rfl) (.cons (by first|exact bE rfl (by omega)|rfl) (.cons (by first|exact bE rfl (by omega)|rfl) .nil)))))
  ·omega
 refine At.exit (aO (aO (At.inHit (aB (s_3 (At.seq fun _ s_21=>At.drawnS [R] [2] [] [0,1,2] (by kernel_rfl) (by kernel_rfl) (.cons _ (.cons _ (.cons _ (.cons _ (.refl _))))) ?_))))))
 have hi4:i=4:=by omega
 subst hi4
 rw [Nat.sub_self,List.replicate_zero,List.append_nil]at B6
 rw [v64_take_all (by omega),hvx,hvy]at hv
 have hp8:p.length=8:=by omega
 have s6:=arr_part B6 (lo:=0) (hi:=4) (c:=8) (by omega) (by omega) (by omega) (by omega)
 have s6b:=arr_part B6 (lo:=4) (hi:=8) (c:=4) (by omega) (by omega) (by omega) (by omega)
 have e:=v64_take_drop p (k:=4) (by omega)
 rw [hv, ←WW_eq]at e
 have hlo4:(p.take 4).length=4:=by rw [List.length_take];omega
 have hhi4:(p.drop 4).length=4:=by rw [List.length_drop];omega
 have hl1:=v64_lt4 hlo4
 have elo:p.take 4=wl (x*y):=wl_of hlo4 (by rw [e,Nat.add_mul_mod_self_left,Nat.mod_eq_of_lt hl1])
 have ehi:p.drop 4=wl (x*y/WW):=wl_of hhi4 (by
  rw [e,Nat.add_mul_div_left _ _ WW_pos,Nat.div_eq_of_lt hl1,Nat.zero_add,Nat.mod_eq_of_lt (v64_lt4 hhi4)])
 refine op_sliceA (bK rfl rfl rfl) ae26 rfl .none .none .none (by omega) (by omega) (by omega) (by simp) rfl (op_sliceA (bK rfl rfl rfl) ae198 rfl .none (.some rfl (show _=((4:Nat):Int)from rfl)) .none (by omega) (by omega) (by omega) (by simp) rfl ?_)
 refine op_copyB (nxsl rfl rfl rfl rfl) se200 rfl rfl B5 s6 (by first|exact aN|exact bC|exact bV|exact mem3|exact mem4|exact mem5|exact mem6|exact mem7|exact mem8|exact mem9) (by first|exact one_u8s _|exact one_u64s _|exact one_u32s _|(intro u hu;simp at hu;subst hu;rfl)) (by simp<;>omega) aW rfl (fun N5 B5=>?_)
 rw [copy_all rfl (by rw [List.length_take];omega) (by simp),show List.take (4- 0) (List.drop 0 p)=wl (x*y)from elo]at B5
 refine At.sNil (aB (s_21 (At.seq fun _ s_22=>At.drawnS [R] [2] [] [0,1,2] (by kernel_rfl) (by kernel_rfl) (.cons _ (.cons _ (.cons _ (.cons _ (.refl _))))) (op_sliceA (bK rfl rfl rfl) ae26 rfl .none .none .none (by omega) (by omega) (by omega) (by simp) rfl (op_sliceA (bK rfl rfl rfl) ae198 rfl (.some rfl (show _=((4:Nat):Int)from rfl)) .none .none (by omega) (by omega) (by omega) (by simp) rfl ?_)))))
 refine op_copyB (nxsl rfl rfl rfl rfl) se200 rfl rfl B4 s6b (by first|exact aN|exact bC|exact bV|exact mem3|exact mem4|exact mem5|exact mem6|exact mem7|exact mem8|exact mem9) (by first|exact one_u8s _|exact one_u64s _|exact one_u32s _|(intro u hu;simp at hu;subst hu;rfl)) (by simp<;>omega) aW rfl (fun N4 B4=>?_)
 rw [copy_all rfl (by rw [List.length_take];omega) (by simp),List.take_of_length_le (by omega),ehi]at B4
 refine At.sNil (aB (s_22 (At.seq fun _ s_23=>At.region ?_)))
 refine aL (ds:=u64s (wl (x*y/WW))) (aC rfl) ag26 rfl B4 (by first|(rw [List.drop_zero,List.take_of_length_le (by first|(simp;done)|(simp;omega))];done)|rfl) (by first|(simp;done)|(simp;omega)) aN rfl ?_
 refine aL (ds:=u64s (wl (x*y))) (aC rfl) ag26 rfl B5 (by first|(rw [List.drop_zero,List.take_of_length_le (by first|(simp;done)|(simp;omega))];done)|rfl) (by first|(simp;done)|(simp;omega)) bC rfl ?_
 refine aG (nxl rfl) sz26 rfl rfl rfl rfl rfl B4 (by simp) sel0 (fun N4 B4=>?_)
 rw [bD (by simp)]at B4
 refine aG (nxl rfl) sz26 rfl rfl rfl rfl rfl B5 (by simp) bZ (fun N5 B5=>?_)
 rw [bD (by simp)]at B5
 refine aA (aB (s_23 (At.ret ((At.sub (L':= [N5,N4,R]) (.cons_cons _ (.cons_cons _ (.cons _ (.cons _ (.cons_cons _ (.slnil)))))) (At.perm aX (At.perm bZ (At.perm aX ?_))))))))
 refine bF (L1:= []) rfl (.cell rfl (bH (ds:=u64s (wl (x*y/WW))) ag26 B4 (by first|(rw [List.drop_zero,List.take_of_length_le (by first|(simp;done)|(simp;omega))];done)|rfl) (by first|(simp;done)|(simp;omega)) aN) (.cell rfl (bH (ds:=u64s (wl (x*y))) ag26 B5 (by first|(rw [List.drop_zero,List.take_of_length_le (by first|(simp;done)|(simp;omega))];done)|rfl) (by first|(simp;done)|(simp;omega)) bC) .nil)) rfl (.cons _ (.cons _ (.refl _))) (.refl _) ?_
 exact⟨rfl,rfl⟩
end Go.Proofs.Ytljacjjeinmfnaa
/- The engine, words compared. For whatever program. No condition. -/
namespace Go.Proofs.Ytljacjjeinmfnaa
open Go Go.RowKit
theorem all_range64: ∀(xs ys:List UInt64),xs.length=ys.length→((List.range xs.length).all fun i=>xs.getD i 0==ys.getD i 0)=(xs==ys)
 | [],[],_=>rfl
 |x::xs,y::ys,h=>by
  have ih:=all_range64 xs ys (by simpa using h)
  rw [List.length_cons,List.range_succ_eq_map,List.all_cons,List.all_map]
  simp only [List.getD_cons_zero,Function.comp_def,List.getD_cons_succ,ih]
  simp [List.cons_beq_cons]
 | [],_::_,h=>by simp at h
 |_::_,[],h=>by simp at h
section
variable {P : Program}
theorem run_equalIn_words (w:World) (d:Nat) (t e:TypeId) (n:Nat) (ht:P.underlying t=some (.array n e)) (he:P.underlying e=some (.int .u64)) (hsz: ∀w,(sizeOf e).run P w=.ok 1 w)
 (xs ys:List UInt64) (hx:xs.length=n) (hy:ys.length=n):
 (Op.equalIn (d+2) t (.agg (u64s xs).toArray) (.agg (u64s ys).toArray)).run P w=.ok (xs==ys) w:=by
 rw [←all_range64 xs ys (hx.trans hy.symm),hx,List.range_eq_range',Op.equalIn]
 simp only [Sem.run_bind,Go.run_underlying ht,Result.andThen_ok,hsz,Std.Legacy.Range.forIn_eq_forIn_range',Std.Legacy.Range.size,Nat.sub_zero,Nat.add_sub_cancel,Nat.div_one]
 have hl: ∀i∈List.range' 0 n 1,i<n:=fun i hi=>by simpa using (List.mem_range'_1.1 hi).2
 generalize List.range' 0 n 1=l at hl⊢
 induction l with
 |nil=>simp
 |cons i l ih=>
  have hi:i<n:=hl i (by simp)
  have px:(part e (u64s xs).toArray (i*1)).run P w=.ok (.int .u64 ((xs.getD i 0).toNat:Int)) w:=by
   simp [part,isAgg,Go.run_underlying he,u64s,vl,List.getD,List.getElem?_eq_getElem (show i<xs.length by omega)]
  have py:(part e (u64s ys).toArray (i*1)).run P w=.ok (.int .u64 ((ys.getD i 0).toNat:Int)) w:=by
   simp [part,isAgg,Go.run_underlying he,u64s,vl,List.getD,List.getElem?_eq_getElem (show i<ys.length by omega)]
  have pe:(Op.equalIn (d+1) e (.int .u64 ((xs.getD i 0).toNat:Int)) (.int .u64 ((ys.getD i 0).toNat:Int))).run P w=.ok (xs.getD i 0==ys.getD i 0) w:=by
   rw [run_equalIn_int w d e .u64 .u64 _ _ he]
   congr 1
   rw [Bool.eq_iff_iff]
   simp [←UInt64.toNat_inj]
   omega
  simp only [List.forIn_cons,Sem.run_bind,px,py,pe,Result.andThen_ok,List.all_cons]
  cases hb:(xs.getD i 0==ys.getD i 0)
  ·simp
  ·simp only [Bool.not_true,Bool.false_eq_true,if_false,Sem.run_pure,Result.andThen_ok,Bool.true_and]
   exact ih fun j hj=>hl j (by simp [hj])
theorem eqGuard_agg {op:BinOp} {t:TypeId} {x y:Operand} {a b:Array Value} (h:P.eqGuardType P.depth t=false) (w:World):(eqGuard op t x y (.agg a) (.agg b)).run P w=.ok () w:=by
 unfold eqGuard
 by_cases ho:(!(op matches .eql|.neq))=true<;>simp [ho,h]
variable {n : Nat} {l : List (Nat × Value)} {E : World} {L Ls : List Heaplet} {X Y : Act → World → Prop} {d : Nat} {t t' ty e : TypeId} {x y : Operand}
end
end Go.Proofs.Ytljacjjeinmfnaa
/- Package word: products, quotients, with signs and without. No condition. -/
namespace Go.Proofs.Ytljacjjeinmfnaa
open Go Go.RowKit
/-- What is left; 0 by 0. -/
def modZ (x y:Nat):Nat:=if y=0 then 0 else x % y
def HW:Nat:=2^255
/-- Is the signed value below 0? -/
def negB (x:Nat):Bool:=decide (HW≤x)
/-- A word, or less it. -/
def sgn (m:Bool) (x:Nat):Nat:=if m then WW- x else x
def absW (x:Nat):Nat:=sgn (negB x) x
set_option maxRecDepth 100000 in
theorem WMul_f {x y:Nat} (hx:x<WW) (hy:y<WW):Fn Try.prog 103 #[wo x,wo y] [] [] (fun v L=>v=wo (x*y)∧L= []):=by
 refine Fn.enter (vs:= [wo x,wo y]) Try.func103 rfl rfl rfl ?_
 intro E R hR
 change At _ _ E [R] _
 refine At.seq fun _ s_1=>At.region (op_box (aV rfl) rfl rfl rfl (fun N2 b2 B2=>?_))
 change Blk N2 b2 _ (u64s (wl x))at B2
 refine op_box (aV rfl) rfl rfl rfl (fun N3 b3 B3=>?_)
 change Blk N3 b3 _ (u64s (wl y))at B3
 refine aU (aV rfl) ze26 rfl (fun N4 b4 B4=>?_)
 change Blk N4 b4 _ [.int .u64 0,.int .u64 0,.int .u64 0,.int .u64 0]at B4
 refine aA (aB (s_1 (At.seq fun _ s_2=>At.region ?_)))
 refine aL (ds:=u64s (wl x)) (aC rfl) ag26 rfl B2 (by first|(rw [List.drop_zero,List.take_of_length_le (by first|(simp;done)|(simp;omega))];done)|rfl) (by first|(simp;done)|(simp;omega)) bV rfl ?_
 refine aL (ds:=u64s (wl y)) (aC rfl) ag26 rfl B3 (by first|(rw [List.drop_zero,List.take_of_length_le (by first|(simp;done)|(simp;omega))];done)|rfl) (by first|(simp;done)|(simp;omega)) bC rfl ?_
 refine aR (aV rfl) (.cons rfl (.cons rfl .nil)) (Wide_f hx hy) Try.func123 rfl rfl (by simp) rfl ?_
 rintro v10 L10 ⟨rfl,rfl⟩
 change At _ _ _ [N4,N3,N2,R] _
 refine aD (aC rfl) rfl rfl (aM (aC rfl) rfl rfl rfl (aM (aC rfl) rfl rfl rfl (aU (aV rfl) ze26 rfl (fun N5 b5 B5=>?_))))
 change Blk N5 b5 _ [.int .u64 0,.int .u64 0,.int .u64 0,.int .u64 0]at B5
 refine aU (aV rfl) ze26 rfl (fun N6 b6 B6=>?_)
 change Blk N6 b6 _ [.int .u64 0,.int .u64 0,.int .u64 0,.int .u64 0]at B6
 refine aG (nxl rfl) sz26 rfl rfl rfl rfl rfl B5 (by simp) bZ (fun N5 B5=>?_)
 rw [bD (by simp)]at B5
 refine aG (nxl rfl) sz26 rfl rfl rfl rfl rfl B6 (by simp) bZ (fun N6 B6=>?_)
 rw [bD (by simp)]at B6
 refine aA (aB (s_2 (At.seq fun _ s_3=>At.region ?_)))
 refine aL (ds:=u64s (wl (x*y))) (aC rfl) ag26 rfl B6 (by first|(rw [List.drop_zero,List.take_of_length_le (by first|(simp;done)|(simp;omega))];done)|rfl) (by first|(simp;done)|(simp;omega)) aN rfl ?_
 refine aG (nxl rfl) sz26 rfl rfl rfl rfl rfl B4 (by simp) aX (fun N4 B4=>?_)
 rw [bD (by simp)]at B4
 refine aA (aB (s_3 (At.ret ((At.sub (L':= [N4,R]) (.cons_cons _ (.cons _ (.cons _ (.cons _ (.cons _ (.cons_cons _ (.slnil))))))) ?_)))))
 refine aZ (L1:= []) rfl (.cell rfl (bH (ds:=u64s (wl (x*y))) ag26 B4 (by first|(rw [List.drop_zero,List.take_of_length_le (by first|(simp;done)|(simp;omega))];done)|rfl) (by first|(simp;done)|(simp;omega)) aN) .nil) (.cons _ (.refl _)) (.refl _) ?_
 exact⟨rfl,rfl⟩
end Go.Proofs.Ytljacjjeinmfnaa
/- Package nat: forms, orders, bits, sums, differences, products, quotients. Condition: numbers of at most 2^38 bytes. -/
namespace Go.Proofs.Ytljacjjeinmfnaa
open Go Go.RowKit
/-- A number's bytes in new memory. -/
def BytesP (V:Nat) (v:Value) (L:List Heaplet):Prop:=
 ∃M a c,v=.slice a (bytesOf V).length c∧L= [M]∧Row M 5 1 a (bytesOf V).length c (u8s (bytesOf V))
section
variable {N M : Heaplet} {ao bo : Option Addr} {n m ca cb : Nat} {a b : List UInt8}
def SubP (A B:Nat) (v:Value) (L:List Heaplet):Prop:=
 ∃M p c,v=.tuple #[.slice p (bytesOf (A- B)).length c,.bool (decide (B≤A))]∧L= [M]∧Row M 5 1 p (bytesOf (A- B)).length c (u8s (bytesOf (A- B)))
def DivModP (A B:Nat) (v:Value) (L:List Heaplet):Prop:=
 ∃M1 p1 c1 M2 p2 c2,v=.tuple #[.slice p1 (bytesOf (A/B)).length c1,.slice p2 (bytesOf (A % B)).length c2,.bool true]∧L= [M1,M2]∧Row M1 5 1 p1 (bytesOf (A/B)).length c1 (u8s (bytesOf (A/B)))∧Row M2 5 1 p2 (bytesOf (A % B)).length c2 (u8s (bytesOf (A % B)))
end
end Go.Proofs.Ytljacjjeinmfnaa
/- nat.ModExp: powers modulo a number. Condition: numbers of at most 2^34 bytes. -/
namespace Go.Proofs.Ytljacjjeinmfnaa
open Go Go.RowKit
theorem Blk.one {N:Heaplet} {b:Nat} {e:TypeId} {v:Value} (h:Blk N b e [v]):RSl N 1 (some ⟨b,0,none⟩) 1 1 [v]:=
 ⟨rfl,Nat.le_refl _,by decide,fun _=>⟨b,0,rfl,h.rng⟩⟩
section
variable {N M Nb Nm : Heaplet} {ao bo mo : Option Addr} {n m nm ca cb cm bb : Nat} {e : TypeId} {a b l : List UInt64}
end
section
variable {N M Nm : Heaplet} {ao bo mo : Option Addr} {n m nm ca cb cm : Nat} {a b l : List UInt8}
end
end Go.Proofs.Ytljacjjeinmfnaa
/- Package word: powers. No condition. -/
namespace Go.Proofs.Ytljacjjeinmfnaa
open Go Go.RowKit
end Go.Proofs.Ytljacjjeinmfnaa
