/- Several texts in one: see the remarks ahead of each part. No condition but those told there. -/
import Derived.Test.YtjfagifjajielaaGreatX1
import Derived.Test.YtjfagifjajielaaGreatX11
set_option linter.unusedSimpArgs false
set_option linter.unusedVariables false
namespace Go.Proofs.YtjfagifjajielaaGreat
def cmpN (a b:Nat):Int:=if a<b then-1 else if b<a then 1 else 0
theorem cmpN_lt {a b:Nat} (h:a<b):cmpN a b= -1:=by rw [cmpN,if_pos h]
theorem cmpN_gt {a b:Nat} (h:b<a):cmpN a b=1:=by rw [cmpN,if_neg (by omega),if_pos h]
theorem cmpN_eq (a:Nat):cmpN a a=0:=by rw [cmpN,if_neg (Nat.lt_irrefl _),if_neg (Nat.lt_irrefl _)]
theorem v64_split {l:List UInt64} {j:Nat} (h:j<l.length):v64 l=v64 (l.take j)+2^(64*j)*((l.getD j 0).toNat+18446744073709551616*v64 (l.drop (j+1))):=by
 have e:l=l.take (j+1)++l.drop (j+1):=(List.take_append_drop _ _).symm
 conv=>lhs;rw [e]
 rw [v64_append,List.length_take,Nat.min_eq_left (by omega),v64_take_succD,pow64,Nat.mul_add,Nat.mul_assoc,Nat.add_assoc]
theorem cmp_at {x y:List UInt64} {j:Nat} (hl:x.length=y.length) (hj:j<x.length) (hd:x.drop (j+1)=y.drop (j+1)) (hlt:(x.getD j 0).toNat<(y.getD j 0).toNat):v64 x<v64 y:=by
 rw [v64_split hj,v64_split (l:=y) (j:=j) (by omega),hd]
 have h1:=v64_take_lt x j
 have h2:=Nat.mul_le_mul_left (2^(64*j)) (show(x.getD j 0).toNat+18446744073709551616*v64 (y.drop (j+1))+1≤(y.getD j 0).toNat+18446744073709551616*v64 (y.drop (j+1)) by omega)
 rw [Nat.mul_add _ _ 1,Nat.mul_one]at h2
 omega
theorem drop_eq_succ {α:Type} {x y:List α} {j:Nat} {z:α} (hx:j<x.length) (hy:j<y.length) (he:x.getD j z=y.getD j z) (hd:x.drop (j+1)=y.drop (j+1)):x.drop j=y.drop j:=by
 rw [List.drop_eq_getElem_cons hx,List.drop_eq_getElem_cons hy,hd]
 rw [List.getD_eq_getElem?_getD,List.getD_eq_getElem?_getD,List.getElem?_eq_getElem hx,List.getElem?_eq_getElem hy]at he
 simp only [Option.getD_some]at he
 rw [he]
theorem limb_at (l:List UInt64) (i:Nat):v64 l/2^(64*i) % 2^64=(l.getD i 0).toNat:=by
 rcases Nat.lt_or_ge i l.length with h|h
 ·rw [limb_v64 h,List.getD_eq_getElem?_getD,List.getElem?_eq_getElem h];rfl
 ·rw [getD_big h,Nat.div_eq_of_lt (Nat.lt_of_lt_of_le (v64_lt l) (Nat.pow_le_pow_right (by decide) (by omega)))];rfl
def shlN (L V s:Nat):List UInt64:=limbsN L (V*2^s)
theorem getD_limbsN {L V i:Nat} (h:i<L):(limbsN L V).getD i 0=UInt64.ofNat (V/2^(64*i)):=by
 rw [List.getD_eq_getElem?_getD,List.getElem?_eq_getElem (by simp [limbsN];exact h)]
 simp [limbsN]
theorem mid_at {l:List UInt64} {i r:Nat} (hr:r≤64):v64 l/2^(64*i+r) % 2^64=(shr64 (l.getD i 0) r |||shl64 (l.getD (i+1) 0) (64- r)).toNat:=by
 rw [Nat.pow_add, ←Nat.div_div_eq_div_mul]
 have e:v64 l/2^(64*i)=(l.getD i 0).toNat+2^64*(v64 l/2^(64*(i+1))):=by
  rw [←limb_at,pow64, ←Nat.div_div_eq_div_mul]
  exact(Nat.mod_add_div _ _).symm
 rw [e,limb_mid hr (limb_at l (i+1))]
def shSt (o:List UInt64) (L s i:Nat):List UInt64:=o.take i++(shlN L (v64 o) s).drop i
theorem getD_set_ne {α:Type} {l:List α} {i j:Nat} {y z:α} (h:i≠j):(l.set i y).getD j z=l.getD j z:=by
 rw [List.getD_eq_getElem?_getD,List.getD_eq_getElem?_getD,List.getElem?_set_ne h]
theorem set_drop {α:Type} {w u:List α} {k:Nat} {d:α} (hw:w.length=k) (hk:k<u.length):(w++u.drop k).set k d=(w++ [d])++u.drop (k+1):=by
 rw [List.drop_eq_getElem_cons hk,set_mid hw]
theorem getD_drop {α:Type} {w u:List α} {k:Nat} {z:α} (hw:w.length=k) (hk:k<u.length):(w++u.drop k).getD k z=u.getD k z:=by
 rw [List.drop_eq_getElem_cons hk,getD_mid hw,List.getD_eq_getElem?_getD,List.getElem?_eq_getElem hk];rfl
open Go Go.RowKit
def StepP (b:Nat) (e:TypeId) (pre u v post:List UInt64) (r:Value) (L:List Heaplet):Prop:=
 ∃M x, ∃q:UInt64,r=.int .u64 (q.toNat:Int)∧L= [M]∧Blk M b e (u64s (pre++x++post))∧x.length=u.length∧q.toNat=v64 u/v64 v∧v64 x=v64 u % v64 v
def LimbsP2 (A B:Nat) (v:Value) (L:List Heaplet):Prop:=
 ∃M1 a1 c1 M2 a2 c2,v=.tuple #[.slice a1 (limbsOf A).length c1,.slice a2 (limbsOf B).length c2]∧L= [M1,M2]∧RSl M1 1 a1 (limbsOf A).length c1 (u64s (limbsOf A))∧RSl M2 1 a2 (limbsOf B).length c2 (u64s (limbsOf B))
end Go.Proofs.YtjfagifjajielaaGreat
