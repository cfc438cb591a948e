/- Several texts in one: see the remarks ahead of each part. No condition but those told there. -/
import Derived.Test.YtjfagifjajielaaGreatU6
import Derived.Test.YtjfagifjajielaaGreatU5
import Derived.Test.YtjfagifjajielaaGreatU3
set_option linter.unusedSimpArgs false
set_option linter.unusedVariables false
/- limb.Mul, limb.Cmp, limb.Bit, limb.shifted. Condition: numbers of at most 2^40 limbs. -/
namespace Go.Proofs.YtjfagifjajielaaGreat
open Go Go.RowKit
end Go.Proofs.YtjfagifjajielaaGreat
/- limb.shifted, limb.step: the parts of a division of numbers in limbs. Condition: numbers of at most 2^40 limbs. -/
namespace Go.Proofs.YtjfagifjajielaaGreat
open Go Go.RowKit
end Go.Proofs.YtjfagifjajielaaGreat
/- limb.step: the upper limbs divided. Condition: at most 2^40 limbs; the quotient is one limb. -/
namespace Go.Proofs.YtjfagifjajielaaGreat
open Go Go.RowKit
def StepP (b:Nat) (e:TypeId) (pre u v post:List UInt64) (r:Value) (L:List Heaplet):Prop:=
 ∃M x, ∃q:UInt64,r=.int .u64 (q.toNat:Int)∧L= [M]∧Blk M b e (u64s (pre++x++post))∧x.length=u.length∧q.toNat=v64 u/v64 v∧v64 x=v64 u % v64 v
end Go.Proofs.YtjfagifjajielaaGreat
/- limb.DivMod: a number in limbs divided by one that is not 0. Condition: numbers of at most 2^40 limbs. -/
namespace Go.Proofs.YtjfagifjajielaaGreat
open Go Go.RowKit
/-- Two numbers in limbs, in new memory. -/
def LimbsP2 (A B:Nat) (v:Value) (L:List Heaplet):Prop:=
 ∃M1 a1 c1 M2 a2 c2,v=.tuple #[.slice a1 (limbsOf A).length c1,.slice a2 (limbsOf B).length c2]∧L= [M1,M2]∧RSl M1 1 a1 (limbsOf A).length c1 (u64s (limbsOf A))∧RSl M2 1 a2 (limbsOf B).length c2 (u64s (limbsOf B))
end Go.Proofs.YtjfagifjajielaaGreat
/- Plain laws: numbers in digits of 32 bits and their bytes. No condition. -/
namespace Go.Proofs.YtjfagifjajielaaGreat
theorem bytesOf_zero:bytesOf 0= []:=rfl
theorem bytesOf_step {x:Nat} (h:x≠0):bytesOf x=bytesOf (x/256)++ [UInt8.ofNat x]:=by
 have hb:(bitLen x+7)/8=(bitLen (x/256)+7)/8+1:=by
  have h1:bitLen (x/256)=bitLen x- 8:=bitLen_div x 8
  have h2:=bitLen_pos (Nat.pos_of_ne_zero h)
  omega
 rw [bytesOf,hb,bytesN_succ];rfl
theorem trim_len32 {l:List UInt32} {k:Nat} (hk:k≤l.length) (hz: ∀i,k≤i→l.getD i 0=0) (hl:k=0∨(0<k∧l.getD (k- 1) 0≠0)):l.take k=digsOf (v32 l)∧(digsOf (v32 l)).length=k:=by
 have h1:l.take k=digsOf (v32 l):=trim_eq32 hk (fun i h hki=>by
  have:=hz i hki
  rwa [List.getD_eq_getElem?_getD,List.getElem?_eq_getElem h]at this) (by
  rcases hl with h|⟨h0,h⟩
  ·exact .inl h
  ·refine .inr ⟨by omega,?_⟩
   rwa [List.getD_eq_getElem?_getD,List.getElem?_eq_getElem (by omega)]at h)
 exact⟨h1,by rw [←h1,List.length_take];omega⟩
theorem v32_two (x:UInt64):v32 [UInt32.ofNat x.toNat,UInt32.ofNat (shr64 x 32).toNat]=x.toNat:=by
 have hx:=x.toNat_lt
 simp only [v32,n32,val,List.map_cons,List.map_nil,shr64,UInt32.toNat_ofNat',UInt64.toNat_ofNat']
 omega
theorem byte32_at {l:List UInt32} {i:Nat} (h:i/4<l.length):UInt8.ofNat (shr32 (l.getD (i/4) 0) (8*(i % 4))).toNat=UInt8.ofNat (v32 l/256^i):=by
 rw [shr32,UInt32.toNat_ofNat',Nat.mod_eq_of_lt (Nat.lt_of_le_of_lt (Nat.div_le_self _ _) (UInt32.toNat_lt _)),List.getD_eq_getElem?_getD,List.getElem?_eq_getElem h,Option.getD_some, ←dig_v32 h]
 apply UInt8.toNat_inj.1
 rw [UInt8.toNat_ofNat',UInt8.toNat_ofNat']
 obtain⟨q,r,hqr,hr⟩: ∃q r,i=4*q+r∧r<4:=⟨i/4,i % 4,by omega,Nat.mod_lt _ (by decide)⟩
 have e1:i/4=q:=by omega
 have e2:i % 4=r:=by omega
 rw [e1,e2,hqr,show(256:Nat)^(4*q+r)=2^(32*q)*2^(8*r)from by rw [←Nat.pow_add,show(256:Nat)=2^8 from rfl, ←Nat.pow_mul];congr 1;omega, ←Nat.div_div_eq_div_mul]
 generalize v32 l/2^(32*q)=X
 rw [show(2:Nat)^32=2^(8*r)*2^(32- 8*r)from by rw [←Nat.pow_add];congr 1;omega,Nat.mod_mul_right_div_self]
 exact Nat.mod_mod_of_dvd _ (Nat.pow_dvd_pow 2 (by omega:8≤32- 8*r))
theorem bytesOf_down {N i:Nat} (h:N/256^i≠0):bytesOf (N/256^i)=bytesOf (N/256^(i+1))++ [UInt8.ofNat (N/256^i)]:=by
 rw [bytesOf_step h,Nat.div_div_eq_div_mul,Nat.pow_succ]
theorem bytesOf_len0 {n:Nat} (h:(bytesOf n).length=0):n=0:=by
 rw [length_bytesOf]at h
 have:=byteLen_le (N:=n) (k:=0)
 have h2:=this.1 (by omega)
 simpa using h2
theorem down_ne {N i:Nat} (h:0<(bytesOf (N/256^(i+1))).length∨(UInt8.ofNat (N/256^i)).toNat≠0):N/256^i≠0:=by
 intro e
 rcases h with h|h
 ·have:N/256^(i+1)=0:=by rw [Nat.pow_succ, ←Nat.div_div_eq_div_mul,e,Nat.zero_div]
  rw [this,bytesOf_zero]at h;simp at h
 ·rw [e]at h;exact h rfl
theorem down_eq {N i:Nat} (h1: ¬0<(bytesOf (N/256^(i+1))).length) (h2: ¬(UInt8.ofNat (N/256^i)).toNat≠0):bytesOf (N/256^i)=bytesOf (N/256^(i+1)):=by
 have e1:=bytesOf_len0 (Nat.eq_zero_of_not_pos h1)
 have e2:N/256^i % 256=0:=by
  have:(UInt8.ofNat (N/256^i)).toNat=0:=by omega
  rwa [UInt8.toNat_ofNat']at this
 have e3:N/256^i=0:=by
  have h3:N/256^i/256=0:=by rw [Nat.div_div_eq_div_mul, ←Nat.pow_succ];exact e1
  omega
 rw [e1,e3]
end Go.Proofs.YtjfagifjajielaaGreat
