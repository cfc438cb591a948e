/- Plain laws: words of four limbs, their bytes and bits. No condition. -/
import Derived.Test.YtdpjbefeabokgaaGreatU5
set_option linter.unusedSimpArgs false
set_option linter.unusedVariables false
namespace Go.Proofs.YtdpjbefeabokgaaGreat
theorem v64_take_succ {l:List UInt64} {k:Nat} (h:k<l.length):v64 (l.take (k+1))=v64 (l.take k)+2^(64*k)*(l.getD k 0).toNat:=by
 rw [List.take_succ_eq_append_getElem h,v64_append,List.length_take,Nat.min_eq_left (by omega),List.getD_eq_getElem?_getD,List.getElem?_eq_getElem h]
 simp only [v64,n64,val,List.map_cons,List.map_nil,Option.getD_some,Nat.mul_zero,Nat.add_zero]
theorem v64_take_lt (l:List UInt64) (k:Nat):v64 (l.take k)<2^(64*k):=by
 refine Nat.lt_of_lt_of_le (v64_lt _) (Nat.pow_le_pow_right (by decide) ?_)
 have:=List.length_take_le k l
 omega
theorem bitLen_join {L x k:Nat} (hL:L<2^k) (hx:x≠0):bitLen (L+2^k*x)=k+bitLen x:=by
 have h1:=lt_bitLen x
 have h0:=bitLen_pos (Nat.pos_of_ne_zero hx)
 have hp:0<2^k:=Nat.pow_pos (by decide)
 refine bitLen_eq ?_ (.inr ?_)
 ·rw [Nat.pow_add]
  have:2^k*(x+1)≤2^k*2^bitLen x:=Nat.mul_le_mul_left _ h1
  rw [Nat.mul_add,Nat.mul_one]at this
  omega
 ·have h2:2^(bitLen x- 1)≤x:=by
   rcases Nat.lt_or_ge x (2^(bitLen x- 1))with h|h
   ·have:=bitLen_le.2 h;omega
   ·exact h
  rw [show k+bitLen x- 1=k+(bitLen x- 1) by omega,Nat.pow_add]
  have:=Nat.mul_le_mul_left (2^k) h2
  omega
/-- The highest limb that is not naught tells the bits. -/
theorem bits_at {l:List UInt64} {k:Nat} (h:k<l.length) (hx:(l.getD k 0).toNat≠0) (hv:v64 l=v64 (l.take (k+1))):bitLen (v64 l)=64*k+bitLen (l.getD k 0).toNat:=by
 rw [hv,v64_take_succ h,bitLen_join (v64_take_lt l k) hx]
theorem v64_take_zero {l:List UInt64} {k:Nat} (h:k<l.length) (hx:(l.getD k 0).toNat=0) (hv:v64 l=v64 (l.take (k+1))):v64 l=v64 (l.take k):=by
 rw [hv,v64_take_succ h,hx,Nat.mul_zero,Nat.add_zero]
theorem be_bytes32 {N:Nat} (h:N<2^256):be (bytesN 32 N)=N:=by rw [be_bytesN];exact Nat.mod_eq_of_lt (by simpa using h)
theorem bytesN_drop {n k N:Nat} (hk:k≤n) (h:N<256^k):(bytesN n N).drop (n- k)=bytesN k N:=by
 apply List.ext_getElem
 ·rw [List.length_drop,length_bytesN,length_bytesN];omega
 ·intro i h1 h2
  rw [length_bytesN]at h2
  rw [List.getElem_drop]
  simp only [bytesN,List.getElem_map,List.getElem_range]
  congr 3
  omega
theorem bytes_drop32 {N:Nat} (h:N<2^256):(bytesN 32 N).drop (32- (bitLen N+7)/8)=bytesOf N:=by
 have h1:(bitLen N+7)/8≤32:=byteLen_le.2 (by simpa using h)
 exact bytesN_drop h1 (byteLen_le.1 (Nat.le_refl _))
theorem v64_four_lt (a b c d:UInt64):v64 [a,b,c,d]<2^256:=v64_lt [a,b,c,d]
theorem bytesN_take_succ {n N k:Nat} (h:k<n):(bytesN n N).take (k+1)=(bytesN n N).take k++ [UInt8.ofNat (N/256^(n- 1- k))]:=by
 rw [List.take_succ_eq_append_getElem (by rw [length_bytesN];exact h)]
 simp [bytesN]
end Go.Proofs.YtdpjbefeabokgaaGreat
