/- Several texts in one: see the remarks ahead of each part. No condition but those told there. -/
import Derived.Test.YtljacjjeinmfnaaU4
import Derived.Test.YtljacjjeinmfnaaU3
set_option linter.unusedSimpArgs false
set_option linter.unusedVariables false
/- quarryref02's trim, Of, Bytes: numbers in digits of 32 bits. No condition. -/
namespace Go.Proofs.Ytljacjjeinmfnaa
open Go Go.RowKit
end Go.Proofs.Ytljacjjeinmfnaa
/- Plain law: what the reference's From builds. No condition. -/
namespace Go.Proofs.Ytljacjjeinmfnaa
def rfromStep (l:List UInt8) (i:Nat) (a:List UInt32):List UInt32:=
 a.set (i/4) (a.getD (i/4) 0 |||(UInt32.ofNat ((l.getD (l.length- 1- i) 0).toNat*2^(8*(i % 4)))))
def rfromSt (l:List UInt8):Nat→List UInt32
 |0=>List.replicate ((l.length+3)/4) 0
 |k+1=>rfromStep l k (rfromSt l k)
end Go.Proofs.Ytljacjjeinmfnaa
/- The engine, arrays of words: what is read and written at a place. For whatever program. No condition. -/
namespace Go.Proofs.Ytljacjjeinmfnaa
open Go Go.RowKit
theorem get64A {bs:List UInt64} {j:Nat} (h:j<bs.length):(u64s bs)[0+j*1]? =some (.int .u64 ((bs.getD j 0).toNat:Int)):=by rw [Nat.zero_add,Nat.mul_one];exact get64 h
theorem get8A {bs:List UInt8} {j:Nat} (h:j<bs.length):(u8s bs)[0+j*1]? =some (.int .u8 ((bs.getD j 0).toNat:Int)):=by rw [Nat.zero_add,Nat.mul_one];exact get8 h
theorem set64A (l:List UInt64) (j:Nat) (x:UInt64):setL (u64s l) (0+j*1) [.int .u64 (x.toNat:Int)]=u64s (l.set j x):=by rw [Nat.zero_add,Nat.mul_one,setL,setL,set_u64s]
theorem set8A (l:List UInt8) (j:Nat) (x:UInt8):setL (u8s l) (0+j*1) [.int .u8 (x.toNat:Int)]=u8s (l.set j x):=by rw [Nat.zero_add,Nat.mul_one,setL,setL,set_u8s]
theorem four {α:Type} {l:List α} (h:l.length=4): ∃a b c d,l= [a,b,c,d]:=by
 match l,h with
 | [a,b,c,d],_=>exact⟨a,b,c,d,rfl⟩
/-- A word of four limbs as a value. -/
def wv (l:List UInt64):Value:=.agg (u64s l).toArray
theorem eq_words4 {l m:List UInt64} (hl:l.length=4) (hm:m.length=4) (h:v64 l=v64 m):l=m:=v64_inj (by omega) h
section
variable {P : Program} {n : Nat} {l : List (Nat × Value)} {E : World} {L Ls : List Heaplet} {X Y : Act → World → Prop} {d : Nat} {t ty e : TypeId} {x y : Operand}
theorem op_buildA {alen size:Nat} {parts:List (Nat×Operand)} {vs:List (Nat×Value)} {zs out:List Value} {pos:_} {aft:_} {g:_} (s:NxF P n l E L Ls ⟨some d,.build t parts.toArray,ty,pos,aft,g⟩ X Y) (hz:zer P t=some (.agg zs.toArray)) (hp:aelt P t=some (alen,e,size)) (hv:Pts l parts vs) (ho:fillL ((List.range alen).map fun i=>(i*size,size)) zs vs=some out) (hn:Nat.ble (d+1) n=true) (h:At n ((d,.agg out.toArray)::l) E L Y):At n l E L X:=
 op_val s (fun a w hf hw=>by
  obtain⟨i,hi,hiz⟩:=Option.bind_eq_some_iff.1 hz
  obtain⟨hu,j,hj,hjs⟩:=aelt_spec hp
  have hzr:(zeroValue t).run P w=.ok (.agg zs.toArray) w:=by simp [zeroValue,typeInfo,hi,hiz]
  have hfill:=fill_fillL (place:=fun i=>some (i*size,size)) (fun i o h=>by
   rw [List.getElem?_map]at h
   obtain⟨k,hk,rfl⟩:=Option.map_eq_some_iff.1 h
   obtain⟨_,rfl⟩:=List.getElem?_eq_some_iff.1 hk
   simp) vs zs out ho
  have hpv:(parts.toArray.map fun(x:Nat×Operand)=>(x.1,a.eval x.2))=vs.toArray:=by rw [List.map_toArray,hv.map hf]
  have hb:(Instr.build t vs.toArray).run P w=.ok (.agg out.toArray) w:=by
   unfold Instr.build
   rw [Sem.run_bind,hzr]
   simp only [Result.andThen_ok]
   rw [Sem.run_bind,run_underlying hu]
   simp only [Result.andThen_ok]
   rw [Sem.run_bind,run_sizeOf hj,hjs]
   simp only [Result.andThen_ok,Value.cells,hfill,Sem.run_pure]
  show((do pure (.value (←Instr.build t (parts.toArray.map fun(x:Nat×Operand)=>(x.1,a.eval x.2)))):Sem Next)).run P w=_
  rw [hpv,Sem.run_bind,hb]
  rfl) rfl hn h
theorem op_idxV {alen j:Nat} {k:IntKind} {p:Int} {v:Value} {cs:Array Value} {pos:_} {aft:_} {g:_} (s:NxF P n l E L Ls ⟨some d,.index t x y,ty,pos,aft,g⟩ X Y) (ht:aelt P t=some (alen,e,1)) (he:scal P e=true) (hx:ev l x=some (.agg cs)) (hy:ev l y=some (.int k p)) (hj:p=(j:Int)) (hlt:j<alen) (hc:cs[j]? =some v) (hn:Nat.ble (d+1) n=true) (h:At n ((d,v)::l) E L Y):At n l E L X:=by
 obtain⟨hu,i,hi,hsz⟩:=aelt_spec ht
 refine op_val s (fun a w hf hw=>?_) rfl hn h
 subst hj
 simp only [execOp,hf.eval hx,hf.eval hy,Instr.index,asIntOf,Sem.run_bind,Sem.run_pure,Result.andThen_ok,run_underlying hu]
 have h0:(0:Int)≤(j:Int)∧(j:Int)<(alen:Int):=by omega
 simp only [if_pos h0,Sem.run_bind,run_sizeOf hi,hsz,Result.andThen_ok,Int.toNat_natCast,Nat.mul_one]
 simp only [part,Sem.run_bind]
 rw [run_isAgg_scal he]
 simp only [Result.andThen_ok,Bool.false_eq_true,if_false,hc,Sem.run_pure]
end
end Go.Proofs.Ytljacjjeinmfnaa
/- Plain laws: words built by or, place by place. No condition. -/
namespace Go.Proofs.Ytljacjjeinmfnaa
theorem shl64_of (x:Nat) (hx:x<2^64) (m:Nat):shl64 (UInt64.ofNat x) m=UInt64.ofNat (x*2^m):=by
 unfold shl64
 rw [UInt64.toNat_ofNat',Nat.mod_eq_of_lt hx]
end Go.Proofs.Ytljacjjeinmfnaa
/- quarryref02's From, Cmp; quarryref01's W. No condition but that bytes are not more than a machine holds. -/
namespace Go.Proofs.Ytljacjjeinmfnaa
open Go Go.RowKit
/-- How two numbers stand to each other. -/
def cmpI (x y:Nat):Int:=if x<y then-1 else if y<x then 1 else 0
end Go.Proofs.Ytljacjjeinmfnaa
/- Plain laws: words of four limbs, their bytes and bits. No condition. -/
namespace Go.Proofs.Ytljacjjeinmfnaa
/-- A byte is laid below what stands. -/
theorem or_low64 {a:List UInt64} {q s w x:Nat} (hq:q<a.length) (hs:v64 a % 2^(64*q+s+w)=0) (hx:x<2^w) (hw:s+w≤64):
 v64 (a.set q (a.getD q 0 |||UInt64.ofNat (x*2^s)))=v64 a+x*2^(64*q+s):=by
 have hset:=v64_set (a:=a) (i:=q) (y:=a.getD q 0 |||UInt64.ofNat (x*2^s)) hq
 have hdig:=limb_v64 hq
 have hc:x*2^s<2^(s+w):=by
  rw [Nat.pow_add,Nat.mul_comm]
  exact Nat.mul_lt_mul_of_pos_left hx (Nat.pow_pos (by decide))
 have hc64:x*2^s<2^64:=Nat.lt_of_lt_of_le hc (Nat.pow_le_pow_right (by decide) hw)
 have hL:a[q].toNat % 2^(s+w)=0:=by
  rw [←hdig]
  obtain⟨m,hm⟩:=Nat.dvd_of_mod_eq_zero hs
  rw [hm,show 64*q+s+w=64*q+(s+w) by omega,Nat.pow_add,Nat.mul_assoc,Nat.mul_div_cancel_left _ (Nat.pow_pos (by decide)),
   show(2:Nat)^64=2^(s+w)*2^(64- (s+w))from by rw [←Nat.pow_add];congr 1;omega,Nat.mul_mod_mul_left,Nat.mul_mod_right]
 have hor:(a.getD q 0 |||UInt64.ofNat (x*2^s)).toNat=a[q].toNat+x*2^s:=by
  rw [List.getD_eq_getElem?_getD,List.getElem?_eq_getElem hq,Option.getD_some,UInt64.toNat_or,UInt64.toNat_ofNat',Nat.mod_eq_of_lt hc64,nat_join (s+w) _ _ hL hc]
 rw [hor,Nat.add_mul,Nat.mul_assoc, ←Nat.pow_add,Nat.add_comm s]at hset
 omega
theorem be_take_succD {l:List UInt8} {k:Nat} (h:k<l.length):be (l.take (k+1))=be (l.take k)*256+(l.getD k 0).toNat:=by
 rw [List.take_succ_eq_append_getElem h,be_snoc,List.getD_eq_getElem?_getD,List.getElem?_eq_getElem h];rfl
/-- One round of word.From. -/
theorem wfrom_step {m:List UInt64} {l:List UInt8} {k:Nat} (hm:m.length=4) (hl:l.length≤32) (hk:k<l.length) (hv:v64 m=be (l.take k)*256^(l.length- k)):
 v64 (m.set ((l.length- 1- k)/8) (m.getD ((l.length- 1- k)/8) 0 |||UInt64.ofNat ((l.getD k 0).toNat*2^((l.length- 1- k) % 8*8))))=be (l.take (k+1))*256^(l.length- (k+1)):=by
 have hx:=(l.getD k 0).toNat_lt
 have e:64*((l.length- 1- k)/8)+(l.length- 1- k) % 8*8=8*(l.length- 1- k):=by omega
 have e2:8*(l.length- 1- k)+8=8*(l.length- k):=by omega
 have p: ∀j,(256:Nat)^j=2^(8*j):=fun j=>by rw [show(256:Nat)=2^8 from rfl, ←Nat.pow_mul]
 rw [or_low64 (w:=8) (by omega) (by rw [hv,p,e,e2,Nat.mul_mod_left]) hx (by omega),e,hv,be_take_succD hk,Nat.add_mul,Nat.mul_assoc, ←p]
 congr 2
 ·rw [show l.length- k=(l.length- (k+1))+1 by omega,Nat.pow_succ,Nat.mul_comm]
 ·congr 1;omega
theorem v64_take_succ {l:List UInt64} {k:Nat} (h:k<l.length):v64 (l.take (k+1))=v64 (l.take k)+2^(64*k)*(l.getD k 0).toNat:=by
 rw [List.take_succ_eq_append_getElem h,v64_append,List.length_take,Nat.min_eq_left (by omega),List.getD_eq_getElem?_getD,List.getElem?_eq_getElem h]
 simp only [v64,n64,val,List.map_cons,List.map_nil,Option.getD_some,Nat.mul_zero,Nat.add_zero]
theorem v64_take_lt (l:List UInt64) (k:Nat):v64 (l.take k)<2^(64*k):=by
 refine Nat.lt_of_lt_of_le (v64_lt _) (Nat.pow_le_pow_right (by decide) ?_)
 have:=List.length_take_le k l
 omega
theorem bitLen_join {L x k:Nat} (hL:L<2^k) (hx:x≠0):bitLen (L+2^k*x)=k+bitLen x:=by
 have h1:=lt_bitLen x
 have h0:=bitLen_pos (Nat.pos_of_ne_zero hx)
 have hp:0<2^k:=Nat.pow_pos (by decide)
 refine bitLen_eq ?_ (.inr ?_)
 ·rw [Nat.pow_add]
  have:2^k*(x+1)≤2^k*2^bitLen x:=Nat.mul_le_mul_left _ h1
  rw [Nat.mul_add,Nat.mul_one]at this
  omega
 ·have h2:2^(bitLen x- 1)≤x:=by
   rcases Nat.lt_or_ge x (2^(bitLen x- 1))with h|h
   ·have:=bitLen_le.2 h;omega
   ·exact h
  rw [show k+bitLen x- 1=k+(bitLen x- 1) by omega,Nat.pow_add]
  have:=Nat.mul_le_mul_left (2^k) h2
  omega
/-- The highest limb that is not naught tells the bits. -/
theorem bits_at {l:List UInt64} {k:Nat} (h:k<l.length) (hx:(l.getD k 0).toNat≠0) (hv:v64 l=v64 (l.take (k+1))):bitLen (v64 l)=64*k+bitLen (l.getD k 0).toNat:=by
 rw [hv,v64_take_succ h,bitLen_join (v64_take_lt l k) hx]
theorem v64_take_zero {l:List UInt64} {k:Nat} (h:k<l.length) (hx:(l.getD k 0).toNat=0) (hv:v64 l=v64 (l.take (k+1))):v64 l=v64 (l.take k):=by
 rw [hv,v64_take_succ h,hx,Nat.mul_zero,Nat.add_zero]
theorem bytesN_drop {n k N:Nat} (hk:k≤n) (h:N<256^k):(bytesN n N).drop (n- k)=bytesN k N:=by
 apply List.ext_getElem
 ·rw [List.length_drop,length_bytesN,length_bytesN];omega
 ·intro i h1 h2
  rw [length_bytesN]at h2
  rw [List.getElem_drop]
  simp only [bytesN,List.getElem_map,List.getElem_range]
  congr 3
  omega
theorem bytes_drop32 {N:Nat} (h:N<2^256):(bytesN 32 N).drop (32- (bitLen N+7)/8)=bytesOf N:=by
 have h1:(bitLen N+7)/8≤32:=byteLen_le.2 (by simpa using h)
 exact bytesN_drop h1 (byteLen_le.1 (Nat.le_refl _))
theorem v64_four_lt (a b c d:UInt64):v64 [a,b,c,d]<2^256:=v64_lt [a,b,c,d]
end Go.Proofs.Ytljacjjeinmfnaa
