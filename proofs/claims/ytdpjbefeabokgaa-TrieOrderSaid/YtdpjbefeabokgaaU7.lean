/- Several texts in one: see the remarks ahead of each part. No condition but those told there. -/
import Derived.Test.YtdpjbefeabokgaaU6
import Derived.Test.YtdpjbefeabokgaaU5
import Derived.Test.YtdpjbefeabokgaaU3
set_option linter.unusedSimpArgs false
set_option linter.unusedVariables false
/- Plain laws: sums, differences and products of numbers in limbs, limb by limb. No condition. -/
namespace Go.Proofs.Ytdpjbefeabokgaa
/-! Shifts: two limbs that lie side by side give one. -/
theorem shl64_nat (x:UInt64) (s:Nat):(shl64 x s).toNat=x.toNat*2^s % 2^64:=by rw [shl64,UInt64.toNat_ofNat']
theorem shr64_nat (x:UInt64) (s:Nat):(shr64 x s).toNat=x.toNat/2^s:=by
 rw [shr64,UInt64.toNat_ofNat',Nat.mod_eq_of_lt (Nat.lt_of_le_of_lt (Nat.div_le_self _ _) x.toNat_lt)]
end Go.Proofs.Ytdpjbefeabokgaa
/- Keccak-256 in plain words: lanes, rounds, blocks. No condition. -/
namespace Go.Proofs.Ytdpjbefeabokgaa
open Go Go.RowKit
/-- Turned to the left. -/
def rolN (v:UInt64) (n:Nat):UInt64:=if n=0 then v else shl64 v n |||shr64 v (64- n)
theorem rol_go {v:UInt64} {n:Nat} (h:n<64):shl64 v n |||shr64 v (64- n)=rolN v n:=by
 unfold rolN
 split
 ·rename_i h0
  subst h0
  apply UInt64.toNat_inj.1
  rw [UInt64.toNat_or,shl64_nat,shr64_nat,Nat.pow_zero,Nat.mul_one,Nat.mod_eq_of_lt v.toNat_lt,Nat.div_eq_of_lt v.toNat_lt,Nat.or_zero]
 ·rfl
/-! The constants of the rounds. -/
def rI:Nat→Int
 |0=>1
 |n+1=>bits .xor .u8 (IntKind.u8.wrap (rI n*2^(min (1:Int).toNat IntKind.u8.bits))) (IntKind.u8.wrap (rI n/2^(min (7:Int).toNat IntKind.u8.bits)*113))
def cStep (l:List UInt64) (n:Nat):List UInt64:=l.set (n/7) (l.getD (n/7) 0 |||shl64 (UInt64.ofNat (bits .and .u8 (rI n) 1).toNat) (shl64 1 (n % 7)- 1).toNat)
def cN:Nat→List UInt64
 |0=>List.replicate 24 0
 |n+1=>cStep (cN n) n
theorem cN_len: ∀n,(cN n).length=24
 |0=>rfl
 |n+1=>by rw [cN,cStep,List.length_set,cN_len n]
def rcL:List UInt64:=cN 168
def rJ:Nat→Int
 |0=>1
 |n+1=>if rJ n*2≥256 then bits .xor .i64 (rJ n*2- 256) 113 else rJ n*2
def wJ (r:Nat):Nat→UInt64
 |0=>0
 |n+1=>if 7*r≤n∧bits .and .i64 (rJ n) 1=1 then wJ r n |||shl64 1 (shl64 1 (n- 7*r)- 1).toNat else wJ r n
set_option maxRecDepth 100000 in
theorem rI_ok: ∀n:Fin 169,0≤rI n.1∧rI n.1≤255∧0≤bits .and .u8 (rI n.1) 1:=by decide+kernel
set_option maxRecDepth 100000 in
theorem rJ_ok: ∀n:Fin 169,0≤rJ n.1∧rJ n.1≤255:=by decide+kernel
set_option maxRecDepth 100000 in
theorem wJ_ok: ∀r:Fin 24,wJ r.1 (7*r.1+7)=rcL.getD r.1 0:=by decide+kernel
/-! Theta. -/
def thC (a:List UInt64):Nat→List UInt64
 |0=> [0,0,0,0,0]
 |i+1=>(thC a i).set (i % 5) ((thC a i).getD (i % 5) 0^^^a.getD i 0)
theorem thC_len (a:List UInt64): ∀i,(thC a i).length=5
 |0=>rfl
 |i+1=>by rw [thC,List.length_set,thC_len a i]
def thA (c a:List UInt64):Nat→List UInt64
 |0=>a
 |i+1=>(thA c a i).set i ((thA c a i).getD i 0^^^(c.getD ((i % 5+4) % 5) 0^^^rolN (c.getD ((i % 5+1) % 5) 0) 1))
theorem thA_len (c a:List UInt64): ∀i,(thA c a i).length=a.length
 |0=>rfl
 |i+1=>by rw [thA,List.length_set,thA_len c a i]
def theta (a:List UInt64):List UInt64:=thA (thC a 25) a 25
theorem theta_len (a:List UInt64):(theta a).length=a.length:=thA_len ..
/-! Rho and pi. -/
def pX:Nat→Nat×Nat
 |0=>(1,0)
 |t+1=>((pX t).2,(2*(pX t).1+3*(pX t).2) % 5)
theorem pX_lt: ∀t,(pX t).1<5∧(pX t).2<5
 |0=>⟨by decide,by decide⟩
 |t+1=>⟨(pX_lt t).2,Nat.mod_lt _ (by decide)⟩
def pos (t:Nat):Nat:=(pX t).1+5*(pX t).2
theorem pos_lt (t:Nat):pos t<25:=by
 have:=pX_lt t
 unfold pos;omega
def rot (t:Nat):Nat:=(t+1)*(t+2)/2 % 64
def tuP (a:List UInt64):Nat→List UInt64×UInt64
 |0=>(a,a.getD 1 0)
 |t+1=>((tuP a t).1.set (pos (t+1)) (rolN (tuP a t).2 (rot t)),(tuP a t).1.getD (pos (t+1)) 0)
theorem tuP_len (a:List UInt64): ∀t,(tuP a t).1.length=a.length
 |0=>rfl
 |t+1=>by rw [tuP];simp only [List.length_set];exact tuP_len a t
def tuR (a:List UInt64):Nat→List UInt64
 |0=>(List.replicate 25 0).set 0 (a.getD 0 0)
 |t+1=>(tuR a t).set (pos (t+1)) (rolN (a.getD (pos t) 0) (rot t))
theorem tuR_len (a:List UInt64): ∀t,(tuR a t).length=25
 |0=>by rw [tuR,List.length_set,List.length_replicate]
 |t+1=>by rw [tuR,List.length_set,tuR_len a t]
theorem pos_apart: ∀s:Fin 25, ∀t:Fin 25,pos s.1=pos t.1→(s.1 % 24=t.1 % 24):=by decide+kernel
theorem pos_full: ∀j:Fin 25,j.1=0∨ ∃s:Fin 24,pos (s.1+1)=j.1:=by decide+kernel
theorem pos_pos: ∀s:Fin 25,0<pos s.1:=by decide+kernel
theorem kgetD_ne {l:List UInt64} {i j:Nat} {x:UInt64} (h:i≠j):(l.set i x).getD j 0=l.getD j 0:=by
 rw [List.getD_eq_getElem?_getD,List.getD_eq_getElem?_getD,List.getElem?_set_ne h]
theorem kgetD_eq {l:List UInt64} {i:Nat} {x:UInt64} (h:i<l.length):(l.set i x).getD i 0=x:=by
 rw [List.getD_eq_getElem?_getD,List.getElem?_set_self h];rfl
/-- What stands where t steps have gone. -/
theorem tuP_at {a:List UInt64} (ha:a.length=25): ∀t,t≤24→(∀s,s<t→(tuP a t).1.getD (pos (s+1)) 0=rolN (a.getD (pos s) 0) (rot s))∧(∀j,(∀s,s<t→pos (s+1)≠j)→(tuP a t).1.getD j 0=a.getD j 0)∧(tuP a t).2=a.getD (pos t) 0
 |0,_=>⟨fun s h=>absurd h (Nat.not_lt_zero _),fun j _=>rfl,rfl⟩
 |t+1,ht=>by
  obtain⟨h1,h2,h3⟩:=tuP_at ha t (by omega)
  have hl:(tuP a t).1.length=25:=(tuP_len a t).trans ha
  refine⟨fun s hs=>?_,fun j hj=>?_,?_⟩
  ·rw [tuP]
   by_cases e:s=t
   ·subst e
    show((tuP a s).1.set (pos (s+1)) _).getD (pos (s+1)) 0=_
    rw [kgetD_eq (by rw [hl];exact pos_lt _),h3]
   ·have hne:pos (t+1)≠pos (s+1):=fun e2=>by
     have:=pos_apart ⟨t+1,by omega⟩ ⟨s+1,by omega⟩ e2
     simp only at this
     omega
    show((tuP a t).1.set (pos (t+1)) _).getD (pos (s+1)) 0=_
    rw [kgetD_ne hne,h1 s (by omega)]
  ·rw [tuP]
   show((tuP a t).1.set (pos (t+1)) _).getD j 0=_
   rw [kgetD_ne (hj t (by omega)),h2 j fun s hs=>hj s (by omega)]
  ·rw [tuP]
   show(tuP a t).1.getD (pos (t+1)) 0=_
   refine h2 _ fun s hs e2=>?_
   have:=pos_apart ⟨s+1,by omega⟩ ⟨t+1,by omega⟩ e2
   simp only at this
   omega
theorem tuR_at (a:List UInt64): ∀t,t≤24→(∀s,s<t→(tuR a t).getD (pos (s+1)) 0=rolN (a.getD (pos s) 0) (rot s))∧(tuR a t).getD 0 0=a.getD 0 0
 |0,_=>⟨fun s h=>absurd h (Nat.not_lt_zero _),by rw [tuR,kgetD_eq (by rw [List.length_replicate];decide)]⟩
 |t+1,ht=>by
  obtain⟨h1,h2⟩:=tuR_at a t (by omega)
  refine⟨fun s hs=>?_,?_⟩
  ·rw [tuR]
   by_cases e:s=t
   ·subst e
    rw [kgetD_eq (by rw [tuR_len];exact pos_lt _)]
   ·have hne:pos (t+1)≠pos (s+1):=fun e2=>by
     have:=pos_apart ⟨t+1,by omega⟩ ⟨s+1,by omega⟩ e2
     simp only at this
     omega
    rw [kgetD_ne hne,h1 s (by omega)]
  ·rw [tuR,kgetD_ne (by have:=pos_pos ⟨t+1,by omega⟩;simp only at this;omega),h2]
theorem ext_getD {a b:List UInt64} (hl:a.length=b.length) (h: ∀j,j<a.length→a.getD j 0=b.getD j 0):a=b:=by
 apply List.ext_getElem hl
 intro i h1 h2
 have:=h i h1
 rwa [List.getD_eq_getElem?_getD,List.getD_eq_getElem?_getD,List.getElem?_eq_getElem h1,List.getElem?_eq_getElem h2]at this
theorem tu_eq {a:List UInt64} (ha:a.length=25):(tuP a 24).1=tuR a 24:=by
 have hl:(tuP a 24).1.length=25:=(tuP_len a 24).trans ha
 refine ext_getD (by rw [hl,tuR_len]) fun j hj=>?_
 obtain⟨h1,h2,_⟩:=tuP_at ha 24 (Nat.le_refl _)
 obtain⟨k1,k2⟩:=tuR_at a 24 (Nat.le_refl _)
 rcases pos_full ⟨j,by omega⟩with e|⟨s,e⟩
 ·have e0:j=0:=e
  subst e0
  rw [k2,h2 0 fun s hs=>by have:=pos_pos ⟨s+1,by omega⟩;simp only at this;omega]
 ·have e1:pos (s.1+1)=j:=e
  rw [←e1,h1 s.1 s.2,k1 s.1 s.2]
/-! Chi. -/
def chL (b:List UInt64) (y x:Nat):UInt64:=b.getD (y+x) 0^^^(~~~(b.getD (y+(x+1) % 5) 0)&&&b.getD (y+(x+2) % 5) 0)
def chI (row p:List UInt64) (y:Nat):Nat→List UInt64
 |0=>p
 |x+1=>(chI row p y x).set (y+x) (row.getD x 0^^^(~~~(row.getD ((x+1) % 5) 0)&&&row.getD ((x+2) % 5) 0))
theorem chI_len (row p:List UInt64) (y:Nat): ∀x,(chI row p y x).length=p.length
 |0=>rfl
 |x+1=>by rw [chI,List.length_set,chI_len row p y x]
def chP (a:List UInt64):Nat→List UInt64
 |0=>a
 |k+1=>chI (((chP a k).drop (5*k)).take 5) (chP a k) (5*k) 5
theorem chP_len (a:List UInt64): ∀k,(chP a k).length=a.length
 |0=>rfl
 |k+1=>by rw [chP,chI_len,chP_len a k]
def chR (b a:List UInt64):Nat→List UInt64
 |0=>a
 |i+1=>(chR b a i).set i (b.getD i 0^^^(~~~(b.getD (i- i % 5+(i+1) % 5) 0)&&&b.getD (i- i % 5+(i+2) % 5) 0))
theorem chR_len (b a:List UInt64): ∀i,(chR b a i).length=a.length
 |0=>rfl
 |i+1=>by rw [chR,List.length_set,chR_len b a i]
theorem chR_at {b a:List UInt64} (ha:a.length=25): ∀i,i≤25→ ∀j,j<i→(chR b a i).getD j 0=chL b (j- j % 5) (j % 5)
 |0,_,j,h=>absurd h (Nat.not_lt_zero _)
 |i+1,hi,j,h=>by
  rw [chR]
  by_cases e:j=i
  ·subst e
   rw [kgetD_eq (by rw [chR_len,ha];omega),chL,show j- j % 5+j % 5=j by omega,show(j % 5+1) % 5=(j+1) % 5 by omega,show(j % 5+2) % 5=(j+2) % 5 by omega]
  ·rw [kgetD_ne (by omega),chR_at ha i (by omega) j (by omega)]
theorem row_at {l:List UInt64} {y x:Nat} (hx:x<5):((l.drop y).take 5).getD x 0=l.getD (y+x) 0:=by
 rw [List.getD_eq_getElem?_getD,List.getElem?_take,if_pos hx,List.getElem?_drop, ←List.getD_eq_getElem?_getD]
theorem chI_at {row p:List UInt64} {y:Nat} (hp:y+5≤p.length): ∀x,x≤5→(∀s,s<x→(chI row p y x).getD (y+s) 0=row.getD s 0^^^(~~~(row.getD ((s+1) % 5) 0)&&&row.getD ((s+2) % 5) 0))∧(∀j,j<y∨y+x≤j→(chI row p y x).getD j 0=p.getD j 0)
 |0,_=>⟨fun s h=>absurd h (Nat.not_lt_zero _),fun j _=>rfl⟩
 |x+1,hx=>by
  obtain⟨h1,h2⟩:=chI_at hp x (by omega)
  refine⟨fun s hs=>?_,fun j hj=>?_⟩
  ·rw [chI]
   by_cases e:s=x
   ·subst e
    rw [kgetD_eq (by rw [chI_len];omega)]
   ·rw [kgetD_ne (by omega),h1 s (by omega)]
  ·rw [chI,kgetD_ne (by omega),h2 j (by omega)]
theorem chP_at {b:List UInt64} (hb:b.length=25): ∀k,k≤5→(∀j,j<5*k→(chP b k).getD j 0=chL b (j- j % 5) (j % 5))∧(∀j,5*k≤j→(chP b k).getD j 0=b.getD j 0)
 |0,_=>⟨fun j h=>absurd h (by omega),fun j _=>rfl⟩
 |k+1,hk=>by
  obtain⟨h1,h2⟩:=chP_at hb k (by omega)
  have hl:(chP b k).length=25:=(chP_len b k).trans hb
  obtain⟨c1,c2⟩:=chI_at (row:=((chP b k).drop (5*k)).take 5) (p:=chP b k) (y:=5*k) (by omega) 5 (Nat.le_refl _)
  refine⟨fun j hj=>?_,fun j hj=>?_⟩
  ·rw [chP]
   by_cases e:j<5*k
   ·rw [c2 j (.inl e),h1 j e]
   ·obtain⟨s,rfl⟩: ∃s,j=5*k+s:=⟨j- 5*k,by omega⟩
    rw [c1 s (by omega),row_at (by omega),row_at (Nat.mod_lt _ (by decide)),row_at (Nat.mod_lt _ (by decide)),h2 _ (by omega),h2 _ (by omega),h2 _ (by omega),chL,show 5*k+s- (5*k+s) % 5=5*k by omega,show(5*k+s) % 5=s by omega]
  ·rw [chP,c2 j (.inr (by omega)),h2 j (by omega)]
theorem ch_eq {b a:List UInt64} (hb:b.length=25) (ha:a.length=25):chP b 5=chR b a 25:=by
 have hl:(chP b 5).length=25:=(chP_len b 5).trans hb
 refine ext_getD (by rw [hl,chR_len,ha]) fun j hj=>?_
 rw [(chP_at hb 5 (Nat.le_refl _)).1 j (by omega),chR_at ha 25 (Nat.le_refl _) j (by omega)]
/-! The permutation. -/
def kRound (a:List UInt64) (k:Nat):List UInt64:=(chP (tuP (theta a) 24).1 5).set 0 ((chP (tuP (theta a) 24).1 5).getD 0 0^^^rcL.getD k 0)
theorem kRound_len (a:List UInt64) (k:Nat):(kRound a k).length=a.length:=by rw [kRound,List.length_set,chP_len,tuP_len,theta_len]
def prm (a:List UInt64):Nat→List UInt64
 |0=>a
 |k+1=>kRound (prm a k) k
theorem prm_len (a:List UInt64): ∀k,(prm a k).length=a.length
 |0=>rfl
 |k+1=>by rw [prm,kRound_len,prm_len a k]
/-! Blocks. -/
def abI (a:List UInt64) (l:List UInt8):Nat→List UInt64
 |0=>a
 |i+1=>(abI a l i).set (i/8) ((abI a l i).getD (i/8) 0^^^shl64 (UInt64.ofNat (l.getD i 0).toNat) (i % 8*8))
theorem abI_len (a:List UInt64) (l:List UInt8): ∀i,(abI a l i).length=a.length
 |0=>rfl
 |i+1=>by rw [abI,List.length_set,abI_len a l i]
def absorb (a:List UInt64) (l:List UInt8):List UInt64:=prm (abI a l 136) 24
theorem absorb_len (a:List UInt64) (l:List UInt8):(absorb a l).length=a.length:=by rw [absorb,prm_len,abI_len]
def absN (l:List UInt8):Nat→List UInt64
 |0=>List.replicate 25 0
 |k+1=>absorb (absN l k) ((l.drop (136*k)).take 136)
theorem absN_len (l:List UInt8): ∀k,(absN l k).length=25
 |0=>List.length_replicate
 |k+1=>by rw [absN,absorb_len,absN_len l k]
/-- The last block: what is left, a one, naughts, a one. -/
def padL (r:List UInt8):List UInt8:=
 let z:=(r++List.replicate (136- r.length) 0).set r.length 1
 z.set 135 (z.getD 135 0 |||128)
def ouI (a:List UInt64):Nat→List UInt8
 |0=>List.replicate 32 0
 |i+1=>(ouI a i).set i (UInt8.ofNat (shr64 (a.getD (i/8) 0) (i % 8*8)).toNat)
theorem ouI_len (a:List UInt64): ∀i,(ouI a i).length=32
 |0=>List.length_replicate
 |i+1=>by rw [ouI,List.length_set,ouI_len a i]
/-- Keccak-256. -/
def kec (l:List UInt8):List UInt8:=ouI (absorb (absN l (l.length/136)) (padL (l.drop (136*(l.length/136))))) 32
theorem kec_len (l:List UInt8):(kec l).length=32:=ouI_len ..
end Go.Proofs.Ytdpjbefeabokgaa
/- Package hash: the steps of Keccak's permutation. No condition. -/
namespace Go.Proofs.Ytdpjbefeabokgaa
open Go Go.RowKit
section
variable {P : Program} {n : Nat} {l : List (Nat × Value)} {E : World} {L Ls : List Heaplet} {X Y : Act → World → Prop} {d : Nat} {t ty e : TypeId} {x : Operand}
theorem op_toArr {alen size len cap:Nat} {ad:Addr} {pos:_} {aft:_} {g:_} (s:NxF P n l E L Ls ⟨some d,.sliceToArrayPointer t x,ty,pos,aft,g⟩ X Y) (ht:aelt P t=some (alen,e,size)) (hx:ev l x=some (.slice (some ad) len cap)) (hl:alen≤len) (hn:Nat.ble (d+1) n=true) (h:At n ((d,.pointer (some ad))::l) E L Y):At n l E L X:=by
 obtain⟨hu,i,hi,hsz⟩:=aelt_spec ht
 refine op_val s (fun a w hf hw=>?_) rfl hn h
 simp [execOp,hf.eval hx,Instr.arrayAt,run_underlying hu,Nat.not_lt.2 hl]
end
theorem getT {a:List UInt64} {T:List Value} {j:Nat} (h:j<a.length):(u64s a++T)[0+j*1]? =some (.int .u64 ((a.getD j 0).toNat:Int)):=by
 rw [Nat.zero_add,Nat.mul_one,List.getElem?_append_left (by simpa [u64s]using h)]
 exact get64 h
theorem setT {a:List UInt64} {T:List Value} {j:Nat} {x:UInt64} (h:j<a.length):setL (u64s a++T) (0+j*1) [.int .u64 (x.toNat:Int)]=u64s (a.set j x)++T:=by
 rw [Nat.zero_add,Nat.mul_one,setL,setL,List.set_append_left _ _ (by simpa [u64s]using h),set_u64s]
theorem lenT {a:List UInt64} {T:List Value} :(u64s a++T).length=a.length+T.length:=by simp [u64s]
theorem Rot_f (x:UInt64) (k:Nat) (hk:k<64):Fn Try.prog 84 #[.int .u64 (x.toNat:Int),.int .i64 (k:Int)] [] [] (fun v L=>v=.int .u64 ((rolN x k).toNat:Int)∧L= []):=by
 have e2:(UInt64.ofNat k).toNat=k:=by rw [UInt64.toNat_ofNat'];omega
 have e:UInt64.ofNat k&&&63=UInt64.ofNat k:=by
  apply UInt64.toNat_inj.1
  rw [UInt64.toNat_and,e2,show(63:UInt64).toNat=2^6- 1 from rfl,Nat.and_two_pow_sub_one_eq_mod,Nat.mod_eq_of_lt (show k<2^6 from hk)]
 have e3:(64- UInt64.ofNat k).toNat=64- k:=by
  rw [UInt64.toNat_sub_of_le _ _ (UInt64.le_iff_toNat_le.2 (by rw [e2];exact Nat.le_of_lt hk)),e2];rfl
 refine Fn.enter (vs:= [.int .u64 (x.toNat:Int),.int .i64 (k:Int)]) Try.func84 rfl rfl rfl ?_
 intro E R hR
 change At _ _ E [R] _
 refine At.seq fun _ s_1=>At.region (aE (aD rfl) rfl rfl (aB (aA (s_1 (At.seq fun _ s_2=>At.region (aC (aD rfl) rfl rfl (op_conv64 (aD rfl) (und_some Try.underlying3) Try.underlying75 rfl (show _=(((k:Nat)):Int)from by omega) rfl ?_)))))))
 refine op_andU (b:=63) (aD rfl) rfl rfl rfl ?_
 rw [e]
 refine aE (aD rfl) rfl rfl (aB (aA (s_2 (At.seq fun _ s_3=>At.region (aC (aD rfl) rfl rfl (aC (aD rfl) rfl rfl (op_shlU (aD rfl) rfl rfl (show _=(((k:Nat)):Int)from by omega) rfl ?_)))))))
 refine aC (aD rfl) rfl rfl (aC (aD rfl) rfl rfl (op_subU (a:=64) (aD rfl) rfl rfl rfl (op_shrU (aD rfl) rfl rfl (show _=(((64- k:Nat)):Int)from by omega) rfl ?_)))
 refine op_orU (aD rfl) rfl rfl rfl (aE (aD rfl) rfl rfl (aB (aA (s_3 (At.ret ((aQ (L1:= []) rfl (.tmp rfl .nil) (.refl _) (.refl _) ?_)))))))
 exact⟨by rw [rol_go hk],rfl⟩
set_option maxRecDepth 100000 in
theorem FTheta_f {N:Heaplet} {b0:Nat} {e0:TypeId} {a:List UInt64} {T:List Value} (ha:a.length=25) (B0:Blk N b0 e0 (u64s a++T)):Fn Try.prog 75 #[.pointer (some ⟨b0,0,none⟩)] [N] [] (fun v L=> ∃M,v=.tuple #[]∧L= [M]∧Blk M b0 e0 (u64s (theta a)++T)):=by
 obtain⟨N0,h0⟩: ∃N0,N0=N:=⟨_,rfl⟩
 rw [←h0]at B0⊢
 refine Fn.enter (vs:= [.pointer (some ⟨b0,0,none⟩)]) Try.func75 rfl rfl rfl ?_
 intro E R hR
 change At _ _ E [N0,R] _
 refine At.seq fun _ s_1=>At.region (op_alloc (aX rfl) ze108 rfl (fun N2 b2 B2=>?_))
 change Blk N2 b2 _ [.int .u64 0,.int .u64 0,.int .u64 0,.int .u64 0,.int .u64 0]at B2
 change Blk N2 b2 _ (u64s (thC a 0))at B2
 refine aB (aA (s_1 (At.seq fun _ s_2=>At.seq fun _ s_3=>At.region (aC (aD rfl) rfl rfl (aC (aD rfl) rfl rfl (aB (aA (s_3 (At.block (At.loop (fun fr_ hp_ ms_=> ∃(i:Nat) (N2:Heaplet),fr_= [(0,.pointer (some ⟨b0,0,none⟩)),(2,.pointer (some ⟨b2,0,none⟩)),(7,.pointer (some ⟨b0,0,none⟩)),(8,.int .i64 (i:Int))]∧hp_= [N2,N0,R]∧25- i=ms_∧(i≤25)∧(Blk N2 b2 108 (u64s (thC a i)))) ?_ (.refl _) ⟨0,N2,rfl,rfl,rfl,by omega,B2⟩ ?_))))))))))
 ·exact .cons (by first|exact aK rfl (by omega)|rfl) (.cons (by first|exact aK rfl (by omega)|rfl) (.cons (by first|exact aK rfl (by omega)|rfl) (.cons (by first|exact aK rfl (by omega)|rfl) .nil)))
 rintro _ _ _ ⟨i,N2,rfl,rfl,rfl,hi,B2⟩
 have hcl:=thC_len a i
 refine At.seq fun _ s_4=>At.region (op_lss (aD rfl) rfl rfl rfl (aB (aA (s_4 (At.seq fun _ s_5=>aL rfl (fun c9=>?_) (fun c9=>?_))))))
 ·refine At.skip (aA (s_5 (At.seq fun _ s_6=>At.block (At.seq fun _ s_7=>At.drawn [] [0,1,2,3,4,5] (by kernel_rfl) (by kernel_rfl) (aC (aI rfl rfl rfl (by kernel_rfl)) rfl rfl (bC (aI rfl rfl rfl (by kernel_rfl)) rfl rfl (op_idxA (aI rfl rfl rfl (by kernel_rfl)) ae90 rfl rfl (show _=(((i:Nat)):Int)from by omega) (by omega) rfl ?_)))))))
  refine aJ (aI rfl rfl rfl (by kernel_rfl)) sc78 rfl B0 (by first|exact get64A (by omega)|rfl|exact getT (by first|omega|(rw [thA_len];omega))) aV rfl ?_
  refine aE (aI rfl rfl rfl (by kernel_rfl)) rfl rfl (aE (aI rfl rfl rfl (by kernel_rfl)) rfl rfl (At.oneNil (aA (s_7 (At.region (aC (aD rfl) rfl rfl (op_rem (aD rfl) rfl rfl (by omega) (by omega) rfl (op_idxA (aD rfl) ae108 rfl rfl (show _=(((i % 5:Nat)):Int)from by omega) (by omega) rfl ?_))))))))
  refine aJ (aD rfl) sc78 rfl B2 (by first|exact get64A (by omega)|rfl|exact getT (by first|omega|(rw [thA_len];omega))) aN rfl ?_
  refine aC (aD rfl) rfl rfl (op_xorU (aD rfl) rfl rfl rfl (op_idxA (aD rfl) ae108 rfl rfl (show _=(((i % 5:Nat)):Int)from by omega) (by omega) rfl ?_))
  refine aW (nxl rfl) sz78 rfl rfl rfl rfl rfl B2 (by simp<;>omega) sel0 (fun N2 B2=>?_)
  rw [set64A]at B2
  refine aB (aP (aA (s_6 (At.region (aO (aD rfl) rfl rfl (by omega) (by omega) rfl (aC (aD rfl) rfl rfl (aB (aA (bB ?_ (.refl _) ⟨i+1,N2,rfl,rfl,rfl,by omega,B2⟩ ?_)))))))))
  ·exact .cons (by first|exact aK rfl (by omega)|rfl) (.cons (by first|exact aK rfl (by omega)|rfl) (.cons (by first|exact aK rfl (by omega)|rfl) (.cons (by first|exact aK rfl (by omega)|rfl) .nil)))
  ·omega
 refine At.exit (aF (aF (aU (aA (s_2 (At.seq fun _ s_8=>At.region (aC (aD rfl) rfl rfl (aB (aA (s_8 (At.block ?_)))))))))))
 obtain rfl:i=25:=by omega
 change Blk N0 b0 _ (u64s (thA (thC a 25) a 0)++T)at B0
 refine At.loop (fun fr_ hp_ ms_=> ∃(j:Nat) (N0:Heaplet),fr_= [(0,.pointer (some ⟨b0,0,none⟩)),(2,.pointer (some ⟨b2,0,none⟩)),(22,.int .i64 (j:Int))]∧hp_= [N2,N0,R]∧25- j=ms_∧(j≤25)∧(Blk N0 b0 e0 (u64s (thA (thC a 25) a j)++T))) ?_ (.refl _) ⟨0,N0,rfl,rfl,rfl,by omega,B0⟩ ?_
 ·exact .cons (by first|exact aK rfl (by omega)|rfl) (.cons (by first|exact aK rfl (by omega)|rfl) (.cons (by first|exact aK rfl (by omega)|rfl) .nil))
 rintro _ _ _ ⟨j,N0,rfl,rfl,rfl,hj,B0⟩
 have hal:=thA_len (thC a 25) a j
 refine At.seq fun _ s_9=>At.region (op_lss (aD rfl) rfl rfl rfl (aB (aA (s_9 (At.seq fun _ s_10=>aL rfl (fun c23=>?_) (fun c23=>?_))))))
 ·refine At.skip (aA (s_10 (At.seq fun _ s_11=>At.block (At.seq fun _ s_12=>At.region (aC (aD rfl) rfl rfl (aE (aD rfl) rfl rfl (aB (aA (s_12 (At.seq fun _ s_13=>At.region (aC (aD rfl) rfl rfl (op_rem (aD rfl) rfl rfl (by omega) (by omega) rfl (aE (aD rfl) rfl rfl (aB (aA (s_13 (At.drawn [20] [0,1,2,3,4,5,6,7,8,9,10,11,12,13,14,18,15,16,17,19,20] (by kernel_rfl) (by kernel_rfl) (aC (aI rfl rfl rfl (by kernel_rfl)) rfl rfl (aC (aI rfl rfl rfl (by kernel_rfl)) rfl rfl (bC (aI rfl rfl rfl (by kernel_rfl)) rfl rfl ?_))))))))))))))))))))
  refine op_idxA (aI rfl rfl rfl (by kernel_rfl)) ae90 rfl rfl (show _=(((j:Nat)):Int)from by omega) (by omega) rfl ?_
  refine aJ (aI rfl rfl rfl (by kernel_rfl)) sc78 rfl B0 (by first|exact get64A (by omega)|rfl|exact getT (by first|omega|(rw [thA_len];omega))) aV rfl ?_
  refine aC (aI rfl rfl rfl (by kernel_rfl)) rfl rfl (aO (aI rfl rfl rfl (by kernel_rfl)) rfl rfl (by omega) (by omega) rfl (op_rem (aI rfl rfl rfl (by kernel_rfl)) rfl rfl (by omega) (by omega) rfl (op_idxA (aI rfl rfl rfl (by kernel_rfl)) ae108 rfl rfl (show _=((((j % 5+4) % 5:Nat)):Int)from by omega) (by omega) rfl ?_)))
  refine aJ (aI rfl rfl rfl (by kernel_rfl)) sc78 rfl B2 (by first|exact get64A (by omega)|rfl|exact getT (by first|omega|(rw [thA_len];omega))) aN rfl ?_
  refine aC (aI rfl rfl rfl (by kernel_rfl)) rfl rfl (aO (aI rfl rfl rfl (by kernel_rfl)) rfl rfl (by omega) (by omega) rfl (op_rem (aI rfl rfl rfl (by kernel_rfl)) rfl rfl (by omega) (by omega) rfl (op_idxA (aI rfl rfl rfl (by kernel_rfl)) ae108 rfl rfl (show _=((((j % 5+1) % 5:Nat)):Int)from by omega) (by omega) rfl ?_)))
  refine aJ (aI rfl rfl rfl (by kernel_rfl)) sc78 rfl B2 (by first|exact get64A (by omega)|rfl|exact getT (by first|omega|(rw [thA_len];omega))) aN rfl ?_
  refine bC (aI rfl rfl rfl (by kernel_rfl)) rfl rfl (aH (nxoa rfl rfl rfl) (.cons rfl (.cons rfl .nil)) (Rot_f ((thC a 25).getD ((j % 5+1) % 5) 0) 1 (by decide)) Try.func84 rfl rfl (by simp) rfl ?_)
  rintro v42 L42 ⟨rfl,rfl⟩
  change At _ _ _ [N2,N0,R] _
  refine op_xorU (aI rfl rfl rfl (by kernel_rfl)) rfl rfl rfl (op_xorU (aI rfl rfl rfl (by kernel_rfl)) rfl rfl rfl (op_idxA (aI rfl rfl rfl (by kernel_rfl)) ae90 rfl rfl (show _=(((j:Nat)):Int)from by omega) (by omega) rfl ?_))
  refine aW (nxos rfl rfl rfl rfl) sz78 rfl rfl rfl rfl rfl B0 (by rw [lenT];simp;omega) sel1 (fun N0 B0=>?_)
  rw [setT (by omega)]at B0
  refine At.oneNil (aP (aA (s_11 (At.region (aO (aD rfl) rfl rfl (by omega) (by omega) rfl (aC (aD rfl) rfl rfl (aB (aA (At.perm sel2 (At.perm sel1 (At.perm sel2 (bB ?_ (.refl _) ⟨j+1,N0,rfl,rfl,rfl,by omega,B0⟩ ?_))))))))))))
  ·exact .cons (by first|exact aK rfl (by omega)|rfl) (.cons (by first|exact aK rfl (by omega)|rfl) (.cons (by first|exact aK rfl (by omega)|rfl) .nil))
  ·omega
 refine At.exit (aF (aF (aU (At.sub (L':= [N0,R]) (.cons _ (.cons_cons _ (.cons_cons _ (.slnil)))) (At.retNE (L1:= [N0]) rfl .nil rfl (.refl _) (.refl _) ?_)))))
 obtain rfl:j=25:=by omega
 exact⟨N0,rfl,rfl,B0⟩
set_option maxRecDepth 100000 in
set_option maxHeartbeats 1000000 in
theorem FTurn_f {N:Heaplet} {b0:Nat} {e0:TypeId} {a:List UInt64} {T:List Value} (ha:a.length=25) (B0:Blk N b0 e0 (u64s a++T)):Fn Try.prog 76 #[.pointer (some ⟨b0,0,none⟩)] [N] [] (fun v L=> ∃M,v=.tuple #[]∧L= [M]∧Blk M b0 e0 (u64s (tuP a 24).1++T)):=by
 obtain⟨N0,h0⟩: ∃N0,N0=N:=⟨_,rfl⟩
 rw [←h0]at B0⊢
 refine Fn.enter (vs:= [.pointer (some ⟨b0,0,none⟩)]) Try.func76 rfl rfl rfl ?_
 intro E R hR
 change At _ _ E [N0,R] _
 refine At.seq fun _ s_1=>At.drawn [] [0,1,2,3,4,5,6] (by kernel_rfl) (by kernel_rfl) (aC (aI rfl rfl rfl (by kernel_rfl)) rfl rfl (bC (aI rfl rfl rfl (by kernel_rfl)) rfl rfl (op_idxA (aI rfl rfl rfl (by kernel_rfl)) ae90 rfl rfl (show _=(((1:Nat)):Int)from by omega) (by omega) rfl ?_)))
 refine aJ (aI rfl rfl rfl (by kernel_rfl)) sc78 rfl B0 (by first|exact get64A (by omega)|rfl|exact getT (by omega)) aN rfl ?_
 refine aE (aI rfl rfl rfl (by kernel_rfl)) rfl rfl (aE (aI rfl rfl rfl (by kernel_rfl)) rfl rfl (aE (aI rfl rfl rfl (by kernel_rfl)) rfl rfl (At.oneNil (aA (s_1 (At.seq fun _ s_2=>At.region (aC (aD rfl) rfl rfl (aB (aA (s_2 (At.block (At.loop (fun fr_ hp_ ms_=> ∃(t:Nat) (N0:Heaplet),fr_= [(0,.pointer (some ⟨b0,0,none⟩)),(2,.int .i64 ((pX t).1:Int)),(3,.int .i64 ((pX t).2:Int)),(4,.int .u64 ((tuP a t).2.toNat:Int)),(11,.int .i64 (t:Int))]∧hp_= [N0,R]∧24- t=ms_∧(t≤24)∧(Blk N0 b0 e0 (u64s (tuP a t).1++T))) ?_ (.refl _) ⟨0,N0,rfl,rfl,rfl,by omega,B0⟩ ?_))))))))))))
 ·exact .cons (by first|exact aK rfl (by omega)|rfl) (.cons (by first|exact aK rfl (by omega)|rfl) (.cons (by first|exact aK rfl (by omega)|rfl) (.cons (by first|exact aK rfl (by omega)|rfl) (.cons (by first|exact aK rfl (by omega)|rfl) .nil))))
 rintro _ _ _ ⟨t,N0,rfl,rfl,rfl,ht,B0⟩
 have hal:=(tuP_len a t).trans ha
 have hx:=pX_lt t
 have hp1:(pX (t+1)).1=(pX t).2:=rfl
 have hp2:(pX (t+1)).2=(2*(pX t).1+3*(pX t).2) % 5:=rfl
 have hpos:pos (t+1)=(pX t).2+5*((2*(pX t).1+3*(pX t).2) % 5):=rfl
 have hpl:=pos_lt (t+1)
 have hm:((t:Int)+1)*((t:Int)+2)=(((t+1)*(t+2):Nat):Int):=by simp
 have hm2:(t+1)*(t+2)≤25*26:=Nat.mul_le_mul (by omega) (by omega)
 obtain⟨m,hmm⟩: ∃m,(t+1)*(t+2)=m:=⟨_,rfl⟩
 have hrot:rot t=m/2 % 64:=by rw [rot,hmm]
 rw [hmm]at hm hm2
 refine At.seq fun _ s_3=>At.region (op_lss (aD rfl) rfl rfl rfl (aB (aA (s_3 (At.seq fun _ s_4=>aL rfl (fun c12=>?_) (fun c12=>?_))))))
 ·refine At.skip (aA (s_4 (At.seq fun _ s_5=>At.block (At.seq fun _ s_6=>At.region (aC (aD rfl) rfl rfl (aE (aD rfl) rfl rfl (aB (aA (s_6 (At.seq fun _ s_7=>At.region (aC (aD rfl) rfl rfl (aC (aD rfl) rfl rfl (op_mulI (aD rfl) rfl rfl (by omega) (by omega) rfl (aC (aD rfl) rfl rfl (op_mulI (aD rfl) rfl rfl (by omega) (by omega) rfl (aO (aD rfl) rfl rfl (by omega) (by omega) rfl (op_rem (aD rfl) rfl rfl (by omega) (by omega) rfl (aE (aD rfl) rfl rfl (aE (aD rfl) rfl rfl ?_)))))))))))))))))))
  refine aB (aA (s_7 (At.seq fun _ s_8=>At.region (aC (aD rfl) rfl rfl (aC (aD rfl) rfl rfl (op_mulI (aD rfl) rfl rfl (by omega) (by omega) rfl (aO (aD rfl) rfl rfl (by omega) (by omega) rfl (aE (aD rfl) rfl rfl (aB (aA (s_8 (At.drawn [18] [0,1,2,3,4,5,6,7,8,9,11,12,13,14,15,16,10,17,18,19] (by kernel_rfl) (by kernel_rfl) (aC (aI rfl rfl rfl (by kernel_rfl)) rfl rfl (aC (aI rfl rfl rfl (by kernel_rfl)) rfl rfl (aC (aI rfl rfl rfl (by kernel_rfl)) rfl rfl (aC (aI rfl rfl rfl (by kernel_rfl)) rfl rfl (aO (aI rfl rfl rfl (by kernel_rfl)) rfl rfl (by omega) (by omega) rfl (aC (aI rfl rfl rfl (by kernel_rfl)) rfl rfl (aO (aI rfl rfl rfl (by kernel_rfl)) rfl rfl (by omega) (by omega) rfl ?_)))))))))))))))))))
  -- an operation that writes, not last
  refine op_mulI (aI rfl rfl rfl (by kernel_rfl)) rfl rfl (by rw [hm];omega) (by rw [hm];omega) rfl ?_
  rw [hm]
  refine op_quoI (aI rfl rfl rfl (by kernel_rfl)) rfl rfl (by omega) (by omega) (by omega) rfl (op_rem (aI rfl rfl rfl (by kernel_rfl)) rfl rfl (by omega) (by omega) rfl ?_)
  rw [show(m:Int)/2 % 64=((rot t:Nat):Int)from by omega]
  refine aC (aI rfl rfl rfl (by kernel_rfl)) rfl rfl (aC (aI rfl rfl rfl (by kernel_rfl)) rfl rfl (bC (aI rfl rfl rfl (by kernel_rfl)) rfl rfl (op_idxA (aI rfl rfl rfl (by kernel_rfl)) ae90 rfl rfl (show _=(((pos (t+1):Nat)):Int)from by omega) (by omega) rfl ?_)))
  refine aJ (aI rfl rfl rfl (by kernel_rfl)) sc78 rfl B0 (by first|exact get64A (by omega)|rfl|exact getT (by omega)) aN rfl ?_
  refine bC (aI rfl rfl rfl (by kernel_rfl)) rfl rfl (aH (nxoa rfl rfl rfl) (.cons rfl (.cons rfl .nil)) (Rot_f (tuP a t).2 (rot t) (by omega)) Try.func84 rfl rfl (by simp) rfl ?_)
  rintro v35 L35 ⟨rfl,rfl⟩
  change At _ _ _ [N0,R] _
  refine op_idxA (aI rfl rfl rfl (by kernel_rfl)) ae90 rfl rfl (show _=(((pos (t+1):Nat)):Int)from by omega) (by omega) rfl ?_
  refine aW (nxos rfl rfl rfl rfl) sz78 rfl rfl rfl rfl rfl B0 (by rw [lenT];simp;omega) sel0 (fun N0 B0=>?_)
  rw [setT (by omega)]at B0
  refine aE (aI rfl rfl rfl (by kernel_rfl)) rfl rfl (At.oneNil (aP (aA (s_5 (At.region (aO (aD rfl) rfl rfl (by omega) (by omega) rfl (aC (aD rfl) rfl rfl (aB (aA (bB ?_ (.refl _) ⟨t+1,N0,rfl,rfl,rfl,by omega,B0⟩ ?_))))))))))
  ·exact .cons (by first|exact aK rfl (by omega)|rfl) (.cons (by first|exact aK rfl (by omega)|rfl) (.cons (by first|exact aK rfl (by omega)|rfl) (.cons (by first|exact aK rfl (by omega)|rfl) (.cons (by first|exact aK rfl (by omega)|rfl) .nil))))
  ·omega
 refine At.exit (aF (aF (aU (At.retNE (L1:= [N0]) rfl .nil rfl (.refl _) (.refl _) ?_))))
 obtain rfl:t=24:=by omega
 exact⟨N0,rfl,rfl,B0⟩
end Go.Proofs.Ytdpjbefeabokgaa
/- Package hash: chi, the constants, Keccak's permutation. No condition. -/
namespace Go.Proofs.Ytdpjbefeabokgaa
open Go Go.RowKit
theorem cutL {a m b:List Value} {k n:Nat} (ha:a.length=k) (hm:m.length=n):((a++(m++b)).drop k).take n=m:=by
 subst ha;subst hm
 rw [List.drop_left,List.take_left]
theorem all64 (l:List UInt64):(u64s l).all (·.oneCell')=true:=List.all_eq_true.2 (one_u64s l)
theorem row_cells {a:List UInt64} {T:List Value} {y:Nat} (h:y+5≤a.length):((u64s a++T).drop (0+y*1)).take 5=u64s ((a.drop y).take 5):=by
 have e:u64s a=u64s (a.take y)++(u64s ((a.drop y).take 5)++u64s (a.drop (y+5))):=by
  conv=>lhs;rw [←List.take_append_drop y a, ←List.take_append_drop 5 (a.drop y),List.drop_drop]
  simp [u64s]
 rw [e,Nat.zero_add,Nat.mul_one,List.append_assoc,List.append_assoc]
 exact cutL (by simp [u64s];omega) (by simp [u64s];omega)
set_option maxRecDepth 100000 in
set_option maxHeartbeats 1000000 in
theorem FChi_f {N:Heaplet} {b0:Nat} {e0:TypeId} {a:List UInt64} {T:List Value} (ha:a.length=25) (B0:Blk N b0 e0 (u64s a++T)):Fn Try.prog 77 #[.pointer (some ⟨b0,0,none⟩)] [N] [] (fun v L=> ∃M,v=.tuple #[]∧L= [M]∧Blk M b0 e0 (u64s (chP a 5)++T)):=by
 obtain⟨N0,h0⟩: ∃N0,N0=N:=⟨_,rfl⟩
 rw [←h0]at B0⊢
 refine Fn.enter (vs:= [.pointer (some ⟨b0,0,none⟩)]) Try.func77 rfl rfl rfl ?_
 intro E R hR
 change At _ _ E [N0,R] _
 refine At.seq fun _ s_1=>At.region (aE (aD rfl) rfl rfl (aB (aA (s_1 (At.block (At.loop (fun fr_ hp_ ms_=> ∃(k:Nat) (N0:Heaplet),fr_= [(0,.pointer (some ⟨b0,0,none⟩)),(2,.int .i64 (5*(k:Int)))]∧hp_= [N0,R]∧5- k=ms_∧(k≤5)∧(Blk N0 b0 e0 (u64s (chP a k)++T))) ?_ (.refl _) ⟨0,N0,rfl,rfl,rfl,by omega,B0⟩ ?_))))))
 ·exact .cons (by first|exact aK rfl (by omega)|rfl) (.cons (by first|exact aK rfl (by omega)|rfl) .nil)
 rintro _ _ _ ⟨k,N0,rfl,rfl,rfl,hk,B0⟩
 have hal:=(chP_len a k).trans ha
 refine At.seq fun _ s_2=>At.seq fun _ s_3=>At.region (aC (aD rfl) rfl rfl (op_lss (aD rfl) rfl rfl rfl (aB (aA (s_3 (aL rfl (fun c6=>?_) (fun c6=>?_)))))))
 ·refine At.skip (aA (s_2 (At.seq fun _ s_4=>At.block (At.seq fun _ s_5=>At.region (aC (aD rfl) rfl rfl (bC (aD rfl) rfl rfl (aC (aD rfl) rfl rfl (aC (aD rfl) rfl rfl (aO (aD rfl) rfl rfl (by omega) (by omega) rfl (op_sliceA (aD rfl) ae90 rfl (.some rfl (show _=(((5*k:Nat)):Int)from by omega)) (.some rfl (show _=(((5*k+5:Nat)):Int)from by omega)) .none (by omega) (by omega) (by omega) (by simp) rfl ?_))))))))))
  rw [if_neg (by omega)]
  have hrl:(((chP a k).drop (5*k)).take 5).length=5:=by rw [List.length_take,List.length_drop];omega
  have hrc:=row_cells (a:=chP a k) (T:=T) (y:=5*k) (by omega)
  obtain⟨row,hrow⟩: ∃row,row=((chP a k).drop (5*k)).take 5:=⟨_,rfl⟩
  rw [←hrow]at hrl hrc
  refine op_toArr (aD rfl) ae108 rfl (by omega) rfl (op_loadAggB (ds:=u64s row) (aD rfl) ag108 rfl B0 hrc (by simp [u64s,hrl]) aN rfl ?_)
  refine op_alloc (aX rfl) ze108 rfl (fun N3 b3 B3=>?_)
  change Blk N3 b3 _ [.int .u64 0,.int .u64 0,.int .u64 0,.int .u64 0,.int .u64 0]at B3
  refine aW (nxl rfl) sz108 rfl rfl rfl (by simp [u64s,hrl]) (all64 _) B3 (by simp [u64s,hrl]) sel0 (fun N3 B3=>?_)
  rw [setL_whole (by simp [u64s,hrl])]at B3
  refine aB (aA (s_5 (At.seq fun _ s_6=>At.region (aC (aD rfl) rfl rfl (aB (aA (s_6 (At.block ?_))))))))
  change Blk N0 b0 _ (u64s (chI row (chP a k) (5*k) 0)++T)at B0
  refine At.loop (fun fr_ hp_ ms_=> ∃(x:Nat) (N0:Heaplet),fr_= [(0,.pointer (some ⟨b0,0,none⟩)),(2,.int .i64 (5*(k:Int))),(3,.pointer (some ⟨b3,0,none⟩)),(17,.int .i64 (x:Int))]∧hp_= [N3,N0,R]∧5- x=ms_∧(x≤5)∧(Blk N0 b0 e0 (u64s (chI row (chP a k) (5*k) x)++T))) ?_ (.refl _) ⟨0,N0,rfl,rfl,rfl,by omega,B0⟩ ?_
  ·exact .cons (by first|exact aK rfl (by omega)|rfl) (.cons (by first|exact aK rfl (by omega)|rfl) (.cons (by first|exact aK rfl (by omega)|rfl) (.cons (by first|exact aK rfl (by omega)|rfl) .nil)))
  rintro _ _ _ ⟨x,N0,rfl,rfl,rfl,hx,B0⟩
  have hcl:=chI_len row (chP a k) (5*k) x
  refine At.seq fun _ s_7=>At.region (op_lss (aD rfl) rfl rfl rfl (aB (aA (s_7 (At.seq fun _ s_8=>aL rfl (fun c18=>?_) (fun c18=>?_))))))
  ·refine At.skip (aA (s_8 (At.seq fun _ s_9=>At.block (At.seq fun _ s_10=>At.region (aC (aD rfl) rfl rfl (aE (aD rfl) rfl rfl (aB (aA (s_10 (At.drawn [22] [0,1,2,3,4,5,6,7,8,9,10,11,12,13,14,15,16,17,18,19,20,21,22] (by kernel_rfl) (by kernel_rfl) (aC (aI rfl rfl rfl (by kernel_rfl)) rfl rfl (aC (aI rfl rfl rfl (by kernel_rfl)) rfl rfl (aC (aI rfl rfl rfl (by kernel_rfl)) rfl rfl (aO (aI rfl rfl rfl (by kernel_rfl)) rfl rfl (by omega) (by omega) rfl (aC (aI rfl rfl rfl (by kernel_rfl)) rfl rfl (op_idxA (aI rfl rfl rfl (by kernel_rfl)) ae108 rfl rfl (show _=(((x:Nat)):Int)from by omega) (by omega) rfl ?_))))))))))))))))
   refine aJ (aI rfl rfl rfl (by kernel_rfl)) sc78 rfl B3 (by first|exact get64A (by omega)|rfl) aN rfl ?_
   refine aC (aI rfl rfl rfl (by kernel_rfl)) rfl rfl (aO (aI rfl rfl rfl (by kernel_rfl)) rfl rfl (by omega) (by omega) rfl (op_rem (aI rfl rfl rfl (by kernel_rfl)) rfl rfl (by omega) (by omega) rfl (op_idxA (aI rfl rfl rfl (by kernel_rfl)) ae108 rfl rfl (show _=((((x+1) % 5:Nat)):Int)from by omega) (by omega) rfl ?_)))
   refine aJ (aI rfl rfl rfl (by kernel_rfl)) sc78 rfl B3 (by first|exact get64A (by omega)|rfl) aN rfl ?_
   refine op_compU (aI rfl rfl rfl (by kernel_rfl)) rfl rfl (aC (aI rfl rfl rfl (by kernel_rfl)) rfl rfl (aO (aI rfl rfl rfl (by kernel_rfl)) rfl rfl (by omega) (by omega) rfl (op_rem (aI rfl rfl rfl (by kernel_rfl)) rfl rfl (by omega) (by omega) rfl (op_idxA (aI rfl rfl rfl (by kernel_rfl)) ae108 rfl rfl (show _=((((x+2) % 5:Nat)):Int)from by omega) (by omega) rfl ?_))))
   refine aJ (aI rfl rfl rfl (by kernel_rfl)) sc78 rfl B3 (by first|exact get64A (by omega)|rfl) aN rfl ?_
   refine op_andU (aI rfl rfl rfl (by kernel_rfl)) rfl rfl rfl (op_xorU (aI rfl rfl rfl (by kernel_rfl)) rfl rfl rfl (bC (aI rfl rfl rfl (by kernel_rfl)) rfl rfl (op_idxA (aI rfl rfl rfl (by kernel_rfl)) ae90 rfl rfl (show _=(((5*k+x:Nat)):Int)from by omega) (by omega) rfl ?_)))
   refine aW (nxos rfl rfl rfl rfl) sz78 rfl rfl rfl rfl rfl B0 (by rw [lenT];simp;omega) sel1 (fun N0 B0=>?_)
   rw [setT (by omega)]at B0
   refine At.oneNil (aP (aA (s_9 (At.region (aO (aD rfl) rfl rfl (by omega) (by omega) rfl (aC (aD rfl) rfl rfl (aB (aA (At.perm sel2 (At.perm sel1 (At.perm sel2 (bB ?_ (.refl _) ⟨x+1,N0,rfl,rfl,rfl,by omega,B0⟩ ?_))))))))))))
   ·exact .cons (by first|exact aK rfl (by omega)|rfl) (.cons (by first|exact aK rfl (by omega)|rfl) (.cons (by first|exact aK rfl (by omega)|rfl) (.cons (by first|exact aK rfl (by omega)|rfl) .nil)))
   ·omega
  refine At.exit (aF (aF (aU (aP (aA (s_4 (At.region ?_)))))))
  obtain rfl:x=5:=by omega
  rw [hrow]at B0
  refine aC (aD rfl) rfl rfl (aO (aD rfl) rfl rfl (by omega) (by omega) rfl (aE (aD rfl) rfl rfl (aB (aA (At.sub (L':= [N0,R]) (.cons _ (.cons_cons _ (.cons_cons _ (.slnil)))) (bB ?_ (.refl _) ⟨k+1,N0,rfl,rfl,rfl,by omega,B0⟩ ?_))))))
  ·exact .cons (by first|exact aK rfl (by omega)|rfl) (.cons (by first|exact aK rfl (by omega)|rfl) .nil)
  ·omega
 refine At.exit (aF (aF (aU (At.retNE (L1:= [N0]) rfl .nil rfl (.refl _) (.refl _) ?_))))
 obtain rfl:k=5:=by omega
 exact⟨N0,rfl,rfl,B0⟩
set_option maxRecDepth 100000 in
set_option maxHeartbeats 1000000 in
theorem FConst_f:Fn Try.prog 74 #[] [] [] (fun v L=>v=.agg (u64s rcL).toArray∧L= []):=by
 refine Fn.enter (vs:= []) Try.func74 rfl rfl rfl ?_
 intro E R hR
 change At _ _ E [R] _
 refine At.seq fun _ s_1=>At.region (op_alloc (aX rfl) ze126 rfl (fun N0 b0 B0=>?_))
 change Blk N0 b0 _ [.int .u64 0,.int .u64 0,.int .u64 0,.int .u64 0,.int .u64 0,.int .u64 0,.int .u64 0,.int .u64 0,.int .u64 0,.int .u64 0,.int .u64 0,.int .u64 0,.int .u64 0,.int .u64 0,.int .u64 0,.int .u64 0,.int .u64 0,.int .u64 0,.int .u64 0,.int .u64 0,.int .u64 0,.int .u64 0,.int .u64 0,.int .u64 0]at B0
 change Blk N0 b0 _ (u64s (List.replicate 24 0))at B0
 refine aB (aA (s_1 (At.seq fun _ s_2=>At.region (op_alloc (aX rfl) ze126 rfl (fun N1 b1 B1=>?_)))))
 change Blk N1 b1 _ [.int .u64 0,.int .u64 0,.int .u64 0,.int .u64 0,.int .u64 0,.int .u64 0,.int .u64 0,.int .u64 0,.int .u64 0,.int .u64 0,.int .u64 0,.int .u64 0,.int .u64 0,.int .u64 0,.int .u64 0,.int .u64 0,.int .u64 0,.int .u64 0,.int .u64 0,.int .u64 0,.int .u64 0,.int .u64 0,.int .u64 0,.int .u64 0]at B1
 change Blk N1 b1 _ (u64s (cN (7*0)))at B1
 refine aB (aA (s_2 (At.seq fun _ s_3=>At.region (aE (aD rfl) rfl rfl (aB (aA (s_3 (At.seq fun _ s_4=>At.seq fun _ s_5=>At.region (aC (aD rfl) rfl rfl (aB (aA (s_5 (At.block (At.loop (fun fr_ hp_ ms_=> ∃(i:Nat) (N1:Heaplet),fr_= [(0,.pointer (some ⟨b0,0,none⟩)),(1,.pointer (some ⟨b1,0,none⟩)),(2,.int .u8 (rI (7*i))),(6,.int .i64 (i:Int))]∧hp_= [N1,N0,R]∧24- i=ms_∧(i≤24)∧(Blk N1 b1 126 (u64s (cN (7*i))))) ?_ (.refl _) ⟨0,N1,rfl,rfl,rfl,by omega,B1⟩ ?_))))))))))))))
 ·exact .cons (by first|exact aK rfl (by omega)|rfl) (.cons (by first|exact aK rfl (by omega)|rfl) (.cons (by first|exact aK rfl (by omega)|rfl) (.cons (by first|exact aK rfl (by omega)|rfl) .nil)))
 rintro _ _ _ ⟨i,N1,rfl,rfl,rfl,hi,B1⟩
 refine At.seq fun _ s_6=>At.region (op_lss (aD rfl) rfl rfl rfl (aB (aA (s_6 (At.seq fun _ s_7=>aL rfl (fun c7=>?_) (fun c7=>?_))))))
 ·refine At.skip (aA (s_7 (At.seq fun _ s_8=>At.block (At.seq fun _ s_9=>At.region (aC (aD rfl) rfl rfl (aE (aD rfl) rfl rfl (aB (aA (s_9 (At.seq fun _ s_10=>At.region (aC (aD rfl) rfl rfl (aB (aA (s_10 (At.block (At.loop (fun fr_ hp_ ms_=> ∃(j:Nat) (N1:Heaplet),fr_= [(0,.pointer (some ⟨b0,0,none⟩)),(1,.pointer (some ⟨b1,0,none⟩)),(2,.int .u8 (rI (7*i+j))),(3,.int .i64 (i:Int)),(6,.int .i64 (i:Int)),(9,.int .i64 (j:Int))]∧hp_= [N1,N0,R]∧7- j=ms_∧(j≤7)∧(Blk N1 b1 126 (u64s (cN (7*i+j))))) ?_ (.refl _) ⟨0,N1,rfl,rfl,rfl,by omega,B1⟩ ?_))))))))))))))))
  ·exact .cons (by first|exact aK rfl (by omega)|rfl) (.cons (by first|exact aK rfl (by omega)|rfl) (.cons (by first|exact aK rfl (by omega)|rfl) (.cons (by first|exact aK rfl (by omega)|rfl) (.cons (by first|exact aK rfl (by omega)|rfl) (.cons (by first|exact aK rfl (by omega)|rfl) .nil)))))
  rintro _ _ _ ⟨j,N1,rfl,rfl,rfl,hj,B1⟩
  have hcl:=cN_len (7*i+j)
  obtain⟨hr0,hr1,hr2⟩:=rI_ok ⟨7*i+j,by omega⟩
  simp only at hr0 hr1 hr2
  refine At.seq fun _ s_11=>At.region (op_lss (aD rfl) rfl rfl rfl (aB (aA (s_11 (At.seq fun _ s_12=>aL rfl (fun c10=>?_) (fun c10=>?_))))))
  ·refine At.skip (aA (s_12 (At.seq fun _ s_13=>At.block (At.seq fun _ s_14=>At.region (aC (aD rfl) rfl rfl (aE (aD rfl) rfl rfl (aB (aA (s_14 (At.seq fun _ s_15=>At.drawn [12] [0,1,2,3,4,5,6,7,8,9,10,11,12] (by kernel_rfl) (by kernel_rfl) (aC (aI rfl rfl rfl (by kernel_rfl)) rfl rfl (op_idxA (aI rfl rfl rfl (by kernel_rfl)) ae126 rfl rfl (show _=(((i:Nat)):Int)from by omega) (by omega) rfl ?_))))))))))))
   refine aJ (aI rfl rfl rfl (by kernel_rfl)) sc78 rfl B1 (by first|exact get64A (by omega)|rfl) aN rfl ?_
   refine aC (aI rfl rfl rfl (by kernel_rfl)) rfl rfl (op_bits (by simp) (aI rfl rfl rfl (by kernel_rfl)) rfl rfl rfl (op_conv64 (aI rfl rfl rfl (by kernel_rfl)) (und_some Try.underlying5) Try.underlying78 rfl (show _=((((bits .and .u8 (rI (7*i+j)) 1).toNat:Nat)):Int)from by omega) rfl ?_))
   refine aC (aI rfl rfl rfl (by kernel_rfl)) rfl rfl (op_shlU (a:=1) (aI rfl rfl rfl (by kernel_rfl)) rfl rfl (show _=(((j:Nat)):Int)from by omega) rfl ?_)
   refine op_subU (b:=1) (aI rfl rfl rfl (by kernel_rfl)) rfl rfl rfl (op_shlU (aI rfl rfl rfl (by kernel_rfl)) rfl rfl (show _=((((shl64 1 j- 1).toNat:Nat)):Int)from by omega) rfl ?_)
   refine op_orU (aI rfl rfl rfl (by kernel_rfl)) rfl rfl rfl (op_idxA (aI rfl rfl rfl (by kernel_rfl)) ae126 rfl rfl (show _=(((i:Nat)):Int)from by omega) (by omega) rfl ?_)
   refine aW (nxos rfl rfl rfl rfl) sz78 rfl rfl rfl rfl rfl B1 (by simp<;>omega) sel0 (fun N1 B1=>?_)
   rw [set64A]at B1
   refine At.oneNil (aA (s_15 (At.seq fun _ s_16=>At.region (aC (aD rfl) rfl rfl (op_shrW (aD rfl) rfl rfl (by omega) (by omega) rfl (aE (aD rfl) rfl rfl (aB (aA (s_16 (At.region (aC (aD rfl) rfl rfl (op_shlW (aD rfl) rfl rfl (by omega) rfl (aC (aD rfl) rfl rfl (op_mulW (aD rfl) rfl rfl rfl (op_bits (by simp) (aD rfl) rfl rfl rfl (aE (aD rfl) rfl rfl (aB (aP (aA (s_13 (At.region (aO (aD rfl) rfl rfl (by omega) (by omega) rfl ?_))))))))))))))))))))))
   refine aC (aD rfl) rfl rfl (aB (aA ?_))
   refine bB ?_ (.refl _) ⟨j+1,N1,rfl,rfl,rfl,by omega,by rw [show 7*i+(j+1)=(7*i+j)+1 by omega,cN,cStep,show(7*i+j)/7=i by omega,show(7*i+j) % 7=j by omega];exact B1⟩ ?_
   ·exact .cons (by first|exact aK rfl (by omega)|rfl) (.cons (by first|exact aK rfl (by omega)|rfl) (.cons (by first|exact aK rfl (by omega)|rfl) (.cons (by first|exact aK rfl (by omega)|rfl) (.cons (by first|exact aK rfl (by omega)|rfl) (.cons (by first|exact aK rfl (by omega)|rfl) .nil)))))
   ·omega
  refine At.exit (aF (aF (aU (aP (aA (s_8 (At.region ?_)))))))
  obtain rfl:j=7:=by omega
  change Blk N1 b1 _ (u64s (cN (7*(i+1))))at B1
  refine aO (aD rfl) rfl rfl (by omega) (by omega) rfl (aC (aD rfl) rfl rfl (aB (aA (bB ?_ (.refl _) ⟨i+1,N1,rfl,rfl,rfl,by omega,B1⟩ ?_))))
  ·exact .cons (by first|exact aK rfl (by omega)|rfl) (.cons (by first|exact aK rfl (by omega)|rfl) (.cons (by first|exact aK rfl (by omega)|rfl) (.cons (by first|exact aK rfl (by omega)|rfl) .nil)))
  ·omega
 refine At.exit (aF (aF (aU (aA (s_4 (At.seq fun _ s_17=>At.region ?_))))))
 obtain rfl:i=24:=by omega
 change Blk N1 b1 _ (u64s rcL)at B1
 have hrl:rcL.length=24:=cN_len 168
 refine op_loadAggB (ds:=u64s rcL) (aD rfl) ag126 rfl B1 (by rw [List.drop_zero,List.take_of_length_le (by simp [u64s,hrl])]) (by simp [u64s,hrl]) aN rfl ?_
 refine aW (nxl rfl) sz126 rfl rfl rfl (by simp [u64s,hrl]) (all64 _) B0 (by simp [u64s,hrl]) sel1 (fun N0 B0=>?_)
 rw [setL_whole (by simp [u64s,hrl])]at B0
 refine aB (aA (s_17 (At.ret ((At.sub (L':= [N0,R]) (.cons_cons _ (.cons _ (.cons_cons _ (.slnil)))) (aQ (L1:= []) rfl (.cell rfl (res_agg (ds:=u64s rcL) ag126 B0 (by rw [List.drop_zero,List.take_of_length_le (by simp [u64s,hrl])]) (by simp [u64s,hrl]) aN) .nil) (.cons _ (.refl _)) (.refl _) ?_))))))
 exact⟨rfl,rfl⟩
set_option maxRecDepth 100000 in
set_option maxHeartbeats 1000000 in
theorem FPermute_f {N:Heaplet} {b0:Nat} {e0:TypeId} {a:List UInt64} {T:List Value} (ha:a.length=25) (B0:Blk N b0 e0 (u64s a++T)):Fn Try.prog 65 #[.pointer (some ⟨b0,0,none⟩)] [N] [] (fun v L=> ∃M,v=.tuple #[]∧L= [M]∧Blk M b0 e0 (u64s (prm a 24)++T)):=by
 obtain⟨N0,h0⟩: ∃N0,N0=N:=⟨_,rfl⟩
 rw [←h0]at B0⊢
 have hrl:rcL.length=24:=cN_len 168
 refine Fn.enter (vs:= [.pointer (some ⟨b0,0,none⟩)]) Try.func65 rfl rfl rfl ?_
 intro E R hR
 change At _ _ E [N0,R] _
 refine At.seq fun _ s_1=>At.region (aH (aX rfl) .nil (FConst_f) Try.func74 rfl rfl (by simp) rfl ?_)
 rintro v4 L4 ⟨rfl,rfl⟩
 change At _ _ _ [N0,R] _
 refine aC (aD rfl) rfl rfl (aB (aA (s_1 (At.block ?_))))
 change Blk N0 b0 _ (u64s (prm a 0)++T)at B0
 refine At.loop (fun fr_ hp_ ms_=> ∃(k:Nat) (N0:Heaplet),fr_= [(0,.pointer (some ⟨b0,0,none⟩)),(4,.agg (u64s rcL).toArray),(5,.int .i64 (k:Int))]∧hp_= [N0,R]∧24- k=ms_∧(k≤24)∧(Blk N0 b0 e0 (u64s (prm a k)++T))) ?_ (.refl _) ⟨0,N0,rfl,rfl,rfl,by omega,B0⟩ ?_
 ·exact .cons (by first|exact aK rfl (by omega)|rfl) (.cons (by first|exact aK rfl (by omega)|rfl) (.cons (by first|exact aK rfl (by omega)|rfl) .nil))
 rintro _ _ _ ⟨k,N0,rfl,rfl,rfl,hk,B0⟩
 have hal:=(prm_len a k).trans ha
 have hl1:(theta (prm a k)).length=25:=(theta_len _).trans hal
 have hl2:(tuP (theta (prm a k)) 24).1.length=25:=(tuP_len _ _).trans hl1
 have hl3:(chP (tuP (theta (prm a k)) 24).1 5).length=25:=(chP_len _ _).trans hl2
 refine At.seq fun _ s_2=>At.region (op_lss (aD rfl) rfl rfl rfl (aB (aA (s_2 (At.seq fun _ s_3=>aL rfl (fun c6=>?_) (fun c6=>?_))))))
 ·refine At.skip (aA (s_3 (At.seq fun _ s_4=>At.block (At.seq fun _ s_5=>At.region ?_))))
  refine op_idxV (aD rfl) ae126 sc78 rfl rfl (show _=(((k:Nat)):Int)from by omega) (by omega) (by rw [List.getElem?_toArray];exact get64 (by omega)) rfl ?_
  refine aE (aD rfl) rfl rfl (aB (aA (s_5 (At.seq fun _ s_6=>At.region (aC (aD rfl) rfl rfl (op_call (nxl rfl) (.cons rfl .nil) (FTheta_f hal B0) (F:= [R]) Try.func75 rfl rfl (.refl _) (by simp) rfl ?_))))))
  rintro v9 L9 ⟨N0,rfl,rfl,B0⟩
  change At _ _ _ [N0,R] _
  refine aB (aA (s_6 (At.seq fun _ s_7=>At.region (aC (aD rfl) rfl rfl (op_call (nxl rfl) (.cons rfl .nil) (FTurn_f hl1 B0) (F:= [R]) Try.func76 rfl rfl (.refl _) (by simp) rfl ?_)))))
  rintro v11 L11 ⟨N0,rfl,rfl,B0⟩
  change At _ _ _ [N0,R] _
  refine aB (aA (s_7 (At.seq fun _ s_8=>At.region (aC (aD rfl) rfl rfl (op_call (nxl rfl) (.cons rfl .nil) (FChi_f hl2 B0) (F:= [R]) Try.func77 rfl rfl (.refl _) (by simp) rfl ?_)))))
  rintro v13 L13 ⟨N0,rfl,rfl,B0⟩
  change At _ _ _ [N0,R] _
  obtain⟨q,hq⟩: ∃q,chP (tuP (theta (prm a k)) 24).1 5=q:=⟨_,rfl⟩
  rw [hq]at B0 hl3
  refine aB (aA (s_8 (At.drawn [8] [0,1,2,3,4,5,6,7,8] (by kernel_rfl) (by kernel_rfl) (aC (aI rfl rfl rfl (by kernel_rfl)) rfl rfl (bC (aI rfl rfl rfl (by kernel_rfl)) rfl rfl (op_idxA (aI rfl rfl rfl (by kernel_rfl)) ae90 rfl rfl (show _=(((0:Nat)):Int)from by omega) (by omega) rfl ?_))))))
  refine aJ (aI rfl rfl rfl (by kernel_rfl)) sc78 rfl B0 (by first|exact get64A (by omega)|rfl|exact getT (by omega)) aN rfl ?_
  refine aC (aI rfl rfl rfl (by kernel_rfl)) rfl rfl (op_xorU (aI rfl rfl rfl (by kernel_rfl)) rfl rfl rfl (bC (aI rfl rfl rfl (by kernel_rfl)) rfl rfl (op_idxA (aI rfl rfl rfl (by kernel_rfl)) ae90 rfl rfl (show _=(((0:Nat)):Int)from by omega) (by omega) rfl ?_)))
  refine aW (nxos rfl rfl rfl rfl) sz78 rfl rfl rfl rfl rfl B0 (by rw [lenT];simp;omega) sel0 (fun N0 B0=>?_)
  rw [setT (by omega)]at B0
  refine At.oneNil (aP (aA (s_4 (At.region (aO (aD rfl) rfl rfl (by omega) (by omega) rfl (aC (aD rfl) rfl rfl (aB (aA ?_))))))))
  refine bB ?_ (.refl _) ⟨k+1,N0,rfl,rfl,rfl,by omega,by rw [prm,kRound,hq];exact B0⟩ ?_
  ·exact .cons (by first|exact aK rfl (by omega)|rfl) (.cons (by first|exact aK rfl (by omega)|rfl) (.cons (by first|exact aK rfl (by omega)|rfl) .nil))
  ·omega
 refine At.exit (aF (aF (aU (At.retNE (L1:= [N0]) rfl .nil rfl (.refl _) (.refl _) ?_))))
 obtain rfl:k=24:=by omega
 exact⟨N0,rfl,rfl,B0⟩
end Go.Proofs.Ytdpjbefeabokgaa
/- Package hash: Keccak-256 of any bytes. Condition: at most 2^40 bytes. -/
namespace Go.Proofs.Ytdpjbefeabokgaa
open Go Go.RowKit
theorem or128 (x:UInt8):bits .or .u8 (x.toNat:Int) 128=((x |||128).toNat:Int):=by
 have h: ∀i:Fin 256,bits .or .u8 (i.1:Int) 128=(((UInt8.ofNat i.1)|||128).toNat:Int):=by decide+kernel
 have e:UInt8.ofNat x.toNat=x:=by
  apply UInt8.toNat_inj.1
  rw [UInt8.toNat_ofNat'];exact Nat.mod_eq_of_lt x.toNat_lt
 have:=h ⟨x.toNat,x.toNat_lt⟩
 simp only [e]at this
 exact this
theorem all8 (l:List UInt8):(u8s l).all (·.oneCell')=true:=List.all_eq_true.2 (one_u8s l)
theorem blk8 {N:Heaplet} {b:Nat} {e:TypeId} {L:List UInt8} {k:Nat} (h:Blk N b e (u8s L)) (hk:L.length=k) (hm:k≤9223372036854775807):RSl N 1 (some ⟨b,0+0*1,none⟩) (k- 0) (k- 0) (u8s L):=by
 refine⟨by simp [u8s,hk],Nat.le_refl _,by unfold maxLen;omega,fun h0=>⟨b,0,rfl,h.rng⟩⟩
set_option maxRecDepth 100000 in
set_option maxHeartbeats 1000000 in
theorem FAbsorb_f {N M:Heaplet} {b0:Nat} {e0:TypeId} {a:List UInt64} {T:List Value} {ao:Option Addr} {n cap:Nat} {l:List UInt8} (ha:a.length=25) (B0:Blk N b0 e0 (u64s a++T)) (hb:RSl M 1 ao n cap (u8s l)) (hn:n=136):Fn Try.prog 45 #[.pointer (some ⟨b0,0,none⟩),.slice ao n cap] [N] [M] (fun v L=> ∃M,v=.tuple #[]∧L= [M]∧Blk M b0 e0 (u64s (absorb a l)++T)):=by
 obtain⟨N0,h0⟩: ∃N0,N0=N:=⟨_,rfl⟩
 rw [←h0]at B0⊢
 have hlen:=hb.len8
 have hcap:=hb.cap63
 refine Fn.enter (vs:= [.pointer (some ⟨b0,0,none⟩),.slice ao n cap]) Try.func45 rfl rfl rfl ?_
 intro E R hR
 have hb:=hb.le (hR M (by simp))
 change At _ _ E [N0,R] _
 refine At.seq fun _ s_1=>At.seq fun _ s_2=>At.region (aC (aD rfl) rfl rfl (aS (aD rfl) se33 rfl rfl (aC (aD rfl) rfl rfl (aB (aA (s_2 (At.block ?_)))))))
 change Blk N0 b0 _ (u64s (abI a l 0)++T)at B0
 refine At.loop (fun fr_ hp_ ms_=> ∃(i:Nat) (N0:Heaplet),fr_= [(0,.pointer (some ⟨b0,0,none⟩)),(6,.slice ao n cap),(7,.int .i64 (n:Int)),(8,.int .i64 (i:Int))]∧hp_= [N0,R]∧136- i=ms_∧(i≤136)∧(Blk N0 b0 e0 (u64s (abI a l i)++T))) ?_ (.refl _) ⟨0,N0,rfl,rfl,rfl,by omega,B0⟩ ?_
 ·exact .cons (by first|exact aK rfl (by omega)|rfl) (.cons (by first|exact aK rfl (by omega)|rfl) (.cons (by first|exact aK rfl (by omega)|rfl) (.cons (by first|exact aK rfl (by omega)|rfl) .nil)))
 rintro _ _ _ ⟨i,N0,rfl,rfl,rfl,hi,B0⟩
 have hal:=(abI_len a l i).trans ha
 refine At.seq fun _ s_3=>At.region (op_lss (aD rfl) rfl rfl rfl (aB (aA (s_3 (At.seq fun _ s_4=>aL rfl (fun c9=>?_) (fun c9=>?_))))))
 ·refine At.skip (aA (s_4 (At.seq fun _ s_5=>At.block (At.seq fun _ s_6=>At.region (aC (aD rfl) rfl rfl (op_idx1 (aD rfl) se33 rfl rfl hb (show _=(((i:Nat)):Int)from by omega) (by omega) rfl ?_))))))
  refine aR (aD rfl) sc5 rfl hb (by first|exact get8 (by omega)|exact get64 (by omega)|exact get32 (by omega)) (by first|exact aN|exact aV|exact aZ|exact mem3|exact mem4|exact mem5|exact mem6|exact mem7|exact mem8|exact mem9) rfl ?_
  refine aE (aD rfl) rfl rfl (aE (aD rfl) rfl rfl (aB (aA (s_6 (At.drawn [15] [0,1,2,3,4,5,6,7,8,9,10,11,12,13,14,15] (by kernel_rfl) (by kernel_rfl) (aC (aI rfl rfl rfl (by kernel_rfl)) rfl rfl (aC (aI rfl rfl rfl (by kernel_rfl)) rfl rfl (op_quoI (aI rfl rfl rfl (by kernel_rfl)) rfl rfl (by omega) (by omega) (by omega) rfl (bC (aI rfl rfl rfl (by kernel_rfl)) rfl rfl (op_idxA (aI rfl rfl rfl (by kernel_rfl)) ae90 rfl rfl (show _=(((i/8:Nat)):Int)from by omega) (by omega) rfl ?_))))))))))
  refine aJ (aI rfl rfl rfl (by kernel_rfl)) sc78 rfl B0 (by first|exact get64A (by omega)|rfl|exact getT (by omega)) aN rfl ?_
  refine aC (aI rfl rfl rfl (by kernel_rfl)) rfl rfl (op_conv64 (aI rfl rfl rfl (by kernel_rfl)) (und_some Try.underlying5) Try.underlying78 rfl (show _=((((l.getD i 0).toNat:Nat)):Int)from by omega) rfl ?_)
  refine aC (aI rfl rfl rfl (by kernel_rfl)) rfl rfl (op_rem (aI rfl rfl rfl (by kernel_rfl)) rfl rfl (by omega) (by omega) rfl (op_mulI (aI rfl rfl rfl (by kernel_rfl)) rfl rfl (by omega) (by omega) rfl (op_shlU (aI rfl rfl rfl (by kernel_rfl)) rfl rfl (show _=(((i % 8*8:Nat)):Int)from by omega) rfl ?_)))
  refine op_xorU (aI rfl rfl rfl (by kernel_rfl)) rfl rfl rfl (bC (aI rfl rfl rfl (by kernel_rfl)) rfl rfl (op_idxA (aI rfl rfl rfl (by kernel_rfl)) ae90 rfl rfl (show _=(((i/8:Nat)):Int)from by omega) (by omega) rfl ?_))
  refine aW (nxos rfl rfl rfl rfl) sz78 rfl rfl rfl rfl rfl B0 (by rw [lenT];simp;omega) sel0 (fun N0 B0=>?_)
  rw [setT (by omega)]at B0
  refine At.oneNil (aP (aA (s_5 (At.region (aO (aD rfl) rfl rfl (by omega) (by omega) rfl (aC (aD rfl) rfl rfl (aB (aA (bB ?_ (.refl _) ⟨i+1,N0,rfl,rfl,rfl,by omega,B0⟩ ?_)))))))))
  ·exact .cons (by first|exact aK rfl (by omega)|rfl) (.cons (by first|exact aK rfl (by omega)|rfl) (.cons (by first|exact aK rfl (by omega)|rfl) (.cons (by first|exact aK rfl (by omega)|rfl) .nil)))
  ·omega
 refine At.exit (aF (aF (aU (aA (s_1 (At.region ?_))))))
 obtain rfl:i=136:=by omega
 refine aC (aD rfl) rfl rfl (op_call (nxl rfl) (.cons rfl .nil) (FPermute_f hal B0) (F:= [R]) Try.func65 rfl rfl (.refl _) (by simp) rfl ?_)
 rintro v30 L30 ⟨N0,rfl,rfl,B0⟩
 change At _ _ _ [N0,R] _
 refine aB (At.retNE (L1:= [N0]) rfl .nil rfl (.refl _) (.refl _) ?_)
 exact⟨N0,rfl,rfl,B0⟩
set_option maxRecDepth 100000 in
theorem FNew_f:Fn Try.prog 44 #[] [] [] (fun v L=> ∃M b e,v=.pointer (some ⟨b,0,none⟩)∧L= [M]∧Blk M b e (u64s (List.replicate 25 0)++ [.slice none 0 0])):=by
 refine Fn.enter (vs:= []) Try.func44 rfl rfl rfl ?_
 intro E R hR
 change At _ _ E [R] _
 refine At.seq fun _ s_1=>At.region (aE (aD rfl) rfl rfl (aB (aA (s_1 (At.seq fun _ s_2=>At.region (op_build (out:= [.int .u64 0,.int .u64 0,.int .u64 0,.int .u64 0,.int .u64 0,.int .u64 0,.int .u64 0,.int .u64 0,.int .u64 0,.int .u64 0,.int .u64 0,.int .u64 0,.int .u64 0,.int .u64 0,.int .u64 0,.int .u64 0,.int .u64 0,.int .u64 0,.int .u64 0,.int .u64 0,.int .u64 0,.int .u64 0,.int .u64 0,.int .u64 0,.int .u64 0,.slice none 0 0]) (aD rfl) ze92 pl92 .nil rfl rfl (op_box (aX rfl) rfl rfl rfl (fun N2 b2 B2=>aE (aD rfl) rfl rfl (aB (aA (s_2 (At.ret ((aQ (L1:= [N2]) rfl (.tmp rfl .nil) (.refl _) (.refl _) ?_))))))))))))))
 exact⟨N2,b2,_,rfl,rfl,B2⟩
theorem copy_last {r:List UInt8} {o k:Nat} (ho:o=0) (hk:k=r.length) (hr:r.length≤136):(u8s (List.replicate 136 0)).take o++(u8s r).take k++(u8s (List.replicate 136 0)).drop (o+k)=u8s (r++List.replicate (136- r.length) 0):=by
 subst ho;subst hk
 rw [List.take_zero,List.nil_append,Nat.zero_add,List.take_of_length_le (by simp [u8s]),show u8s (List.replicate 136 0)=List.replicate 136 (vb 0)from List.map_replicate,List.drop_replicate,u8s,u8s,List.map_append,List.map_replicate]
theorem padZ_len {r:List UInt8} (hr:r.length<136):(r++List.replicate (136- r.length) 0).length=136:=by
 rw [List.length_append,List.length_replicate];omega
theorem padL_len {r:List UInt8} (hr:r.length<136):(padL r).length=136:=by
 unfold padL
 simp only [List.length_set]
 exact padZ_len hr
theorem zeBlk:zer Try.prog 120=some (.agg (u8s (List.replicate 136 0)).toArray):=by kernel_rfl
set_option maxRecDepth 100000 in
set_option maxHeartbeats 2000000 in
theorem FSum_f {N M:Heaplet} {b0:Nat} {e0:TypeId} {a:List UInt64} {ao:Option Addr} {n cap:Nat} {r:List UInt8} (ha:a.length=25) (B0:Blk N b0 e0 (u64s a++ [.slice ao n cap])) (hb:RSl M 1 ao n cap (u8s r)) (hn:n<136):Fn Try.prog 46 #[.pointer (some ⟨b0,0,none⟩)] [N] [M] (fun v L=>v=.agg (u8s (ouI (absorb a (padL r)) 32)).toArray∧L= []):=by
 obtain⟨N0,h0⟩: ∃N0,N0=N:=⟨_,rfl⟩
 rw [←h0]at B0⊢
 have hlen:=hb.len8
 have hcap:=hb.cap63
 have hrest:(u64s a++ [Value.slice ao n cap])[0+25]? =some (.slice ao n cap):=by
  rw [List.getElem?_append_right (by simp [u64s,ha]),show 0+25- (u64s a).length=0 by simp [u64s,ha]];rfl
 have hlan:((u64s a++ [Value.slice ao n cap]).drop (0+0)).take 25=u64s a:=by
  rw [List.drop_zero,List.take_append_of_le_length (by simp [u64s,ha]),List.take_of_length_le (by simp [u64s,ha])]
 have hpz:=padZ_len (r:=r) (by omega)
 have hpl:=padL_len (r:=r) (by omega)
 obtain⟨A,hA⟩: ∃A,absorb a (padL r)=A:=⟨_,rfl⟩
 have hAl:A.length=25:=by rw [←hA,absorb_len];exact ha
 refine Fn.enter (vs:= [.pointer (some ⟨b0,0,none⟩)]) Try.func46 rfl rfl rfl ?_
 intro E R hR
 have hb:=hb.le (hR M (by simp))
 change At _ _ E [N0,R] _
 refine At.seq fun _ s_1=>At.region (op_alloc (aX rfl) ze47 rfl (fun N2 b2 B2=>?_))
 change Blk N2 b2 _ [.int .u8 0,.int .u8 0,.int .u8 0,.int .u8 0,.int .u8 0,.int .u8 0,.int .u8 0,.int .u8 0,.int .u8 0,.int .u8 0,.int .u8 0,.int .u8 0,.int .u8 0,.int .u8 0,.int .u8 0,.int .u8 0,.int .u8 0,.int .u8 0,.int .u8 0,.int .u8 0,.int .u8 0,.int .u8 0,.int .u8 0,.int .u8 0,.int .u8 0,.int .u8 0,.int .u8 0,.int .u8 0,.int .u8 0,.int .u8 0,.int .u8 0,.int .u8 0]at B2
 refine aB (aA (s_1 (At.seq fun _ s_2=>At.region (op_alloc (aX rfl) zeBlk rfl (fun N3 b3 B3=>?_)))))
 change Blk N3 b3 _ (u8s (List.replicate 136 0))at B3
 refine aB (aA (s_2 (At.seq fun _ s_3=>At.drawn [5] [0,1,2,3,4,5] (by kernel_rfl) (by kernel_rfl) (op_sliceA (aI rfl rfl rfl (by kernel_rfl)) ae120 rfl .none .none .none (by omega) (by omega) (by omega) (by simp) rfl (aC (aI rfl rfl rfl (by kernel_rfl)) rfl rfl (bC (aI rfl rfl rfl (by kernel_rfl)) rfl rfl (aG (aI rfl rfl rfl (by kernel_rfl)) fl92_1 rfl rfl (aJ (aI rfl rfl rfl (by kernel_rfl)) sc33 rfl B0 (by first|rfl|exact hrest) aZ rfl ?_))))))))
 refine op_copyB (nxos rfl rfl rfl rfl) se33 rfl rfl B3 hb (by first|exact aN|exact aV|exact aZ|exact mem3|exact mem4|exact mem5|exact mem6|exact mem7|exact mem8|exact mem9) (by first|exact one_u8s _|exact one_u64s _|exact one_u32s _|(intro u hu;simp at hu;subst hu;rfl)) (by simp [u8s];omega) sel0 rfl (fun N3 B3=>?_)
 rw [copy_last rfl (by omega) (by omega)]at B3
 refine At.oneNil (aA (s_3 (At.seq fun _ s_4=>At.region (aC (aD rfl) rfl rfl (bC (aD rfl) rfl rfl (aG (aD rfl) fl92_1 rfl rfl (aJ (aD rfl) sc33 rfl B0 (by first|rfl|exact hrest) aZ rfl ?_)))))))
 refine aS (aD rfl) se33 rfl rfl (op_idxA (aD rfl) ae120 rfl rfl (show _=(((n:Nat)):Int)from by omega) (by omega) rfl ?_)
 refine aW (nxl rfl) sz5 rfl rfl rfl rfl rfl B3 (by simp [u8s];omega) sel0 (fun N3 B3=>?_)
 rw [show Value.int .u8 1=.int .u8 ((1:UInt8).toNat:Int)from rfl,set8A]at B3
 obtain⟨z,hz⟩: ∃z,(r++List.replicate (136- r.length) 0).set n 1=z:=⟨_,rfl⟩
 have hzl:z.length=136:=by rw [←hz,List.length_set];exact hpz
 have hpad:padL r=z.set 135 (z.getD 135 0 |||128):=by rw [←hz,padL,hlen]
 rw [hz]at B3
 refine aB (aA (s_4 (At.seq fun _ s_5=>At.region (op_idxA (aD rfl) ae120 rfl rfl (show _=(((135:Nat)):Int)from by omega) (by omega) rfl ?_))))
 refine aJ (aD rfl) sc5 rfl B3 (get8A (by omega)) (by first|exact aN|exact aV|exact aZ) rfl (op_bits (by simp) (aD rfl) rfl rfl rfl ?_)
 rw [or128]
 refine op_idxA (aD rfl) ae120 rfl rfl (show _=(((135:Nat)):Int)from by omega) (by omega) rfl ?_
 refine aW (nxl rfl) sz5 rfl rfl rfl rfl rfl B3 (by simp [u8s];omega) sel0 (fun N3 B3=>?_)
 rw [set8A, ←hpad]at B3
 refine aB (aA (s_5 (At.seq fun _ s_6=>At.region (aC (aD rfl) rfl rfl (bC (aD rfl) rfl rfl (aG (aD rfl) fl92_0 rfl rfl (op_loadAggB (ds:=u64s a) (aD rfl) ag90 rfl B0 hlan (by simp [u64s,ha]) (by first|exact aN|exact aV|exact aZ) rfl ?_)))))))
 refine op_alloc (aX rfl) ze90 rfl (fun N4 b4 B4=>?_)
 change Blk N4 b4 _ [.int .u64 0,.int .u64 0,.int .u64 0,.int .u64 0,.int .u64 0,.int .u64 0,.int .u64 0,.int .u64 0,.int .u64 0,.int .u64 0,.int .u64 0,.int .u64 0,.int .u64 0,.int .u64 0,.int .u64 0,.int .u64 0,.int .u64 0,.int .u64 0,.int .u64 0,.int .u64 0,.int .u64 0,.int .u64 0,.int .u64 0,.int .u64 0,.int .u64 0]at B4
 refine aW (nxl rfl) sz90 rfl rfl rfl (by simp [u64s,ha]) (all64 _) B4 (by simp [u64s,ha]) sel0 (fun N4 B4=>?_)
 rw [setL_whole (by simp [u64s,ha]), ←List.append_nil (u64s a)]at B4
 refine aB (aA (s_6 (At.seq fun _ s_7=>At.region (op_sliceA (aD rfl) ae120 rfl .none .none .none (by omega) (by omega) (by omega) (by simp) rfl ?_))))
 have sL:=blk8 B3 hpl (by omega)
 refine op_call (nxl rfl) (.cons rfl (.cons rfl .nil)) (FAbsorb_f ha B4 sL rfl) (F:= [N3,N2,N0,R]) Try.func45 rfl rfl (.refl _) (by simp) rfl ?_
 rintro v28 L28 ⟨N4,rfl,rfl,B4⟩
 change At _ _ _ [N4,N3,N2,N0,R] _
 rw [List.append_nil,hA]at B4
 refine aB (aA (s_7 (At.seq fun _ s_8=>At.region (op_alloc (aX rfl) ze47 rfl (fun N5 b5 B5=>?_)))))
 change Blk N5 b5 _ [.int .u8 0,.int .u8 0,.int .u8 0,.int .u8 0,.int .u8 0,.int .u8 0,.int .u8 0,.int .u8 0,.int .u8 0,.int .u8 0,.int .u8 0,.int .u8 0,.int .u8 0,.int .u8 0,.int .u8 0,.int .u8 0,.int .u8 0,.int .u8 0,.int .u8 0,.int .u8 0,.int .u8 0,.int .u8 0,.int .u8 0,.int .u8 0,.int .u8 0,.int .u8 0,.int .u8 0,.int .u8 0,.int .u8 0,.int .u8 0,.int .u8 0,.int .u8 0]at B5
 change Blk N5 b5 _ (u8s (ouI A 0))at B5
 refine aB (aA (s_8 (At.seq fun _ s_9=>At.seq fun _ s_10=>At.region (aC (aD rfl) rfl rfl (aB (aA (s_10 (At.block (At.sub (L':= [N5,N4,N2,R]) (.cons_cons _ (.cons_cons _ (.cons _ (.cons_cons _ (.cons _ (.cons_cons _ (.slnil))))))) (At.loop (fun fr_ hp_ ms_=> ∃(i:Nat) (N5:Heaplet),fr_= [(2,.pointer (some ⟨b2,0,none⟩)),(4,.pointer (some ⟨b4,0,none⟩)),(5,.pointer (some ⟨b5,0,none⟩)),(29,.int .i64 (i:Int))]∧hp_= [N5,N4,N2,R]∧32- i=ms_∧(i≤32)∧(Blk N5 b5 47 (u8s (ouI A i)))) ?_ (.refl _) ⟨0,N5,rfl,rfl,rfl,by omega,B5⟩ ?_))))))))))
 ·exact .cons (by first|exact aK rfl (by omega)|rfl) (.cons (by first|exact aK rfl (by omega)|rfl) (.cons (by first|exact aK rfl (by omega)|rfl) (.cons (by first|exact aK rfl (by omega)|rfl) .nil)))
 rintro _ _ _ ⟨i,N5,rfl,rfl,rfl,hi,B5⟩
 have hol:=ouI_len A i
 refine At.seq fun _ s_11=>At.region (op_lss (aD rfl) rfl rfl rfl (aB (aA (s_11 (At.seq fun _ s_12=>aL rfl (fun c30=>?_) (fun c30=>?_))))))
 ·refine At.skip (aA (s_12 (At.seq fun _ s_13=>At.block (At.seq fun _ s_14=>At.region (aC (aD rfl) rfl rfl (aE (aD rfl) rfl rfl (aB (aA (s_14 (At.region (aC (aD rfl) rfl rfl (aC (aD rfl) rfl rfl (op_quoI (aD rfl) rfl rfl (by omega) (by omega) (by omega) rfl (op_idxA (aD rfl) ae90 rfl rfl (show _=(((i/8:Nat)):Int)from by omega) (by omega) rfl ?_))))))))))))))
  refine aJ (aD rfl) sc78 rfl B4 (get64A (by omega)) (by first|exact aN|exact aV|exact aZ) rfl (aC (aD rfl) rfl rfl (op_rem (aD rfl) rfl rfl (by omega) (by omega) rfl (op_mulI (aD rfl) rfl rfl (by omega) (by omega) rfl (op_shrU (aD rfl) rfl rfl (show _=(((i % 8*8:Nat)):Int)from by omega) rfl ?_))))
  refine op_conv8 (aD rfl) (und_some Try.underlying78) Try.underlying5 rfl (show _=((((shr64 (A.getD (i/8) 0) (i % 8*8)).toNat:Nat)):Int)from by omega) rfl ?_
  refine op_idxA (aD rfl) ae47 rfl rfl (show _=(((i:Nat)):Int)from by omega) (by omega) rfl ?_
  refine aW (nxl rfl) sz5 rfl rfl rfl rfl rfl B5 (by simp<;>omega) sel0 (fun N5 B5=>?_)
  rw [set8A]at B5
  refine aB (aP (aA (s_13 (At.region (aO (aD rfl) rfl rfl (by omega) (by omega) rfl (aC (aD rfl) rfl rfl (aB (aA (bB ?_ (.refl _) ⟨i+1,N5,rfl,rfl,rfl,by omega,B5⟩ ?_)))))))))
  ·exact .cons (by first|exact aK rfl (by omega)|rfl) (.cons (by first|exact aK rfl (by omega)|rfl) (.cons (by first|exact aK rfl (by omega)|rfl) (.cons (by first|exact aK rfl (by omega)|rfl) .nil)))
  ·omega
 refine At.exit (aF (aF (aU (aA (s_9 (At.seq fun _ s_15=>At.region ?_))))))
 obtain rfl:i=32:=by omega
 obtain⟨o,ho⟩: ∃o,ouI A 32=o:=⟨_,rfl⟩
 rw [ho]at B5 hol
 refine op_loadAggB (ds:=u8s o) (aD rfl) ag47 rfl B5 (by rw [List.drop_zero,List.take_of_length_le (by simp [u8s,hol])]) (by simp [u8s,hol]) (by first|exact aN|exact aV|exact aZ) rfl ?_
 refine aW (nxl rfl) sz47 rfl rfl rfl (by simp [u8s,hol]) (all8 _) B2 (by simp [u8s,hol]) sel2 (fun N2 B2=>?_)
 rw [setL_whole (by simp [u8s,hol])]at B2
 refine aB (aA (s_15 (At.ret ((At.sub (L':= [N2,R]) (.cons_cons _ (.cons _ (.cons _ (.cons_cons _ (.slnil))))) (aQ (L1:= []) rfl (.cell rfl (res_agg (ds:=u8s o) ag47 B2 (by rw [List.drop_zero,List.take_of_length_le (by simp [u8s,hol])]) (by simp [u8s,hol]) aN) .nil) (.cons _ (.refl _)) (.refl _) ?_))))))
 exact⟨by rw [hA,ho],rfl⟩
end Go.Proofs.Ytdpjbefeabokgaa
/- The reference's Keccak: turning, constants, permutation. No condition. -/
namespace Go.Proofs.Ytdpjbefeabokgaa
open Go Go.RowKit
theorem rRol_f (x:UInt64) (k:Nat) (hk:k<64):Fn Try.prog 56 #[.int .u64 (x.toNat:Int),.int .i64 (k:Int)] [] [] (fun v L=>v=.int .u64 ((rolN x k).toNat:Int)∧L= []):=by
 refine Fn.enter (vs:= [.int .u64 (x.toNat:Int),.int .i64 (k:Int)]) Try.func56 rfl rfl rfl ?_
 intro E R hR
 change At _ _ E [R] _
 refine At.seq fun _ s_1=>At.region (aE (aD rfl) rfl rfl (aB (aA (s_1 (At.seq fun _ s_2=>At.seq fun _ s_3=>At.region (aC (aD rfl) rfl rfl (op_eql (aD rfl) rfl rfl rfl (aB (aA (s_3 (aL rfl (fun c6=>?_) (fun c6=>?_))))))))))))
 ·obtain rfl:k=0:=by omega
  refine At.seq fun _ s_4=>At.region (aC (aD rfl) rfl rfl (aE (aD rfl) rfl rfl (aB (aA (s_4 (At.ret (bA ((aQ (L1:= []) rfl (.tmp rfl .nil) (.refl _) (.refl _) ?_)))))))))
  exact⟨by rw [rolN,if_pos rfl],rfl⟩
 refine At.skip (aA (s_2 (At.seq fun _ s_5=>At.drawn [] [0,1,2,3,4,5,6,7,8] (by kernel_rfl) (by kernel_rfl) (aC (aI rfl rfl rfl (by kernel_rfl)) rfl rfl (aC (aI rfl rfl rfl (by kernel_rfl)) rfl rfl (op_shlU (aI rfl rfl rfl (by kernel_rfl)) rfl rfl (show _=(((k:Nat)):Int)from by omega) rfl ?_))))))
 refine aC (aI rfl rfl rfl (by kernel_rfl)) rfl rfl (aC (aI rfl rfl rfl (by kernel_rfl)) rfl rfl (op_subI (aI rfl rfl rfl (by kernel_rfl)) rfl rfl (by omega) (by omega) rfl (op_shrU (aI rfl rfl rfl (by kernel_rfl)) rfl rfl (show _=(((64- k:Nat)):Int)from by omega) rfl ?_)))
 refine op_orU (aI rfl rfl rfl (by kernel_rfl)) rfl rfl rfl (aE (aI rfl rfl rfl (by kernel_rfl)) rfl rfl (At.oneNil (aA (s_5 (At.ret ((aQ (L1:= []) rfl (.tmp rfl .nil) (.refl _) (.refl _) ?_)))))))
 exact⟨by rw [rolN,if_neg (by omega)],rfl⟩
theorem wrap2 {x:Int} (h0:0≤x) (h1:x≤255):IntKind.i64.wrap (x*2^(min (1:Int).toNat IntKind.i64.bits))=x*2:=by
 rw [show(2:Int)^(min (1:Int).toNat IntKind.i64.bits)=2 from rfl]
 exact wrap_i64 (by omega) (by omega)
set_option maxRecDepth 100000 in
set_option maxHeartbeats 1000000 in
theorem rConst_f (r:Nat) (hr:r<24):Fn Try.prog 57 #[.int .i64 (r:Int)] [] [] (fun v L=>v=.int .u64 ((rcL.getD r 0).toNat:Int)∧L= []):=by
 have hfin:wJ r (7*r+7)=rcL.getD r 0:=wJ_ok ⟨r,hr⟩
 refine Fn.enter (vs:= [.int .i64 (r:Int)]) Try.func57 rfl rfl rfl ?_
 intro E R hR
 change At _ _ E [R] _
 refine At.seq fun _ s_1=>At.region (aE (aD rfl) rfl rfl (aB (aA (s_1 (At.seq fun _ s_2=>At.region (aE (aD rfl) rfl rfl (aB (aA (s_2 (At.seq fun _ s_3=>At.region (aE (aD rfl) rfl rfl (aB (aA (s_3 (At.seq fun _ s_4=>At.seq fun _ s_5=>At.region (aE (aD rfl) rfl rfl (aB (aA (s_5 ?_)))))))))))))))))))
 refine At.block (At.loop (fun fr_ hp_ ms_=> ∃(n:Nat),fr_= [(0,.int .i64 (r:Int)),(3,.int .i64 (rJ n)),(4,.int .u64 ((wJ r n).toNat:Int)),(5,.int .i64 (n:Int))]∧hp_= [R]∧7*r+7- n=ms_∧(n≤7*r+7)) ?_ (.refl _) ⟨0,rfl,rfl,rfl,by omega⟩ ?_)
 ·exact .cons (by first|exact aK rfl (by omega)|rfl) (.cons (by first|exact aK rfl (by omega)|rfl) (.cons (by first|exact aK rfl (by omega)|rfl) (.cons (by first|exact aK rfl (by omega)|rfl) .nil)))
 rintro _ _ _ ⟨n,rfl,rfl,rfl,hn⟩
 obtain⟨hj0,hj1⟩:=rJ_ok ⟨n,by omega⟩
 simp only at hj0 hj1
 refine At.seq fun _ s_6=>At.seq fun _ s_7=>At.region (aC (aD rfl) rfl rfl (aC (aD rfl) rfl rfl (op_mulI (aD rfl) rfl rfl (by omega) (by omega) rfl (aO (aD rfl) rfl rfl (by omega) (by omega) rfl (op_lss (aD rfl) rfl rfl rfl (aB (aA (s_7 (aL rfl (fun c10=>?_) (fun c10=>?_))))))))))
 ·refine At.skip (aA (s_6 (At.seq fun _ s_8=>At.block (At.seq fun _ s_9=>At.meet (fun fr_ hp_=>fr_= [(0,.int .i64 (r:Int)),(3,.int .i64 (rJ n)),(4,.int .u64 ((wJ r (n+1)).toNat:Int)),(5,.int .i64 (n:Int))]∧hp_= [R]∧(True)) ?_ (fun K9_ jk_9=>?_)))))
  rotate_left
  ·skip
   refine At.seq fun _ s_10=>At.region (aC (aD rfl) rfl rfl (aC (aD rfl) rfl rfl (op_mulI (aD rfl) rfl rfl (by omega) (by omega) rfl (op_geq (aD rfl) rfl rfl rfl (aC (aD rfl) rfl rfl (At.partP (d:=17) rfl (fun g17=>?_) (fun g17=>?_)))))))
   ·have hge:7*r≤n:=by omega
    refine aC (nxgf rfl rfl rfl rfl) rfl rfl (op_bits (by simp) (nxgf rfl rfl rfl rfl) rfl rfl rfl (op_eql (nxgf rfl rfl rfl rfl) rfl rfl rfl (op_pickT (aD rfl) rfl rfl rfl (aB (aA (s_10 (aL rfl (fun c21=>?_) (fun c21=>?_))))))))
    ·have hw:wJ r (n+1)=wJ r n |||shl64 1 (shl64 1 (n- 7*r)- 1).toNat:=by rw [wJ,if_pos ⟨hge,by assumption⟩]
     refine At.region (aC (aD rfl) rfl rfl (aC (aD rfl) rfl rfl (aC (aD rfl) rfl rfl (op_mulI (aD rfl) rfl rfl (by omega) (by omega) rfl (op_subI (aD rfl) rfl rfl (by omega) (by omega) rfl (op_shlU (a:=1) (aD rfl) rfl rfl (show _=(((n- 7*r:Nat)):Int)from by omega) rfl ?_))))))
     refine op_subU (b:=1) (aD rfl) rfl rfl rfl (op_shlU (a:=1) (aD rfl) rfl rfl (show _=((((shl64 1 (n- 7*r)- 1).toNat:Nat)):Int)from by omega) rfl ?_)
     refine op_orU (aD rfl) rfl rfl rfl ?_
     rw [←hw]
     refine aE (aD rfl) rfl rfl (aB (aA (jk_9 ?_ (.refl _) ⟨rfl,rfl,trivial⟩)))
     exact .cons (by first|exact aK rfl (by omega)|rfl) (.cons (by first|exact aK rfl (by omega)|rfl) (.cons (by first|exact aK rfl (by omega)|rfl) (.cons (by first|exact aK rfl (by omega)|rfl) .nil)))
    have hw:wJ r (n+1)=wJ r n:=by rw [wJ,if_neg (fun h=>by have:=h.2;contradiction)]
    refine At.skip ?_
    rw [←hw]
    refine aA (jk_9 ?_ (.refl _) ⟨rfl,rfl,trivial⟩)
    exact .cons (by first|exact aK rfl (by omega)|rfl) (.cons (by first|exact aK rfl (by omega)|rfl) (.cons (by first|exact aK rfl (by omega)|rfl) (.cons (by first|exact aK rfl (by omega)|rfl) .nil)))
   have hw:wJ r (n+1)=wJ r n:=by rw [wJ,if_neg (fun h=>by omega)]
   refine aY rfl rfl rfl rfl rfl rfl rfl (aY rfl rfl rfl rfl rfl rfl rfl (aY rfl rfl rfl rfl rfl rfl rfl (op_pickF (aD rfl) rfl rfl rfl (aB (aA (s_10 (At.condF rfl (At.skip ?_))))))))
   rw [←hw]
   refine aA (jk_9 ?_ (.refl _) ⟨rfl,rfl,trivial⟩)
   exact .cons (by first|exact aK rfl (by omega)|rfl) (.cons (by first|exact aK rfl (by omega)|rfl) (.cons (by first|exact aK rfl (by omega)|rfl) (.cons (by first|exact aK rfl (by omega)|rfl) .nil)))
  rintro _ _ ⟨rfl,rfl,ht⟩
  refine s_9 (At.seq fun _ s_11=>At.region (aC (aD rfl) rfl rfl (op_shlW (aD rfl) rfl rfl (by omega) rfl ?_)))
  rw [wrap2 hj0 hj1]
  refine aE (aD rfl) rfl rfl (aB (aA (s_11 (At.seq fun _ s_12=>At.region (aC (aD rfl) rfl rfl (op_geq (aD rfl) rfl rfl rfl (aB (aA (s_12 (aL rfl (fun c34=>?_) (fun c34=>?_)))))))))))
  ·have hx:rJ (n+1)=bits .xor .i64 (rJ n*2- 256) 113:=by rw [rJ,if_pos (by omega)]
   refine At.region (aC (aD rfl) rfl rfl (op_subI (aD rfl) rfl rfl (by omega) (by omega) rfl (op_bits (by simp) (aD rfl) rfl rfl rfl ?_)))
   rw [←hx]
   refine aE (aD rfl) rfl rfl (aB (aP (aA (s_8 (At.region (aC (aD rfl) rfl rfl (aO (aD rfl) rfl rfl (by omega) (by omega) rfl (aE (aD rfl) rfl rfl (aB (aA (bB ?_ (.refl _) ⟨n+1,rfl,rfl,rfl,by omega⟩ ?_)))))))))))
   ·exact .cons (by first|exact aK rfl (by omega)|rfl) (.cons (by first|exact aK rfl (by omega)|rfl) (.cons (by first|exact aK rfl (by omega)|rfl) (.cons (by first|exact aK rfl (by omega)|rfl) .nil)))
   ·omega
  have hx:rJ (n+1)=rJ n*2:=by rw [rJ,if_neg (by omega)]
  rw [←hx]
  refine At.skip (aP (aA (s_8 (At.region (aC (aD rfl) rfl rfl (aO (aD rfl) rfl rfl (by omega) (by omega) rfl (aE (aD rfl) rfl rfl (aB (aA (bB ?_ (.refl _) ⟨n+1,rfl,rfl,rfl,by omega⟩ ?_))))))))))
  ·exact .cons (by first|exact aK rfl (by omega)|rfl) (.cons (by first|exact aK rfl (by omega)|rfl) (.cons (by first|exact aK rfl (by omega)|rfl) (.cons (by first|exact aK rfl (by omega)|rfl) .nil)))
  ·omega
 refine At.exit (aF (aF (aU (aA (s_4 (At.seq fun _ s_13=>At.region (aC (aD rfl) rfl rfl (aE (aD rfl) rfl rfl (aB (aA (s_13 (At.ret ((aQ (L1:= []) rfl (.tmp rfl .nil) (.refl _) (.refl _) ?_))))))))))))))
 obtain rfl:n=7*r+7:=by omega
 exact⟨by rw [hfin],rfl⟩
end Go.Proofs.Ytdpjbefeabokgaa
