/- Several texts in one: see the remarks ahead of each part. No condition but those told there. -/
import Derived.Test.YtjfagifjajielaaGreatX1
import Derived.Test.YtjfagifjajielaaGreatX8
import Derived.Test.YtjfagifjajielaaGreatX10
import Derived.Test.YtjfagifjajielaaGreatX9
import Derived.Test.YtjfagifjajielaaGreatX5
import Derived.Test.YtjfagifjajielaaGreatX3
import Derived.Test.YtjfagifjajielaaGreatX4
set_option linter.unusedSimpArgs false
set_option linter.unusedVariables false
namespace Go.Proofs.YtjfagifjajielaaGreat
open Go Go.RowKit
def numE (b:List UInt8):Nat:=if 0<b.length∧(b.getD 0 0).toNat=0 then 2 else if 32<b.length then 3 else 0
def numV (b:List UInt8):Nat:=if numE b=0 then be b else 0
def NumP (b:List UInt8) (v:Value) (L:List Heaplet):Prop:=
 ∃wa wb wc wd:UInt64,v=.tuple #[.agg #[.int .u64 (wa.toNat:Int),.int .u64 (wb.toNat:Int),.int .u64 (wc.toNat:Int),.int .u64 (wd.toNat:Int)],.int .i64 (numE b:Int)]∧L= []∧v64 [wa,wb,wc,wd]=numV b
theorem NumP.good {b:List UInt8} {wa wb wc wd:UInt64} (h:numE b=0) (hv:v64 [wa,wb,wc,wd]=be b):NumP b (.tuple #[.agg #[.int .u64 (wa.toNat:Int),.int .u64 (wb.toNat:Int),.int .u64 (wc.toNat:Int),.int .u64 (wd.toNat:Int)],.int .i64 0]) []:=
 ⟨wa,wb,wc,wd,by rw [h];rfl,rfl,by rw [numV,if_pos h,hv]⟩
def OfP (a b c d:UInt64) (v:Value) (L:List Heaplet):Prop:=
 ∃M p k,v=.agg #[.bool false,.slice p (bytesOf (v64 [a,b,c,d])).length k,.slice none 0 0]∧L= [M]∧Row M 5 1 p (bytesOf (v64 [a,b,c,d])).length k (u8s (bytesOf (v64 [a,b,c,d])))
theorem Of_f (a b c d:UInt64):Fn Tryz.prog 113 #[.agg #[.int .u64 (a.toNat:Int),.int .u64 (b.toNat:Int),.int .u64 (c.toNat:Int),.int .u64 (d.toNat:Int)]] [] [] (OfP a b c d):=by
 refine Fn.enter (vs:= [.agg #[.int .u64 (a.toNat:Int),.int .u64 (b.toNat:Int),.int .u64 (c.toNat:Int),.int .u64 (d.toNat:Int)]]) Tryz.func113 U U U ?_
 intro E R hR
 change At _ _ E [R] _
 refine aC fun _ s_1=>aA (op_box aZ U U U (fun N1 b1 B1=>bE aZ ze91 U (fun N2 b2 B2=>?_)))
 change Blk N2 b2 _ [.bool false,.slice none 0 0,.slice none 0 0]at B2
 refine aB (s_1 (aC fun _ s_2=>aA (aY (ds:= [_,_,_,_]) aD ag26 U B1 U U mem1 U (aH aZ (.cons U .nil) (WShort_f a b c d) Tryz.func152 U U (by simp) U ?_))))
 rintro _ _ ⟨M4,p,k,rfl,rfl,r4⟩
 show At _ _ _ [M4,N2,N1,R] _
 refine op_build (out:= [.bool false,_,.slice none 0 0]) aD ze91 pl91 (.cons U .nil) U U (aX nxQ sz91 U U U U U B2 (by simp) sel1 (fun N2 B2=>?_))
 simp only [setL,List.set]at B2
 refine aB (s_2 (aR ((cA (aW (L1:= [M4]) U (.cell U (res_agg (ds:= [_,_,_]) ag91 B2 U U bZ) .nil) (.cons _ (.refl _)) aM ?_)))))
 exact⟨M4,p,k,rfl,rfl,r4⟩
theorem rOf_f (a b c d:UInt64):Fn Tryz.prog 115 #[.agg #[.int .u64 (a.toNat:Int),.int .u64 (b.toNat:Int),.int .u64 (c.toNat:Int),.int .u64 (d.toNat:Int)]] [] [] (OfP a b c d):=by
 refine Fn.enter (vs:= [.agg #[.int .u64 (a.toNat:Int),.int .u64 (b.toNat:Int),.int .u64 (c.toNat:Int),.int .u64 (d.toNat:Int)]]) Tryz.func115 U U U ?_
 intro E R hR
 change At _ _ E [R] _
 refine aC fun _ s_1=>aA (op_box aZ U U U (fun N1 b1 B1=>bE aZ ze91 U (fun N2 b2 B2=>?_)))
 change Blk N2 b2 _ [.bool false,.slice none 0 0,.slice none 0 0]at B2
 refine aB (s_1 (aC fun _ s_2=>aA (aY (ds:= [_,_,_,_]) aD ag26 U B1 U U mem1 U (aH aZ (.cons U .nil) (rShort_f a b c d) Tryz.func154 U U (by simp) U ?_))))
 rintro _ _ ⟨M4,p,k,rfl,rfl,r4⟩
 show At _ _ _ [M4,N2,N1,R] _
 refine op_build (out:= [.bool false,_,.slice none 0 0]) aD ze91 pl91 (.cons U .nil) U U (aX nxQ sz91 U U U U U B2 (by simp) sel1 (fun N2 B2=>?_))
 simp only [setL,List.set]at B2
 refine aB (s_2 (aR ((cA (aW (L1:= [M4]) U (.cell U (res_agg (ds:= [_,_,_]) ag91 B2 U U bZ) .nil) (.cons _ (.refl _)) aM ?_)))))
 exact⟨M4,p,k,rfl,rfl,r4⟩
set_option maxRecDepth 100000
def gaveV (e:Int):Value:=.iface 84 (.agg #[.int .i64 e])
theorem tk_all {cs:List Value} {k:Nat} (h:cs.length=k):(cs.drop 0).take k=cs:=by rw [List.drop_zero,List.take_of_length_le (by omega)]
section
variable {bt be : Nat} {Nt Ne : Heaplet} {cs : List Value} {x : Value} {e : Int}
end
def rolN (v:UInt64) (n:Nat):UInt64:=if n=0 then v else shl64 v n |||shr64 v (64- n)
theorem rol_go {v:UInt64} {n:Nat} (h:n<64):shl64 v n |||shr64 v (64- n)=rolN v n:=by
 unfold rolN
 split
 ·rename_i h0
  subst h0
  apply UInt64.toNat_inj.1
  rw [UInt64.toNat_or,shl64_nat,shr64_nat,Nat.pow_zero,Nat.mul_one,Nat.mod_eq_of_lt v.toNat_lt,Nat.div_eq_of_lt v.toNat_lt,Nat.or_zero]
 ·rfl
def rI:Nat→Int
 |0=>1
 |n+1=>bits .xor .u8 (IntKind.u8.wrap (rI n*2^(min (1:Int).toNat IntKind.u8.bits))) (IntKind.u8.wrap (rI n/2^(min (7:Int).toNat IntKind.u8.bits)*113))
def cStep (l:List UInt64) (n:Nat):List UInt64:=l.set (n/7) (l.getD (n/7) 0 |||shl64 (UInt64.ofNat (bits .and .u8 (rI n) 1).toNat) (shl64 1 (n % 7)- 1).toNat)
def cN:Nat→List UInt64
 |0=>List.replicate 24 0
 |n+1=>cStep (cN n) n
theorem cN_len: ∀n,(cN n).length=24
 |0=>rfl
 |n+1=>by rw [cN,cStep,List.length_set,cN_len n]
def rcL:List UInt64:=cN 168
def rJ:Nat→Int
 |0=>1
 |n+1=>if rJ n*2≥256 then bits .xor .i64 (rJ n*2- 256) 113 else rJ n*2
def wJ (r:Nat):Nat→UInt64
 |0=>0
 |n+1=>if 7*r≤n∧bits .and .i64 (rJ n) 1=1 then wJ r n |||shl64 1 (shl64 1 (n- 7*r)- 1).toNat else wJ r n
set_option maxRecDepth 100000 in
theorem rI_ok: ∀n:Fin 169,0≤rI n.1∧rI n.1≤255∧0≤bits .and .u8 (rI n.1) 1:=by decide+kernel
set_option maxRecDepth 100000 in
theorem rJ_ok: ∀n:Fin 169,0≤rJ n.1∧rJ n.1≤255:=by decide+kernel
set_option maxRecDepth 100000 in
theorem wJ_ok: ∀r:Fin 24,wJ r.1 (7*r.1+7)=rcL.getD r.1 0:=by decide+kernel
def thC (a:List UInt64):Nat→List UInt64
 |0=> [0,0,0,0,0]
 |i+1=>(thC a i).set (i % 5) ((thC a i).getD (i % 5) 0^^^a.getD i 0)
theorem thC_len (a:List UInt64): ∀i,(thC a i).length=5
 |0=>rfl
 |i+1=>by rw [thC,List.length_set,thC_len a i]
def thA (c a:List UInt64):Nat→List UInt64
 |0=>a
 |i+1=>(thA c a i).set i ((thA c a i).getD i 0^^^(c.getD ((i % 5+4) % 5) 0^^^rolN (c.getD ((i % 5+1) % 5) 0) 1))
theorem thA_len (c a:List UInt64): ∀i,(thA c a i).length=a.length
 |0=>rfl
 |i+1=>by rw [thA,List.length_set,thA_len c a i]
def theta (a:List UInt64):List UInt64:=thA (thC a 25) a 25
theorem theta_len (a:List UInt64):(theta a).length=a.length:=thA_len ..
def pX:Nat→Nat×Nat
 |0=>(1,0)
 |t+1=>((pX t).2,(2*(pX t).1+3*(pX t).2) % 5)
theorem pX_lt: ∀t,(pX t).1<5∧(pX t).2<5
 |0=>⟨by decide,by decide⟩
 |t+1=>⟨(pX_lt t).2,Nat.mod_lt _ (by decide)⟩
def pos (t:Nat):Nat:=(pX t).1+5*(pX t).2
theorem pos_lt (t:Nat):pos t<25:=by
 have:=pX_lt t
 unfold pos;omega
def rot (t:Nat):Nat:=(t+1)*(t+2)/2 % 64
def tuP (a:List UInt64):Nat→List UInt64×UInt64
 |0=>(a,a.getD 1 0)
 |t+1=>((tuP a t).1.set (pos (t+1)) (rolN (tuP a t).2 (rot t)),(tuP a t).1.getD (pos (t+1)) 0)
theorem tuP_len (a:List UInt64): ∀t,(tuP a t).1.length=a.length
 |0=>rfl
 |t+1=>by rw [tuP];simp only [List.length_set];exact tuP_len a t
def tuR (a:List UInt64):Nat→List UInt64
 |0=>(List.replicate 25 0).set 0 (a.getD 0 0)
 |t+1=>(tuR a t).set (pos (t+1)) (rolN (a.getD (pos t) 0) (rot t))
theorem tuR_len (a:List UInt64): ∀t,(tuR a t).length=25
 |0=>by rw [tuR,List.length_set,List.length_replicate]
 |t+1=>by rw [tuR,List.length_set,tuR_len a t]
theorem pos_apart: ∀s:Fin 25, ∀t:Fin 25,pos s.1=pos t.1→(s.1 % 24=t.1 % 24):=by decide+kernel
theorem pos_full: ∀j:Fin 25,j.1=0∨ ∃s:Fin 24,pos (s.1+1)=j.1:=by decide+kernel
theorem pos_pos: ∀s:Fin 25,0<pos s.1:=by decide+kernel
theorem kgetD_ne {l:List UInt64} {i j:Nat} {x:UInt64} (h:i≠j):(l.set i x).getD j 0=l.getD j 0:=by
 rw [List.getD_eq_getElem?_getD,List.getD_eq_getElem?_getD,List.getElem?_set_ne h]
theorem kgetD_eq {l:List UInt64} {i:Nat} {x:UInt64} (h:i<l.length):(l.set i x).getD i 0=x:=by
 rw [List.getD_eq_getElem?_getD,List.getElem?_set_self h];rfl
theorem tuP_at {a:List UInt64} (ha:a.length=25): ∀t,t≤24→(∀s,s<t→(tuP a t).1.getD (pos (s+1)) 0=rolN (a.getD (pos s) 0) (rot s))∧(∀j,(∀s,s<t→pos (s+1)≠j)→(tuP a t).1.getD j 0=a.getD j 0)∧(tuP a t).2=a.getD (pos t) 0
 |0,_=>⟨fun s h=>absurd h (Nat.not_lt_zero _),fun j _=>rfl,rfl⟩
 |t+1,ht=>by
  obtain⟨h1,h2,h3⟩:=tuP_at ha t (by omega)
  have hl:(tuP a t).1.length=25:=(tuP_len a t).trans ha
  refine⟨fun s hs=>?_,fun j hj=>?_,?_⟩
  ·rw [tuP]
   by_cases e:s=t
   ·subst e
    show((tuP a s).1.set (pos (s+1)) _).getD (pos (s+1)) 0=_
    rw [kgetD_eq (by rw [hl];exact pos_lt _),h3]
   ·have hne:pos (t+1)≠pos (s+1):=fun e2=>by
     have:=pos_apart ⟨t+1,by omega⟩ ⟨s+1,by omega⟩ e2
     simp only at this
     omega
    show((tuP a t).1.set (pos (t+1)) _).getD (pos (s+1)) 0=_
    rw [kgetD_ne hne,h1 s (by omega)]
  ·rw [tuP]
   show((tuP a t).1.set (pos (t+1)) _).getD j 0=_
   rw [kgetD_ne (hj t (by omega)),h2 j fun s hs=>hj s (by omega)]
  ·rw [tuP]
   show(tuP a t).1.getD (pos (t+1)) 0=_
   refine h2 _ fun s hs e2=>?_
   have:=pos_apart ⟨s+1,by omega⟩ ⟨t+1,by omega⟩ e2
   simp only at this
   omega
theorem tuR_at (a:List UInt64): ∀t,t≤24→(∀s,s<t→(tuR a t).getD (pos (s+1)) 0=rolN (a.getD (pos s) 0) (rot s))∧(tuR a t).getD 0 0=a.getD 0 0
 |0,_=>⟨fun s h=>absurd h (Nat.not_lt_zero _),by rw [tuR,kgetD_eq (by rw [List.length_replicate];decide)]⟩
 |t+1,ht=>by
  obtain⟨h1,h2⟩:=tuR_at a t (by omega)
  refine⟨fun s hs=>?_,?_⟩
  ·rw [tuR]
   by_cases e:s=t
   ·subst e
    rw [kgetD_eq (by rw [tuR_len];exact pos_lt _)]
   ·have hne:pos (t+1)≠pos (s+1):=fun e2=>by
     have:=pos_apart ⟨t+1,by omega⟩ ⟨s+1,by omega⟩ e2
     simp only at this
     omega
    rw [kgetD_ne hne,h1 s (by omega)]
  ·rw [tuR,kgetD_ne (by have:=pos_pos ⟨t+1,by omega⟩;simp only at this;omega),h2]
theorem ext_getD {a b:List UInt64} (hl:a.length=b.length) (h: ∀j,j<a.length→a.getD j 0=b.getD j 0):a=b:=by
 apply List.ext_getElem hl
 intro i h1 h2
 have:=h i h1
 rwa [List.getD_eq_getElem?_getD,List.getD_eq_getElem?_getD,List.getElem?_eq_getElem h1,List.getElem?_eq_getElem h2]at this
theorem tu_eq {a:List UInt64} (ha:a.length=25):(tuP a 24).1=tuR a 24:=by
 have hl:(tuP a 24).1.length=25:=(tuP_len a 24).trans ha
 refine ext_getD (by rw [hl,tuR_len]) fun j hj=>?_
 obtain⟨h1,h2,_⟩:=tuP_at ha 24 (Nat.le_refl _)
 obtain⟨k1,k2⟩:=tuR_at a 24 (Nat.le_refl _)
 rcases pos_full ⟨j,by omega⟩with e|⟨s,e⟩
 ·have e0:j=0:=e
  subst e0
  rw [k2,h2 0 fun s hs=>by have:=pos_pos ⟨s+1,by omega⟩;simp only at this;omega]
 ·have e1:pos (s.1+1)=j:=e
  rw [←e1,h1 s.1 s.2,k1 s.1 s.2]
def chL (b:List UInt64) (y x:Nat):UInt64:=b.getD (y+x) 0^^^(~~~(b.getD (y+(x+1) % 5) 0)&&&b.getD (y+(x+2) % 5) 0)
def chI (row p:List UInt64) (y:Nat):Nat→List UInt64
 |0=>p
 |x+1=>(chI row p y x).set (y+x) (row.getD x 0^^^(~~~(row.getD ((x+1) % 5) 0)&&&row.getD ((x+2) % 5) 0))
theorem chI_len (row p:List UInt64) (y:Nat): ∀x,(chI row p y x).length=p.length
 |0=>rfl
 |x+1=>by rw [chI,List.length_set,chI_len row p y x]
def chP (a:List UInt64):Nat→List UInt64
 |0=>a
 |k+1=>chI (((chP a k).drop (5*k)).take 5) (chP a k) (5*k) 5
theorem chP_len (a:List UInt64): ∀k,(chP a k).length=a.length
 |0=>rfl
 |k+1=>by rw [chP,chI_len,chP_len a k]
def chR (b a:List UInt64):Nat→List UInt64
 |0=>a
 |i+1=>(chR b a i).set i (b.getD i 0^^^(~~~(b.getD (i- i % 5+(i+1) % 5) 0)&&&b.getD (i- i % 5+(i+2) % 5) 0))
theorem chR_len (b a:List UInt64): ∀i,(chR b a i).length=a.length
 |0=>rfl
 |i+1=>by rw [chR,List.length_set,chR_len b a i]
theorem chR_at {b a:List UInt64} (ha:a.length=25): ∀i,i≤25→ ∀j,j<i→(chR b a i).getD j 0=chL b (j- j % 5) (j % 5)
 |0,_,j,h=>absurd h (Nat.not_lt_zero _)
 |i+1,hi,j,h=>by
  rw [chR]
  by_cases e:j=i
  ·subst e
   rw [kgetD_eq (by rw [chR_len,ha];omega),chL,show j- j % 5+j % 5=j by omega,show(j % 5+1) % 5=(j+1) % 5 by omega,show(j % 5+2) % 5=(j+2) % 5 by omega]
  ·rw [kgetD_ne (by omega),chR_at ha i (by omega) j (by omega)]
theorem row_at {l:List UInt64} {y x:Nat} (hx:x<5):((l.drop y).take 5).getD x 0=l.getD (y+x) 0:=by
 rw [List.getD_eq_getElem?_getD,List.getElem?_take,if_pos hx,List.getElem?_drop, ←List.getD_eq_getElem?_getD]
theorem chI_at {row p:List UInt64} {y:Nat} (hp:y+5≤p.length): ∀x,x≤5→(∀s,s<x→(chI row p y x).getD (y+s) 0=row.getD s 0^^^(~~~(row.getD ((s+1) % 5) 0)&&&row.getD ((s+2) % 5) 0))∧(∀j,j<y∨y+x≤j→(chI row p y x).getD j 0=p.getD j 0)
 |0,_=>⟨fun s h=>absurd h (Nat.not_lt_zero _),fun j _=>rfl⟩
 |x+1,hx=>by
  obtain⟨h1,h2⟩:=chI_at hp x (by omega)
  refine⟨fun s hs=>?_,fun j hj=>?_⟩
  ·rw [chI]
   by_cases e:s=x
   ·subst e
    rw [kgetD_eq (by rw [chI_len];omega)]
   ·rw [kgetD_ne (by omega),h1 s (by omega)]
  ·rw [chI,kgetD_ne (by omega),h2 j (by omega)]
theorem chP_at {b:List UInt64} (hb:b.length=25): ∀k,k≤5→(∀j,j<5*k→(chP b k).getD j 0=chL b (j- j % 5) (j % 5))∧(∀j,5*k≤j→(chP b k).getD j 0=b.getD j 0)
 |0,_=>⟨fun j h=>absurd h (by omega),fun j _=>rfl⟩
 |k+1,hk=>by
  obtain⟨h1,h2⟩:=chP_at hb k (by omega)
  have hl:(chP b k).length=25:=(chP_len b k).trans hb
  obtain⟨c1,c2⟩:=chI_at (row:=((chP b k).drop (5*k)).take 5) (p:=chP b k) (y:=5*k) (by omega) 5 (Nat.le_refl _)
  refine⟨fun j hj=>?_,fun j hj=>?_⟩
  ·rw [chP]
   by_cases e:j<5*k
   ·rw [c2 j (.inl e),h1 j e]
   ·obtain⟨s,rfl⟩: ∃s,j=5*k+s:=⟨j- 5*k,by omega⟩
    rw [c1 s (by omega),row_at (by omega),row_at (Nat.mod_lt _ (by decide)),row_at (Nat.mod_lt _ (by decide)),h2 _ (by omega),h2 _ (by omega),h2 _ (by omega),chL,show 5*k+s- (5*k+s) % 5=5*k by omega,show(5*k+s) % 5=s by omega]
  ·rw [chP,c2 j (.inr (by omega)),h2 j (by omega)]
theorem ch_eq {b a:List UInt64} (hb:b.length=25) (ha:a.length=25):chP b 5=chR b a 25:=by
 have hl:(chP b 5).length=25:=(chP_len b 5).trans hb
 refine ext_getD (by rw [hl,chR_len,ha]) fun j hj=>?_
 rw [(chP_at hb 5 (Nat.le_refl _)).1 j (by omega),chR_at ha 25 (Nat.le_refl _) j (by omega)]
def kRound (a:List UInt64) (k:Nat):List UInt64:=(chP (tuP (theta a) 24).1 5).set 0 ((chP (tuP (theta a) 24).1 5).getD 0 0^^^rcL.getD k 0)
theorem kRound_len (a:List UInt64) (k:Nat):(kRound a k).length=a.length:=by rw [kRound,List.length_set,chP_len,tuP_len,theta_len]
def prm (a:List UInt64):Nat→List UInt64
 |0=>a
 |k+1=>kRound (prm a k) k
theorem prm_len (a:List UInt64): ∀k,(prm a k).length=a.length
 |0=>rfl
 |k+1=>by rw [prm,kRound_len,prm_len a k]
def abI (a:List UInt64) (l:List UInt8):Nat→List UInt64
 |0=>a
 |i+1=>(abI a l i).set (i/8) ((abI a l i).getD (i/8) 0^^^shl64 (UInt64.ofNat (l.getD i 0).toNat) (i % 8*8))
theorem abI_len (a:List UInt64) (l:List UInt8): ∀i,(abI a l i).length=a.length
 |0=>rfl
 |i+1=>by rw [abI,List.length_set,abI_len a l i]
def absorb (a:List UInt64) (l:List UInt8):List UInt64:=prm (abI a l 136) 24
theorem absorb_len (a:List UInt64) (l:List UInt8):(absorb a l).length=a.length:=by rw [absorb,prm_len,abI_len]
def absN (l:List UInt8):Nat→List UInt64
 |0=>List.replicate 25 0
 |k+1=>absorb (absN l k) ((l.drop (136*k)).take 136)
theorem absN_len (l:List UInt8): ∀k,(absN l k).length=25
 |0=>List.length_replicate
 |k+1=>by rw [absN,absorb_len,absN_len l k]
def padL (r:List UInt8):List UInt8:=
 let z:=(r++List.replicate (136- r.length) 0).set r.length 1
 z.set 135 (z.getD 135 0 |||128)
def ouI (a:List UInt64):Nat→List UInt8
 |0=>List.replicate 32 0
 |i+1=>(ouI a i).set i (UInt8.ofNat (shr64 (a.getD (i/8) 0) (i % 8*8)).toNat)
theorem ouI_len (a:List UInt64): ∀i,(ouI a i).length=32
 |0=>List.length_replicate
 |i+1=>by rw [ouI,List.length_set,ouI_len a i]
def kec (l:List UInt8):List UInt8:=ouI (absorb (absN l (l.length/136)) (padL (l.drop (136*(l.length/136))))) 32
theorem kec_len (l:List UInt8):(kec l).length=32:=ouI_len ..
section
variable {P : Program} {n : Nat} {l : List (Nat × Value)} {E : World} {L Ls : List Heaplet} {X Y : Act → World → Prop} {d : Nat} {t ty e : TypeId} {x : Operand}
theorem op_toArr {alen size len cap:Nat} {ad:Addr} {pos:_} {aft:_} {g:_} (s:NxF P n l E L Ls ⟨some d,.sliceToArrayPointer t x,ty,pos,aft,g⟩ X Y) (ht:aelt P t=some (alen,e,size)) (hx:ev l x=some (.slice (some ad) len cap)) (hl:alen≤len) (hn:Nat.ble (d+1) n=true) (h:At n ((d,.pointer (some ad))::l) E L Y):At n l E L X:=by
 obtain⟨hu,i,hi,hsz⟩:=aelt_spec ht
 refine op_val s (fun a w hf hw=>?_) U hn h
 simp [execOp,hf.eval hx,Instr.arrayAt,run_underlying hu,Nat.not_lt.2 hl]
end
theorem getT {a:List UInt64} {T:List Value} {j:Nat} (h:j<a.length):(u64s a++T)[0+j*1]? =some (.int .u64 ((a.getD j 0).toNat:Int)):=by
 rw [Nat.zero_add,Nat.mul_one,List.getElem?_append_left (by simpa [u64s]using h)]
 exact get64 h
theorem setT {a:List UInt64} {T:List Value} {j:Nat} {x:UInt64} (h:j<a.length):setL (u64s a++T) (0+j*1) [.int .u64 (x.toNat:Int)]=u64s (a.set j x)++T:=by
 rw [Nat.zero_add,Nat.mul_one,setL,setL,List.set_append_left _ _ (by simpa [u64s]using h),set_u64s]
theorem lenT {a:List UInt64} {T:List Value} :(u64s a++T).length=a.length+T.length:=by simp [u64s]
theorem Rot_f (x:UInt64) (k:Nat) (hk:k<64):Fn Tryz.prog 185 #[.int .u64 (x.toNat:Int),.int .i64 (k:Int)] [] [] (fun v L=>v=.int .u64 ((rolN x k).toNat:Int)∧L= []):=by
 have e2:(UInt64.ofNat k).toNat=k:=by rw [UInt64.toNat_ofNat'];omega
 have e:UInt64.ofNat k&&&63=UInt64.ofNat k:=by
  apply UInt64.toNat_inj.1
  rw [UInt64.toNat_and,e2,show(63:UInt64).toNat=2^6- 1 from rfl,Nat.and_two_pow_sub_one_eq_mod,Nat.mod_eq_of_lt (show k<2^6 from hk)]
 have e3:(64- UInt64.ofNat k).toNat=64- k:=by
  rw [UInt64.toNat_sub_of_le _ _ (UInt64.le_iff_toNat_le.2 (by rw [e2];exact Nat.le_of_lt hk)),e2];rfl
 refine Fn.enter (vs:= [.int .u64 (x.toNat:Int),.int .i64 (k:Int)]) Tryz.func185 U U U ?_
 intro E R hR
 change At _ _ E [R] _
 refine aC fun _ s_1=>aA (aG U U (aB (s_1 (aC fun _ s_2=>aA (aF U U (op_conv64 aD (und_some Tryz.underlying3) Tryz.underlying222 U (show _=(((k:Nat)):Int)from by omega) U ?_))))))
 refine op_andU (b:=63) aD U U U ?_
 rw [e]
 refine aG U U (aB (s_2 (aC fun _ s_3=>aA (aF U U (aF U U (op_shlU aD U U (show _=(((k:Nat)):Int)from by omega) U ?_))))))
 refine aF U U (aF U U (op_subU (a:=64) aD U U U (op_shrU aD U U (show _=(((64- k:Nat)):Int)from by omega) U ?_)))
 refine op_orU aD U U U (aG U U (aB (s_3 (aR ((aW (L1:= []) U (.tmp U .nil) (.refl _) aM ?_))))))
 exact⟨by rw [rol_go hk],rfl⟩
set_option maxRecDepth 100000 in
theorem FTheta_f {N:Heaplet} {b0:Nat} {e0:TypeId} {a:List UInt64} {T:List Value} (ha:a.length=25) (B0:Blk N b0 e0 (u64s a++T)):Fn Tryz.prog 177 #[.pointer (some ⟨b0,0,none⟩)] [N] [] (fun v L=> ∃M,v=.tuple #[]∧L= [M]∧Blk M b0 e0 (u64s (theta a)++T)):=by
 obtain⟨N0,h0⟩: ∃N0,N0=N:=⟨_,rfl⟩
 rw [←h0]at B0⊢
 refine Fn.enter (vs:= [.pointer (some ⟨b0,0,none⟩)]) Tryz.func177 U U U ?_
 intro E R hR
 change At _ _ E [N0,R] _
 refine aC fun _ s_1=>aA (bE aZ ze230 U (fun N2 b2 B2=>?_))
 change Blk N2 b2 _ [.int .u64 0,.int .u64 0,.int .u64 0,.int .u64 0,.int .u64 0]at B2
 change Blk N2 b2 _ (u64s (thC a 0))at B2
 refine aB (s_1 (aC fun _ s_2=>aC fun _ s_3=>aA (aF U U (aF U U (aB (s_3 (aT (cF (fun fr_ hp_ ms_=> ∃(i:Nat) (N2:Heaplet),fr_= [(0,.pointer (some ⟨b0,0,none⟩)),(2,.pointer (some ⟨b2,0,none⟩)),(7,.pointer (some ⟨b0,0,none⟩)),(8,.int .i64 (i:Int))]∧hp_= [N2,N0,R]∧25- i=ms_∧(i≤25)∧(Blk N2 b2 230 (u64s (thC a i)))) ?_ aM ⟨0,N2,rfl,rfl,rfl,by omega,B2⟩ ?_))))))))
 ·repeat first|apply bD|exact .nil|exact lkI rfl (by omega)|rfl
 rintro _ _ _ ⟨i,N2,rfl,rfl,rfl,hi,B2⟩
 have hcl:=thC_len a i
 refine aC fun _ s_4=>aA (op_lss aD U U U (aB (s_4 (aC fun _ s_5=>aO U (fun c9=>?_) (fun c9=>?_)))))
 ·refine aQ (aE (s_5 (aC fun _ s_6=>aT (aC fun _ s_7=>At.drawn [] [0,1,2,3,4,5] (by kernel_rfl) (by kernel_rfl) (aL (aS U U U (by kernel_rfl)) U U (op_nilChk (aS U U U (by kernel_rfl)) U U (cI (aS U U U (by kernel_rfl)) ae187 U U (show _=(((i:Nat)):Int)from by omega) (by omega) U ?_)))))))
  refine aV (aS U U U (by kernel_rfl)) sc24 U B0 (by first|exact get64A (by omega)|rfl|exact getT (by first|omega|(rw [thA_len];omega))) mem1 U ?_
  refine bX (aS U U U (by kernel_rfl)) U U (bX (aS U U U (by kernel_rfl)) U U (cG (aE (s_7 (aA (aF U U (op_rem aD U U (by omega) (by omega) U (cI aD ae230 U U (show _=(((i % 5:Nat)):Int)from by omega) (by omega) U ?_))))))))
  refine aV aD sc24 U B2 (by first|exact get64A (by omega)|rfl|exact getT (by first|omega|(rw [thA_len];omega))) bZ U ?_
  refine aF U U (op_xorU aD U U U (cI aD ae230 U U (show _=(((i % 5:Nat)):Int)from by omega) (by omega) U ?_))
  refine aX nxQ sz24 U U U U U B2 (by simp<;>omega) sel0 (fun N2 B2=>?_)
  rw [set64A]at B2
  refine At.opsNil (a0 (aE (s_6 (aA (a6 aD U U (by omega) (by omega) U (aF U U (aB (bQ ?_ aM ⟨i+1,N2,rfl,rfl,rfl,by omega,B2⟩ ?_))))))))
  ·repeat first|apply bD|exact .nil|exact lkI rfl (by omega)|rfl
  ·omega
 refine bW (aK (aK (bH (aE (s_2 (aC fun _ s_8=>aA (aF U U (aB (s_8 (aT ?_))))))))))
 obtain rfl:i=25:=by omega
 change Blk N0 b0 _ (u64s (thA (thC a 25) a 0)++T)at B0
 refine cF (fun fr_ hp_ ms_=> ∃(j:Nat) (N0:Heaplet),fr_= [(0,.pointer (some ⟨b0,0,none⟩)),(2,.pointer (some ⟨b2,0,none⟩)),(22,.int .i64 (j:Int))]∧hp_= [N2,N0,R]∧25- j=ms_∧(j≤25)∧(Blk N0 b0 e0 (u64s (thA (thC a 25) a j)++T))) ?_ aM ⟨0,N0,rfl,rfl,rfl,by omega,B0⟩ ?_
 ·repeat first|apply bD|exact .nil|exact lkI rfl (by omega)|rfl
 rintro _ _ _ ⟨j,N0,rfl,rfl,rfl,hj,B0⟩
 have hal:=thA_len (thC a 25) a j
 refine aC fun _ s_9=>aA (op_lss aD U U U (aB (s_9 (aC fun _ s_10=>aO U (fun c23=>?_) (fun c23=>?_)))))
 ·refine aQ (aE (s_10 (aC fun _ s_11=>aT (aC fun _ s_12=>aA (aF U U (aG U U (aB (s_12 (aC fun _ s_13=>aA (aF U U (op_rem aD U U (by omega) (by omega) U (aG U U (aB (s_13 (At.drawn [20] [0,1,2,3,4,5,6,7,8,9,10,11,12,13,14,18,15,16,17,19,20] (by kernel_rfl) (by kernel_rfl) (aL (aS U U U (by kernel_rfl)) U U (aL (aS U U U (by kernel_rfl)) U U (op_nilChk (aS U U U (by kernel_rfl)) U U (cI (aS U U U (by kernel_rfl)) ae187 U U (show _=(((j:Nat)):Int)from by omega) (by omega) U ?_)))))))))))))))))))
  refine aV (aS U U U (by kernel_rfl)) sc24 U B0 (by first|exact get64A (by omega)|rfl|exact getT (by first|omega|(rw [thA_len];omega))) mem1 U ?_
  refine aL (aS U U U (by kernel_rfl)) U U (a6 (aS U U U (by kernel_rfl)) U U (by omega) (by omega) U (op_rem (aS U U U (by kernel_rfl)) U U (by omega) (by omega) U (cI (aS U U U (by kernel_rfl)) ae230 U U (show _=((((j % 5+4) % 5:Nat)):Int)from by omega) (by omega) U ?_)))
  refine aV (aS U U U (by kernel_rfl)) sc24 U B2 (by first|exact get64A (by omega)|rfl|exact getT (by first|omega|(rw [thA_len];omega))) bZ U ?_
  refine aL (aS U U U (by kernel_rfl)) U U (a6 (aS U U U (by kernel_rfl)) U U (by omega) (by omega) U (op_rem (aS U U U (by kernel_rfl)) U U (by omega) (by omega) U (cI (aS U U U (by kernel_rfl)) ae230 U U (show _=((((j % 5+1) % 5:Nat)):Int)from by omega) (by omega) U ?_)))
  refine aV (aS U U U (by kernel_rfl)) sc24 U B2 (by first|exact get64A (by omega)|rfl|exact getT (by first|omega|(rw [thA_len];omega))) bZ U ?_
  refine op_nilChk (aS U U U (by kernel_rfl)) U U (aH (nxoa U U U) (.cons U (.cons U .nil)) (Rot_f ((thC a 25).getD ((j % 5+1) % 5) 0) 1 (by decide)) Tryz.func185 U U (by simp) U ?_)
  rintro _ _ ⟨rfl,rfl⟩
  show At _ _ _ [N2,N0,R] _
  refine op_xorU (aS U U U (by kernel_rfl)) U U U (op_xorU (aS U U U (by kernel_rfl)) U U U (cI (aS U U U (by kernel_rfl)) ae187 U U (show _=(((j:Nat)):Int)from by omega) (by omega) U ?_))
  refine aX (nxos U U U U) sz24 U U U U U B0 (by rw [lenT];simp;omega) sel1 (fun N0 B0=>?_)
  rw [setT (by omega)]at B0
  refine cG (a0 (aE (s_11 (aA (a6 aD U U (by omega) (by omega) U (aF U U (aB (bR (permSel1 (bR (bQ ?_ aM ⟨j+1,N0,rfl,rfl,rfl,by omega,B0⟩ ?_)))))))))))
  ·repeat first|apply bD|exact .nil|exact lkI rfl (by omega)|rfl
  ·omega
 refine bW (aK (aK (bH (bP (At.retNE (L1:= [N0]) U .nil U (.refl _) aM ?_)))))
 obtain rfl:j=25:=by omega
 exact⟨N0,rfl,rfl,B0⟩
set_option maxRecDepth 100000 in
set_option maxHeartbeats 1000000 in
theorem FTurn_f {N:Heaplet} {b0:Nat} {e0:TypeId} {a:List UInt64} {T:List Value} (ha:a.length=25) (B0:Blk N b0 e0 (u64s a++T)):Fn Tryz.prog 178 #[.pointer (some ⟨b0,0,none⟩)] [N] [] (fun v L=> ∃M,v=.tuple #[]∧L= [M]∧Blk M b0 e0 (u64s (tuP a 24).1++T)):=by
 obtain⟨N0,h0⟩: ∃N0,N0=N:=⟨_,rfl⟩
 rw [←h0]at B0⊢
 refine Fn.enter (vs:= [.pointer (some ⟨b0,0,none⟩)]) Tryz.func178 U U U ?_
 intro E R hR
 change At _ _ E [N0,R] _
 refine aC fun _ s_1=>At.drawn [] [0,1,2,3,4,5,6] (by kernel_rfl) (by kernel_rfl) (aL (aS U U U (by kernel_rfl)) U U (op_nilChk (aS U U U (by kernel_rfl)) U U (cI (aS U U U (by kernel_rfl)) ae187 U U (show _=(((1:Nat)):Int)from by omega) (by omega) U ?_)))
 refine aV (aS U U U (by kernel_rfl)) sc24 U B0 (by first|exact get64A (by omega)|rfl|exact getT (by omega)) bZ U ?_
 refine bX (aS U U U (by kernel_rfl)) U U (bX (aS U U U (by kernel_rfl)) U U (bX (aS U U U (by kernel_rfl)) U U (cG (aE (s_1 (aC fun _ s_2=>aA (aF U U (aB (s_2 (aT (cF (fun fr_ hp_ ms_=> ∃(t:Nat) (N0:Heaplet),fr_= [(0,.pointer (some ⟨b0,0,none⟩)),(2,.int .i64 ((pX t).1:Int)),(3,.int .i64 ((pX t).2:Int)),(4,.int .u64 ((tuP a t).2.toNat:Int)),(11,.int .i64 (t:Int))]∧hp_= [N0,R]∧24- t=ms_∧(t≤24)∧(Blk N0 b0 e0 (u64s (tuP a t).1++T))) ?_ aM ⟨0,N0,rfl,rfl,rfl,by omega,B0⟩ ?_)))))))))))
 ·repeat first|apply bD|exact .nil|exact lkI rfl (by omega)|rfl
 rintro _ _ _ ⟨t,N0,rfl,rfl,rfl,ht,B0⟩
 have hal:=(tuP_len a t).trans ha
 have hx:=pX_lt t
 have hp1:(pX (t+1)).1=(pX t).2:=rfl
 have hp2:(pX (t+1)).2=(2*(pX t).1+3*(pX t).2) % 5:=rfl
 have hpos:pos (t+1)=(pX t).2+5*((2*(pX t).1+3*(pX t).2) % 5):=rfl
 have hpl:=pos_lt (t+1)
 have hm:((t:Int)+1)*((t:Int)+2)=(((t+1)*(t+2):Nat):Int):=by simp
 have hm2:(t+1)*(t+2)≤25*26:=Nat.mul_le_mul (by omega) (by omega)
 obtain⟨m,hmm⟩: ∃m,(t+1)*(t+2)=m:=⟨_,rfl⟩
 have hrot:rot t=m/2 % 64:=by rw [rot,hmm]
 rw [hmm]at hm hm2
 refine aC fun _ s_3=>aA (op_lss aD U U U (aB (s_3 (aC fun _ s_4=>aO U (fun c12=>?_) (fun c12=>?_)))))
 ·refine aQ (aE (s_4 (aC fun _ s_5=>aT (aC fun _ s_6=>aA (aF U U (aG U U (aB (s_6 (aC fun _ s_7=>aA (aF U U (aF U U (op_mulI aD U U (by omega) (by omega) U (aF U U (op_mulI aD U U (by omega) (by omega) U (a6 aD U U (by omega) (by omega) U (op_rem aD U U (by omega) (by omega) U (aG U U (aG U U (aB (s_7 (aC fun _ s_8=>aA (aF U U (aF U U (op_mulI aD U U (by omega) (by omega) U (a6 aD U U (by omega) (by omega) U (aG U U (aB (s_8 (At.drawn [18] [0,1,2,3,4,5,6,7,8,9,11,12,13,14,15,16,10,17,18,19] (by kernel_rfl) (by kernel_rfl) (aL (aS U U U (by kernel_rfl)) U U (aL (aS U U U (by kernel_rfl)) U U (aL (aS U U U (by kernel_rfl)) U U (aL (aS U U U (by kernel_rfl)) U U (a6 (aS U U U (by kernel_rfl)) U U (by omega) (by omega) U (aL (aS U U U (by kernel_rfl)) U U (a6 (aS U U U (by kernel_rfl)) U U (by omega) (by omega) U ?_))))))))))))))))))))))))))))))))))))
  -- an operation that writes, not last
  refine op_mulI (aS U U U (by kernel_rfl)) U U (by rw [hm];omega) (by rw [hm];omega) U ?_
  rw [hm]
  refine op_quoI (aS U U U (by kernel_rfl)) U U (by omega) (by omega) (by omega) U (op_rem (aS U U U (by kernel_rfl)) U U (by omega) (by omega) U ?_)
  rw [show(m:Int)/2 % 64=((rot t:Nat):Int)from by omega]
  refine aL (aS U U U (by kernel_rfl)) U U (aL (aS U U U (by kernel_rfl)) U U (op_nilChk (aS U U U (by kernel_rfl)) U U (cI (aS U U U (by kernel_rfl)) ae187 U U (show _=(((pos (t+1):Nat)):Int)from by omega) (by omega) U ?_)))
  refine aV (aS U U U (by kernel_rfl)) sc24 U B0 (by first|exact get64A (by omega)|rfl|exact getT (by omega)) bZ U ?_
  refine op_nilChk (aS U U U (by kernel_rfl)) U U (aH (nxoa U U U) (.cons U (.cons U .nil)) (Rot_f (tuP a t).2 (rot t) (by omega)) Tryz.func185 U U (by simp) U ?_)
  rintro _ _ ⟨rfl,rfl⟩
  show At _ _ _ [N0,R] _
  refine cI (aS U U U (by kernel_rfl)) ae187 U U (show _=(((pos (t+1):Nat)):Int)from by omega) (by omega) U ?_
  refine aX (nxos U U U U) sz24 U U U U U B0 (by rw [lenT];simp;omega) sel0 (fun N0 B0=>?_)
  rw [setT (by omega)]at B0
  refine bX (aS U U U (by kernel_rfl)) U U (cG (a0 (aE (s_5 (aA (a6 aD U U (by omega) (by omega) U (aF U U (aB (bQ ?_ aM ⟨t+1,N0,rfl,rfl,rfl,by omega,B0⟩ ?_)))))))))
  ·repeat first|apply bD|exact .nil|exact lkI rfl (by omega)|rfl
  ·omega
 refine bW (aK (aK (bH (At.retNE (L1:= [N0]) U .nil U (.refl _) aM ?_))))
 obtain rfl:t=24:=by omega
 exact⟨N0,rfl,rfl,B0⟩
theorem cutL {a m b:List Value} {k n:Nat} (ha:a.length=k) (hm:m.length=n):((a++(m++b)).drop k).take n=m:=by
 subst ha;subst hm
 rw [List.drop_left,List.take_left]
theorem all64 (l:List UInt64):(u64s l).all (·.oneCell')=true:=List.all_eq_true.2 (one_u64s l)
theorem row_cells {a:List UInt64} {T:List Value} {y:Nat} (h:y+5≤a.length):((u64s a++T).drop (0+y*1)).take 5=u64s ((a.drop y).take 5):=by
 have e:u64s a=u64s (a.take y)++(u64s ((a.drop y).take 5)++u64s (a.drop (y+5))):=by
  conv=>lhs;rw [←List.take_append_drop y a, ←List.take_append_drop 5 (a.drop y),List.drop_drop]
  simp [u64s]
 rw [e,Nat.zero_add,Nat.mul_one,List.append_assoc,List.append_assoc]
 exact cutL (by simp [u64s];omega) (by simp [u64s];omega)
set_option maxRecDepth 100000 in
set_option maxHeartbeats 1000000 in
theorem FChi_f {N:Heaplet} {b0:Nat} {e0:TypeId} {a:List UInt64} {T:List Value} (ha:a.length=25) (B0:Blk N b0 e0 (u64s a++T)):Fn Tryz.prog 179 #[.pointer (some ⟨b0,0,none⟩)] [N] [] (fun v L=> ∃M,v=.tuple #[]∧L= [M]∧Blk M b0 e0 (u64s (chP a 5)++T)):=by
 obtain⟨N0,h0⟩: ∃N0,N0=N:=⟨_,rfl⟩
 rw [←h0]at B0⊢
 refine Fn.enter (vs:= [.pointer (some ⟨b0,0,none⟩)]) Tryz.func179 U U U ?_
 intro E R hR
 change At _ _ E [N0,R] _
 refine aC fun _ s_1=>aA (aG U U (aB (s_1 (aT (cF (fun fr_ hp_ ms_=> ∃(k:Nat) (N0:Heaplet),fr_= [(0,.pointer (some ⟨b0,0,none⟩)),(2,.int .i64 (5*(k:Int)))]∧hp_= [N0,R]∧5- k=ms_∧(k≤5)∧(Blk N0 b0 e0 (u64s (chP a k)++T))) ?_ aM ⟨0,N0,rfl,rfl,rfl,by omega,B0⟩ ?_)))))
 ·repeat first|apply bD|exact .nil|exact lkI rfl (by omega)|rfl
 rintro _ _ _ ⟨k,N0,rfl,rfl,rfl,hk,B0⟩
 have hal:=(chP_len a k).trans ha
 refine aC fun _ s_2=>aC fun _ s_3=>aA (aF U U (op_lss aD U U U (aB (s_3 (aO U (fun c6=>?_) (fun c6=>?_))))))
 ·refine aQ (aE (s_2 (aC fun _ s_4=>aT (aC fun _ s_5=>aA (aF U U (op_nilChk aD U U (aF U U (aF U U (a6 aD U U (by omega) (by omega) U (op_sliceA aD ae187 U (.some U (show _=(((5*k:Nat)):Int)from by omega)) (.some U (show _=(((5*k+5:Nat)):Int)from by omega)) .none (by omega) (by omega) (by omega) (by simp) U ?_))))))))))
  rw [if_neg (by omega)]
  have hrl:(((chP a k).drop (5*k)).take 5).length=5:=by rw [List.length_take,List.length_drop];omega
  have hrc:=row_cells (a:=chP a k) (T:=T) (y:=5*k) (by omega)
  obtain⟨row,hrow⟩: ∃row,row=((chP a k).drop (5*k)).take 5:=⟨_,rfl⟩
  rw [←hrow]at hrl hrc
  refine op_toArr aD ae230 U (by omega) U (aY (ds:=u64s row) aD ag230 U B0 hrc (by simp [u64s,hrl]) bZ U ?_)
  refine bE aZ ze230 U (fun N3 b3 B3=>?_)
  change Blk N3 b3 _ [.int .u64 0,.int .u64 0,.int .u64 0,.int .u64 0,.int .u64 0]at B3
  refine aX nxQ sz230 U U U (by simp [u64s,hrl]) (all64 _) B3 (by simp [u64s,hrl]) sel0 (fun N3 B3=>?_)
  rw [setL_whole (by simp [u64s,hrl])]at B3
  refine aB (s_5 (aC fun _ s_6=>aA (aF U U (aB (s_6 (aT ?_))))))
  change Blk N0 b0 _ (u64s (chI row (chP a k) (5*k) 0)++T)at B0
  refine cF (fun fr_ hp_ ms_=> ∃(x:Nat) (N0:Heaplet),fr_= [(0,.pointer (some ⟨b0,0,none⟩)),(2,.int .i64 (5*(k:Int))),(3,.pointer (some ⟨b3,0,none⟩)),(17,.int .i64 (x:Int))]∧hp_= [N3,N0,R]∧5- x=ms_∧(x≤5)∧(Blk N0 b0 e0 (u64s (chI row (chP a k) (5*k) x)++T))) ?_ aM ⟨0,N0,rfl,rfl,rfl,by omega,B0⟩ ?_
  ·repeat first|apply bD|exact .nil|exact lkI rfl (by omega)|rfl
  rintro _ _ _ ⟨x,N0,rfl,rfl,rfl,hx,B0⟩
  have hcl:=chI_len row (chP a k) (5*k) x
  refine aC fun _ s_7=>aA (op_lss aD U U U (aB (s_7 (aC fun _ s_8=>aO U (fun c18=>?_) (fun c18=>?_)))))
  ·refine aQ (aE (s_8 (aC fun _ s_9=>aT (aC fun _ s_10=>aA (aF U U (aG U U (aB (s_10 (At.drawn [22] [0,1,2,3,4,5,6,7,8,9,10,11,12,13,14,15,16,17,18,19,20,21,22] (by kernel_rfl) (by kernel_rfl) (aL (aS U U U (by kernel_rfl)) U U (aL (aS U U U (by kernel_rfl)) U U (aL (aS U U U (by kernel_rfl)) U U (a6 (aS U U U (by kernel_rfl)) U U (by omega) (by omega) U (aL (aS U U U (by kernel_rfl)) U U (cI (aS U U U (by kernel_rfl)) ae230 U U (show _=(((x:Nat)):Int)from by omega) (by omega) U ?_)))))))))))))))
   refine aV (aS U U U (by kernel_rfl)) sc24 U B3 (by first|exact get64A (by omega)|rfl) bZ U ?_
   refine aL (aS U U U (by kernel_rfl)) U U (a6 (aS U U U (by kernel_rfl)) U U (by omega) (by omega) U (op_rem (aS U U U (by kernel_rfl)) U U (by omega) (by omega) U (cI (aS U U U (by kernel_rfl)) ae230 U U (show _=((((x+1) % 5:Nat)):Int)from by omega) (by omega) U ?_)))
   refine aV (aS U U U (by kernel_rfl)) sc24 U B3 (by first|exact get64A (by omega)|rfl) bZ U ?_
   refine op_compU (aS U U U (by kernel_rfl)) U U (aL (aS U U U (by kernel_rfl)) U U (a6 (aS U U U (by kernel_rfl)) U U (by omega) (by omega) U (op_rem (aS U U U (by kernel_rfl)) U U (by omega) (by omega) U (cI (aS U U U (by kernel_rfl)) ae230 U U (show _=((((x+2) % 5:Nat)):Int)from by omega) (by omega) U ?_))))
   refine aV (aS U U U (by kernel_rfl)) sc24 U B3 (by first|exact get64A (by omega)|rfl) bZ U ?_
   refine op_andU (aS U U U (by kernel_rfl)) U U U (op_xorU (aS U U U (by kernel_rfl)) U U U (op_nilChk (aS U U U (by kernel_rfl)) U U (cI (aS U U U (by kernel_rfl)) ae187 U U (show _=(((5*k+x:Nat)):Int)from by omega) (by omega) U ?_)))
   refine aX (nxos U U U U) sz24 U U U U U B0 (by rw [lenT];simp;omega) sel1 (fun N0 B0=>?_)
   rw [setT (by omega)]at B0
   refine cG (a0 (aE (s_9 (aA (a6 aD U U (by omega) (by omega) U (aF U U (aB (bR (permSel1 (bR (bQ ?_ aM ⟨x+1,N0,rfl,rfl,rfl,by omega,B0⟩ ?_)))))))))))
   ·repeat first|apply bD|exact .nil|exact lkI rfl (by omega)|rfl
   ·omega
  refine bW (aK (aK (bH (a0 (aE (s_4 (aA ?_)))))))
  obtain rfl:x=5:=by omega
  rw [hrow]at B0
  refine aF U U (a6 aD U U (by omega) (by omega) U (aG U U (aB (bP (bQ ?_ aM ⟨k+1,N0,rfl,rfl,rfl,by omega,B0⟩ ?_)))))
  ·repeat first|apply bD|exact .nil|exact lkI rfl (by omega)|rfl
  ·omega
 refine bW (aK (aK (bH (At.retNE (L1:= [N0]) U .nil U (.refl _) aM ?_))))
 obtain rfl:k=5:=by omega
 exact⟨N0,rfl,rfl,B0⟩
set_option maxRecDepth 100000 in
set_option maxHeartbeats 1000000 in
theorem FConst_f:Fn Tryz.prog 176 #[] [] [] (fun v L=>v=.agg (u64s rcL).toArray∧L= []):=by
 refine Fn.enter (vs:= []) Tryz.func176 U U U ?_
 intro E R hR
 change At _ _ E [R] _
 refine aC fun _ s_1=>aA (bE aZ ze249 U (fun N0 b0 B0=>?_))
 change Blk N0 b0 _ [.int .u64 0,.int .u64 0,.int .u64 0,.int .u64 0,.int .u64 0,.int .u64 0,.int .u64 0,.int .u64 0,.int .u64 0,.int .u64 0,.int .u64 0,.int .u64 0,.int .u64 0,.int .u64 0,.int .u64 0,.int .u64 0,.int .u64 0,.int .u64 0,.int .u64 0,.int .u64 0,.int .u64 0,.int .u64 0,.int .u64 0,.int .u64 0]at B0
 change Blk N0 b0 _ (u64s (List.replicate 24 0))at B0
 refine aB (s_1 (aC fun _ s_2=>aA (bE aZ ze249 U (fun N1 b1 B1=>?_))))
 change Blk N1 b1 _ [.int .u64 0,.int .u64 0,.int .u64 0,.int .u64 0,.int .u64 0,.int .u64 0,.int .u64 0,.int .u64 0,.int .u64 0,.int .u64 0,.int .u64 0,.int .u64 0,.int .u64 0,.int .u64 0,.int .u64 0,.int .u64 0,.int .u64 0,.int .u64 0,.int .u64 0,.int .u64 0,.int .u64 0,.int .u64 0,.int .u64 0,.int .u64 0]at B1
 change Blk N1 b1 _ (u64s (cN (7*0)))at B1
 refine aB (s_2 (aC fun _ s_3=>aA (aG U U (aB (s_3 (aC fun _ s_4=>aC fun _ s_5=>aA (aF U U (aB (s_5 (aT (cF (fun fr_ hp_ ms_=> ∃(i:Nat) (N1:Heaplet),fr_= [(0,.pointer (some ⟨b0,0,none⟩)),(1,.pointer (some ⟨b1,0,none⟩)),(2,.int .u8 (rI (7*i))),(6,.int .i64 (i:Int))]∧hp_= [N1,N0,R]∧24- i=ms_∧(i≤24)∧(Blk N1 b1 249 (u64s (cN (7*i))))) ?_ aM ⟨0,N1,rfl,rfl,rfl,by omega,B1⟩ ?_)))))))))))
 ·repeat first|apply bD|exact .nil|exact lkI rfl (by omega)|rfl
 rintro _ _ _ ⟨i,N1,rfl,rfl,rfl,hi,B1⟩
 refine aC fun _ s_6=>aA (op_lss aD U U U (aB (s_6 (aC fun _ s_7=>aO U (fun c7=>?_) (fun c7=>?_)))))
 ·refine aQ (aE (s_7 (aC fun _ s_8=>aT (aC fun _ s_9=>aA (aF U U (aG U U (aB (s_9 (aC fun _ s_10=>aA (aF U U (aB (s_10 (aT (cF (fun fr_ hp_ ms_=> ∃(j:Nat) (N1:Heaplet),fr_= [(0,.pointer (some ⟨b0,0,none⟩)),(1,.pointer (some ⟨b1,0,none⟩)),(2,.int .u8 (rI (7*i+j))),(3,.int .i64 (i:Int)),(6,.int .i64 (i:Int)),(9,.int .i64 (j:Int))]∧hp_= [N1,N0,R]∧7- j=ms_∧(j≤7)∧(Blk N1 b1 249 (u64s (cN (7*i+j))))) ?_ aM ⟨0,N1,rfl,rfl,rfl,by omega,B1⟩ ?_))))))))))))))
  ·repeat first|apply bD|exact .nil|exact lkI rfl (by omega)|rfl
  rintro _ _ _ ⟨j,N1,rfl,rfl,rfl,hj,B1⟩
  have hcl:=cN_len (7*i+j)
  obtain⟨hr0,hr1,hr2⟩:=rI_ok ⟨7*i+j,by omega⟩
  simp only at hr0 hr1 hr2
  refine aC fun _ s_11=>aA (op_lss aD U U U (aB (s_11 (aC fun _ s_12=>aO U (fun c10=>?_) (fun c10=>?_)))))
  ·refine aQ (aE (s_12 (aC fun _ s_13=>aT (aC fun _ s_14=>aA (aF U U (aG U U (aB (s_14 (aC fun _ s_15=>At.drawn [12] [0,1,2,3,4,5,6,7,8,9,10,11,12] (by kernel_rfl) (by kernel_rfl) (aL (aS U U U (by kernel_rfl)) U U (cI (aS U U U (by kernel_rfl)) ae249 U U (show _=(((i:Nat)):Int)from by omega) (by omega) U ?_)))))))))))
   refine aV (aS U U U (by kernel_rfl)) sc24 U B1 (by first|exact get64A (by omega)|rfl) bZ U ?_
   refine aL (aS U U U (by kernel_rfl)) U U (op_bits (by simp) (aS U U U (by kernel_rfl)) U U U (op_conv64 (aS U U U (by kernel_rfl)) (und_some Tryz.underlying5) Tryz.underlying24 U (show _=((((bits .and .u8 (rI (7*i+j)) 1).toNat:Nat)):Int)from by omega) U ?_))
   refine aL (aS U U U (by kernel_rfl)) U U (op_shlU (a:=1) (aS U U U (by kernel_rfl)) U U (show _=(((j:Nat)):Int)from by omega) U ?_)
   refine op_subU (b:=1) (aS U U U (by kernel_rfl)) U U U (op_shlU (aS U U U (by kernel_rfl)) U U (show _=((((shl64 1 j- 1).toNat:Nat)):Int)from by omega) U ?_)
   refine op_orU (aS U U U (by kernel_rfl)) U U U (cI (aS U U U (by kernel_rfl)) ae249 U U (show _=(((i:Nat)):Int)from by omega) (by omega) U ?_)
   refine aX (nxos U U U U) sz24 U U U U U B1 (by simp<;>omega) sel0 (fun N1 B1=>?_)
   rw [set64A]at B1
   refine cG (aE (s_15 (aC fun _ s_16=>aA (aF U U (op_shrW aD U U (by omega) (by omega) U (aG U U (aB (s_16 (aA (aF U U (op_shlW aD U U (by omega) U (aF U U (op_mulW aD U U U (op_bits (by simp) aD U U U (aG U U (At.opsNil (a0 (aE (s_13 (aA (a6 aD U U (by omega) (by omega) U (aF U U (aB ?_)))))))))))))))))))))))
   refine bQ ?_ aM ⟨j+1,N1,rfl,rfl,rfl,by omega,by rw [show 7*i+(j+1)=(7*i+j)+1 by omega,cN,cStep,show(7*i+j)/7=i by omega,show(7*i+j) % 7=j by omega];exact B1⟩ ?_
   ·repeat first|apply bD|exact .nil|exact lkI rfl (by omega)|rfl
   ·omega
  refine bW (aK (aK (bH (a0 (aE (s_8 (aA ?_)))))))
  obtain rfl:j=7:=by omega
  change Blk N1 b1 _ (u64s (cN (7*(i+1))))at B1
  refine a6 aD U U (by omega) (by omega) U (aF U U (aB (bQ ?_ aM ⟨i+1,N1,rfl,rfl,rfl,by omega,B1⟩ ?_)))
  ·repeat first|apply bD|exact .nil|exact lkI rfl (by omega)|rfl
  ·omega
 refine bW (aK (aK (bH (aE (s_4 (aC fun _ s_17=>aA ?_))))))
 obtain rfl:i=24:=by omega
 change Blk N1 b1 _ (u64s rcL)at B1
 have hrl:rcL.length=24:=cN_len 168
 refine aY (ds:=u64s rcL) aD ag249 U B1 (by rw [List.drop_zero,List.take_of_length_le (by simp [u64s,hrl])]) (by simp [u64s,hrl]) bZ U ?_
 refine aX nxQ sz249 U U U (by simp [u64s,hrl]) (all64 _) B0 (by simp [u64s,hrl]) sel1 (fun N0 B0=>?_)
 rw [setL_whole (by simp [u64s,hrl])]at B0
 refine aB (s_17 (aR ((a7 (aW (L1:= []) U (.cell U (res_agg (ds:=u64s rcL) ag249 B0 (by rw [List.drop_zero,List.take_of_length_le (by simp [u64s,hrl])]) (by simp [u64s,hrl]) bZ) .nil) (.cons _ (.refl _)) aM ?_)))))
 exact⟨rfl,rfl⟩
set_option maxRecDepth 100000 in
set_option maxHeartbeats 1000000 in
theorem FPermute_f {N:Heaplet} {b0:Nat} {e0:TypeId} {a:List UInt64} {T:List Value} (ha:a.length=25) (B0:Blk N b0 e0 (u64s a++T)):Fn Tryz.prog 157 #[.pointer (some ⟨b0,0,none⟩)] [N] [] (fun v L=> ∃M,v=.tuple #[]∧L= [M]∧Blk M b0 e0 (u64s (prm a 24)++T)):=by
 obtain⟨N0,h0⟩: ∃N0,N0=N:=⟨_,rfl⟩
 rw [←h0]at B0⊢
 have hrl:rcL.length=24:=cN_len 168
 refine Fn.enter (vs:= [.pointer (some ⟨b0,0,none⟩)]) Tryz.func157 U U U ?_
 intro E R hR
 change At _ _ E [N0,R] _
 refine aC fun _ s_1=>aA (aH aZ .nil (FConst_f) Tryz.func176 U U (by simp) U ?_)
 rintro _ _ ⟨rfl,rfl⟩
 show At _ _ _ [N0,R] _
 refine aF U U (aB (s_1 (aT ?_)))
 change Blk N0 b0 _ (u64s (prm a 0)++T)at B0
 refine cF (fun fr_ hp_ ms_=> ∃(k:Nat) (N0:Heaplet),fr_= [(0,.pointer (some ⟨b0,0,none⟩)),(4,.agg (u64s rcL).toArray),(5,.int .i64 (k:Int))]∧hp_= [N0,R]∧24- k=ms_∧(k≤24)∧(Blk N0 b0 e0 (u64s (prm a k)++T))) ?_ aM ⟨0,N0,rfl,rfl,rfl,by omega,B0⟩ ?_
 ·repeat first|apply bD|exact .nil|exact lkI rfl (by omega)|rfl
 rintro _ _ _ ⟨k,N0,rfl,rfl,rfl,hk,B0⟩
 have hal:=(prm_len a k).trans ha
 have hl1:(theta (prm a k)).length=25:=(theta_len _).trans hal
 have hl2:(tuP (theta (prm a k)) 24).1.length=25:=(tuP_len _ _).trans hl1
 have hl3:(chP (tuP (theta (prm a k)) 24).1 5).length=25:=(chP_len _ _).trans hl2
 refine aC fun _ s_2=>aA (op_lss aD U U U (aB (s_2 (aC fun _ s_3=>aO U (fun c6=>?_) (fun c6=>?_)))))
 ·refine aQ (aE (s_3 (aC fun _ s_4=>aT (aC fun _ s_5=>aA ?_))))
  refine op_idxV aD ae249 sc24 U U (show _=(((k:Nat)):Int)from by omega) (by omega) (by rw [List.getElem?_toArray];exact get64 (by omega)) U ?_
  refine aG U U (aB (s_5 (aC fun _ s_6=>aA (aF U U (op_call nxQ (.cons U .nil) (FTheta_f hal B0) (F:= [R]) Tryz.func177 U U aM (by simp) U ?_)))))
  rintro _ _ ⟨N0,rfl,rfl,B0⟩
  show At _ _ _ [N0,R] _
  refine aB (s_6 (aC fun _ s_7=>aA (aF U U (op_call nxQ (.cons U .nil) (FTurn_f hl1 B0) (F:= [R]) Tryz.func178 U U aM (by simp) U ?_))))
  rintro _ _ ⟨N0,rfl,rfl,B0⟩
  show At _ _ _ [N0,R] _
  refine aB (s_7 (aC fun _ s_8=>aA (aF U U (op_call nxQ (.cons U .nil) (FChi_f hl2 B0) (F:= [R]) Tryz.func179 U U aM (by simp) U ?_))))
  rintro _ _ ⟨N0,rfl,rfl,B0⟩
  show At _ _ _ [N0,R] _
  obtain⟨q,hq⟩: ∃q,chP (tuP (theta (prm a k)) 24).1 5=q:=⟨_,rfl⟩
  rw [hq]at B0 hl3
  refine aB (s_8 (At.drawn [8] [0,1,2,3,4,5,6,7,8] (by kernel_rfl) (by kernel_rfl) (aL (aS U U U (by kernel_rfl)) U U (op_nilChk (aS U U U (by kernel_rfl)) U U (cI (aS U U U (by kernel_rfl)) ae187 U U (show _=(((0:Nat)):Int)from by omega) (by omega) U ?_)))))
  refine aV (aS U U U (by kernel_rfl)) sc24 U B0 (by first|exact get64A (by omega)|rfl|exact getT (by omega)) bZ U ?_
  refine aL (aS U U U (by kernel_rfl)) U U (op_xorU (aS U U U (by kernel_rfl)) U U U (op_nilChk (aS U U U (by kernel_rfl)) U U (cI (aS U U U (by kernel_rfl)) ae187 U U (show _=(((0:Nat)):Int)from by omega) (by omega) U ?_)))
  refine aX (nxos U U U U) sz24 U U U U U B0 (by rw [lenT];simp;omega) sel0 (fun N0 B0=>?_)
  rw [setT (by omega)]at B0
  refine cG (a0 (aE (s_4 (aA (a6 aD U U (by omega) (by omega) U (aF U U (aB ?_)))))))
  refine bQ ?_ aM ⟨k+1,N0,rfl,rfl,rfl,by omega,by rw [prm,kRound,hq];exact B0⟩ ?_
  ·repeat first|apply bD|exact .nil|exact lkI rfl (by omega)|rfl
  ·omega
 refine bW (aK (aK (bH (At.retNE (L1:= [N0]) U .nil U (.refl _) aM ?_))))
 obtain rfl:k=24:=by omega
 exact⟨N0,rfl,rfl,B0⟩
end Go.Proofs.YtjfagifjajielaaGreat
