/- Several texts in one: see the remarks ahead of each part. No condition but those told there. -/
import Derived.Test.YtjfagifjajielaaGreatU12
import Derived.Test.YtjfagifjajielaaGreatU7
import Derived.Test.YtjfagifjajielaaGreatU6
import Derived.Test.YtjfagifjajielaaGreatU8
set_option linter.unusedSimpArgs false
set_option linter.unusedVariables false
/- Package word: products, quotients, with signs and without. No condition. -/
namespace Go.Proofs.YtjfagifjajielaaGreat
open Go Go.RowKit
/-- What is left; 0 by 0. -/
def modZ (x y:Nat):Nat:=if y=0 then 0 else x % y
def HW:Nat:=2^255
/-- Is the signed value below 0? -/
def negB (x:Nat):Bool:=decide (HW≤x)
/-- A word, or less it. -/
def sgn (m:Bool) (x:Nat):Nat:=if m then WW- x else x
def absW (x:Nat):Nat:=sgn (negB x) x
end Go.Proofs.YtjfagifjajielaaGreat
/- Package nat: forms, orders, bits, sums, differences, products, quotients. Condition: numbers of at most 2^38 bytes. -/
namespace Go.Proofs.YtjfagifjajielaaGreat
open Go Go.RowKit
/-- A number's bytes in new memory. -/
def BytesP (V:Nat) (v:Value) (L:List Heaplet):Prop:=
 ∃M a c,v=.slice a (bytesOf V).length c∧L= [M]∧Row M 5 1 a (bytesOf V).length c (u8s (bytesOf V))
section
variable {N M : Heaplet} {ao bo : Option Addr} {n m ca cb : Nat} {a b : List UInt8}
def SubP (A B:Nat) (v:Value) (L:List Heaplet):Prop:=
 ∃M p c,v=.tuple #[.slice p (bytesOf (A- B)).length c,.bool (decide (B≤A))]∧L= [M]∧Row M 5 1 p (bytesOf (A- B)).length c (u8s (bytesOf (A- B)))
def DivModP (A B:Nat) (v:Value) (L:List Heaplet):Prop:=
 ∃M1 p1 c1 M2 p2 c2,v=.tuple #[.slice p1 (bytesOf (A/B)).length c1,.slice p2 (bytesOf (A % B)).length c2,.bool true]∧L= [M1,M2]∧Row M1 5 1 p1 (bytesOf (A/B)).length c1 (u8s (bytesOf (A/B)))∧Row M2 5 1 p2 (bytesOf (A % B)).length c2 (u8s (bytesOf (A % B)))
end
end Go.Proofs.YtjfagifjajielaaGreat
/- nat.ModExp: powers modulo a number. Condition: numbers of at most 2^34 bytes. -/
namespace Go.Proofs.YtjfagifjajielaaGreat
open Go Go.RowKit
theorem Blk.one {N:Heaplet} {b:Nat} {e:TypeId} {v:Value} (h:Blk N b e [v]):RSl N 1 (some ⟨b,0,none⟩) 1 1 [v]:=
 ⟨rfl,Nat.le_refl _,by decide,fun _=>⟨b,0,rfl,h.rng⟩⟩
section
variable {N M Nb Nm : Heaplet} {ao bo mo : Option Addr} {n m nm ca cb cm bb : Nat} {e : TypeId} {a b l : List UInt64}
end
section
variable {N M Nm : Heaplet} {ao bo mo : Option Addr} {n m nm ca cb cm : Nat} {a b l : List UInt8}
end
end Go.Proofs.YtjfagifjajielaaGreat
/- Package word: powers. No condition. -/
namespace Go.Proofs.YtjfagifjajielaaGreat
open Go Go.RowKit
end Go.Proofs.YtjfagifjajielaaGreat
/- Package word: all bits turned, order. No condition. -/
namespace Go.Proofs.YtjfagifjajielaaGreat
open Go Go.RowKit
end Go.Proofs.YtjfagifjajielaaGreat
/- Plain laws on numbers in digits of 32 bits (out of those on limbs, by a program). No condition. -/
namespace Go.Proofs.YtjfagifjajielaaGreat
end Go.Proofs.YtjfagifjajielaaGreat
/- Plain laws on numbers in digits of 32 bits that are reckoned in words of 64 bits. No condition. -/
namespace Go.Proofs.YtjfagifjajielaaGreat
open Go Go.RowKit
/-- The lower half of a limb. -/
def lo32 (s:UInt64):UInt32:=UInt32.ofNat s.toNat
/-- Digits in new memory: a number without zeros at its upper end. -/
def DigsP (V:Nat) (v:Value) (L:List Heaplet):Prop:=
 ∃M a c,v=.slice a (digsOf V).length c∧L= [M]∧RSl M 1 a (digsOf V).length c (u32s (digsOf V))
end Go.Proofs.YtjfagifjajielaaGreat
/- The reference's Add, Sub, Mul: numbers in digits of 32 bits. Condition: numbers of at most 2^40 digits; for Sub: the second is no greater. -/
namespace Go.Proofs.YtjfagifjajielaaGreat
open Go Go.RowKit
end Go.Proofs.YtjfagifjajielaaGreat
/- The reference's Shl, Shr, Bit, Len, Fill. Condition: numbers of at most 2^40 digits, shifts of at most 2^40 places. -/
namespace Go.Proofs.YtjfagifjajielaaGreat
open Go Go.RowKit
end Go.Proofs.YtjfagifjajielaaGreat
/- The reference's less and back: the parts of a division. Condition: numbers of at most 2^40 digits. -/
namespace Go.Proofs.YtjfagifjajielaaGreat
open Go Go.RowKit
def LessP (co:Option Addr) (nc cc:Nat) (pre u v post:List UInt32) (q:Nat) (r:Value) (L:List Heaplet):Prop:=
 ∃M x, ∃bw:Nat,r=.bool (decide (bw=1))∧L= [M]∧Row M 172 1 co nc cc (u32s (pre++x++post))∧x.length=u.length∧bw≤1∧v32 x+q*v32 v=v32 u+bw*2^(32*u.length)
def BackP (co:Option Addr) (nc cc:Nat) (pre u v post:List UInt32) (r:Value) (L:List Heaplet):Prop:=
 ∃M x, ∃c:Nat,r=.tuple #[]∧L= [M]∧Row M 172 1 co nc cc (u32s (pre++x++post))∧x.length=u.length∧c≤1∧v32 x+c*2^(32*u.length)=v32 u+v32 v∧((u.getD v.length 0).toNat≤(x.getD v.length 0).toNat↔c=0)
end Go.Proofs.YtjfagifjajielaaGreat
/- The reference's DivMod. Condition: numbers of at most some 2^40 digits; the divisor is not 0. -/
namespace Go.Proofs.YtjfagifjajielaaGreat
open Go Go.RowKit
/-- Two numbers in digits, in new memory. -/
def DigsP2 (A B:Nat) (v:Value) (L:List Heaplet):Prop:=
 ∃M1 a1 c1 M2 a2 c2,v=.tuple #[.slice a1 (digsOf A).length c1,.slice a2 (digsOf B).length c2]∧L= [M1,M2]∧RSl M1 1 a1 (digsOf A).length c1 (u32s (digsOf A))∧RSl M2 1 a2 (digsOf B).length c2 (u32s (digsOf B))
end Go.Proofs.YtjfagifjajielaaGreat
/- The reference's DivMod, Mod, ModExp in full. Condition: numbers of at most some 2^40 digits; the divisor is not 0. -/
namespace Go.Proofs.YtjfagifjajielaaGreat
open Go Go.RowKit
theorem Hp.empty {E w:World} {L:List Heaplet} (h:Hp E L w):Hp E (nilH::L) w:=
 ⟨h.os,h.tape,h.output,fun N hN=>by
  rcases List.mem_cons.1 hN with rfl|hN
  ·intro k o hk;cases hk
  ·exact h.sub N hN,List.pairwise_cons.2 ⟨fun N _ k=>.inl rfl,h.sep⟩⟩
/-- A quotient in new memory, and a rest that may be what was divided. -/
def DivR (N:Heaplet) (A B:Nat) (v:Value) (L:List Heaplet):Prop:=
 ∃Mq aq cq Mr ar cr,v=.tuple #[.slice aq (digsOf A).length cq,.slice ar (digsOf B).length cr]∧L= [Mq,Mr]∧RSl Mq 1 aq (digsOf A).length cq (u32s (digsOf A))∧(RSl Mr 1 ar (digsOf B).length cr (u32s (digsOf B))∨RSl N 1 ar (digsOf B).length cr (u32s (digsOf B)))
def ModR (N:Heaplet) (V:Nat) (v:Value) (L:List Heaplet):Prop:=
 ∃Q p c,v=.slice p (digsOf V).length c∧L= [Q]∧(RSl Q 1 p (digsOf V).length c (u32s (digsOf V))∨RSl N 1 p (digsOf V).length c (u32s (digsOf V)))
section
variable {N M : Heaplet} {ax bx : Option Addr} {na nb ca cb A B : Nat}
end
section
variable {N M Nm : Heaplet} {bx ex mx : Option Addr} {nb ne nm cb ce cm B E' Mv : Nat}
end
end Go.Proofs.YtjfagifjajielaaGreat
/- The reference's words: sums, products, quotients, with signs and without. No condition. -/
namespace Go.Proofs.YtjfagifjajielaaGreat
open Go Go.RowKit
end Go.Proofs.YtjfagifjajielaaGreat
/- The reference's words: quotients, with signs and without. No condition. -/
namespace Go.Proofs.YtjfagifjajielaaGreat
open Go Go.RowKit
end Go.Proofs.YtjfagifjajielaaGreat
/- The reference's words: in and out, orders. No condition. -/
namespace Go.Proofs.YtjfagifjajielaaGreat
open Go Go.RowKit
theorem wo_four {x:Nat} (hx:x<WW): ∃a b c d:UInt64,wo x=.agg #[.int .u64 (a.toNat:Int),.int .u64 (b.toNat:Int),.int .u64 (c.toNat:Int),.int .u64 (d.toNat:Int)]∧v64 [a,b,c,d]=x:=by
 obtain⟨a,b,c,d,h⟩:=four (length_wl x)
 have hv:=v64_wl_lt hx
 rw [h]at hv
 exact⟨a,b,c,d,by rw [wo,h];rfl,hv⟩
theorem rOf_w (n:UInt64):Fn Tryz.prog 155 #[.int .u64 (n.toNat:Int)] [] [] (fun v L=>v=wo n.toNat∧L= []):=by
 have e:=wl_small n
 refine Fn.enter (vs:= [.int .u64 (n.toNat:Int)]) Tryz.func155 rfl rfl rfl ?_
 intro E R hR
 change At _ _ E [R] _
 refine At.seq fun _ s_1=>At.region (aS (aT rfl) ze26 rfl (fun N2 b2 B2=>?_))
 change Blk N2 b2 _ [.int .u64 0,.int .u64 0,.int .u64 0,.int .u64 0]at B2
 refine aA (aB (s_1 (At.seq fun _ s_2=>At.region (aE (aC rfl) rfl rfl (op_buildA (out:= [_,.int .u64 0,.int .u64 0,.int .u64 0]) (aC rfl) ze26 ae26 (.cons rfl .nil) rfl rfl (aI (nxl rfl) sz26 rfl rfl rfl rfl rfl B2 (by simp) sel0 (fun N2 B2=>?_)))))))
 rw [setL_whole (by simp)]at B2
 refine aA (aB (s_2 (At.ret ((aW (L1:= []) rfl (.cell rfl (aZ (ds:= [_,_,_,_]) ag26 B2 rfl rfl aP) .nil) (.cons _ (.refl _)) (.refl _) ?_)))))
 exact⟨by rw [wo_small],rfl⟩
end Go.Proofs.YtjfagifjajielaaGreat
