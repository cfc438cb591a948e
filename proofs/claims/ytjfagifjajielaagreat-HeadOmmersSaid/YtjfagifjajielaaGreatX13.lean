/- Several texts in one: see the remarks ahead of each part. No condition but those told there. -/
import Derived.Test.YtjfagifjajielaaGreatX1
import Derived.Test.YtjfagifjajielaaGreatX12
import Derived.Test.YtjfagifjajielaaGreatX7
import Derived.Test.YtjfagifjajielaaGreatX6
import Derived.Test.YtjfagifjajielaaGreatX8
set_option linter.unusedSimpArgs false
set_option linter.unusedVariables false
namespace Go.Proofs.YtjfagifjajielaaGreat
open Go Go.RowKit
def modZ (x y:Nat):Nat:=if y=0 then 0 else x % y
def HW:Nat:=2^255
def negB (x:Nat):Bool:=decide (HW≤x)
def sgn (m:Bool) (x:Nat):Nat:=if m then WW- x else x
def absW (x:Nat):Nat:=sgn (negB x) x
theorem copy_limbs {Q o k:Nat} (ho:o=0) (hk:k=min (limbsOf Q).length 4):([Value.int .u64 0,.int .u64 0,.int .u64 0,.int .u64 0]:List Value).take o++(u64s (limbsOf Q)).take k++([Value.int .u64 0,.int .u64 0,.int .u64 0,.int .u64 0]:List Value).drop (o+k)=u64s (wl Q):=by
 subst ho
 have e0:([Value.int .u64 0,.int .u64 0,.int .u64 0,.int .u64 0]:List Value)=u64s (List.replicate 4 0):=rfl
 have hk2:(limbsOf Q).take k=(limbsOf Q).take 4:=by
  rcases Nat.lt_or_ge (limbsOf Q).length 4 with h|h
  ·rw [List.take_of_length_le (by omega),List.take_of_length_le (by omega)]
  ·rw [show k=4 by omega]
 have hk4:k≤4:=by omega
 rw [e0,List.take_zero,List.nil_append,Nat.zero_add,u64s_takeR,u64s_drop,hk2,List.drop_replicate]
 have e1:u64s ((limbsOf Q).take 4)++u64s (List.replicate (4- k) 0)=u64s ((limbsOf Q).take 4++List.replicate (4- k) 0):=by simp [u64s]
 rw [e1]
 congr 1
 refine wl_of (by rw [List.length_append,List.length_take,List.length_replicate];omega) ?_
 rw [v64_pad]
 have h:=v64_take_lt (limbsOf Q) 4
 rcases Nat.lt_or_ge (limbsOf Q).length 4 with h4|h4
 ·rw [List.take_of_length_le (by omega),v64_limbsOf]
  have hlt:=v64_lt (limbsOf Q)
  rw [v64_limbsOf]at hlt
  exact(Nat.mod_eq_of_lt (Nat.lt_of_lt_of_le hlt (Nat.pow_le_pow_right (by decide) (by omega:64*(limbsOf Q).length≤256)))).symm
 ·have e:=v64_take_drop (limbsOf Q) h4
  rw [v64_limbsOf]at e
  conv=>rhs;rw [e]
  rw [←WW_eq,Nat.add_mul_mod_self_left,Nat.mod_eq_of_lt (by rw [WW_eq];exact h)]
def BytesP (V:Nat) (v:Value) (L:List Heaplet):Prop:=
 ∃M a c,v=.slice a (bytesOf V).length c∧L= [M]∧Row M 5 1 a (bytesOf V).length c (u8s (bytesOf V))
section
variable {N M : Heaplet} {ao bo : Option Addr} {n m ca cb : Nat} {a b : List UInt8}
def SubP (A B:Nat) (v:Value) (L:List Heaplet):Prop:=
 ∃M p c,v=.tuple #[.slice p (bytesOf (A- B)).length c,.bool (decide (B≤A))]∧L= [M]∧Row M 5 1 p (bytesOf (A- B)).length c (u8s (bytesOf (A- B)))
def DivModP (A B:Nat) (v:Value) (L:List Heaplet):Prop:=
 ∃M1 p1 c1 M2 p2 c2,v=.tuple #[.slice p1 (bytesOf (A/B)).length c1,.slice p2 (bytesOf (A % B)).length c2,.bool true]∧L= [M1,M2]∧Row M1 5 1 p1 (bytesOf (A/B)).length c1 (u8s (bytesOf (A/B)))∧Row M2 5 1 p2 (bytesOf (A % B)).length c2 (u8s (bytesOf (A % B)))
end
theorem Blk.one {N:Heaplet} {b:Nat} {e:TypeId} {v:Value} (h:Blk N b e [v]):RSl N 1 (some ⟨b,0,none⟩) 1 1 [v]:=
 ⟨rfl,Nat.le_refl _,by decide,fun _=>⟨b,0,rfl,h.rng⟩⟩
section
variable {N M Nb Nm : Heaplet} {ao bo mo : Option Addr} {n m nm ca cb cm bb : Nat} {e : TypeId} {a b l : List UInt64}
end
section
variable {N M Nm : Heaplet} {ao bo mo : Option Addr} {n m nm ca cb cm : Nat} {a b l : List UInt8}
end
theorem not_round {w a:List UInt64} {k:Nat} (hw:w.length=k) (hv:v64 w+v64 (a.take k)+1=2^(64*k)):
 v64 (w++ [~~~(a.getD k 0)])+v64 (a.take (k+1))+1=2^(64*(k+1)):=by
 have h:(~~~(a.getD k 0)).toNat+(a.getD k 0).toNat+1=18446744073709551616:=by
  have h1:=UInt64.toNat_not (a.getD k 0)
  have h2:=(a.getD k 0).toNat_lt
  have h3:UInt64.size=18446744073709551616:=rfl
  omega
 rw [v64_snoc,hw,v64_take_succD,pow64]
 have h2:=congrArg (2^(64*k)* ·) h
 simp only [Nat.mul_add,Nat.mul_one]at h2
 generalize (~~~(a.getD k 0)).toNat=s at*
 generalize (a.getD k 0).toNat=t at*
 omega
set_option maxRecDepth 100000 in
theorem WNot_f {x:Nat} (hx:x<WW):Fn Tryz.prog 138 #[wo x] [] [] (fun v L=>v=wo (WW- 1- x)∧L= []):=by
 have hlx:=length_wl x
 have hvx:=v64_wl_lt hx
 have hp:=WW_pos
 refine Fn.enter (vs:= [wo x]) Tryz.func138 U U U ?_
 intro E R hR
 change At _ _ E [R] _
 refine aC fun _ s_1=>aA (op_box aZ U U U (fun N1 b1 B1=>?_))
 change Blk N1 b1 _ (u64s (wl x))at B1
 refine bE aZ ze26 U (fun N2 b2 B2=>?_)
 change Blk N2 b2 _ [.int .u64 0,.int .u64 0,.int .u64 0,.int .u64 0]at B2
 refine aB (s_1 (aC fun _ s_2=>aC fun _ s_3=>aA (aF U U (aB (s_3 (aT (bR (permSel1 (bR ?_)))))))))
 refine cF (fun fr_ hp_ ms_=> ∃(k:Nat) (w:List UInt64) (N1:Heaplet),fr_= [(1,.pointer (some ⟨b1,0,none⟩)),(2,.pointer (some ⟨b2,0,none⟩)),(4,.int .i64 (k:Int))]∧hp_= [N1,N2,R]∧4- k=ms_∧(k≤4)∧(w.length=k)∧(v64 w+v64 ((wl x).take k)+1=2^(64*k))∧(Blk N1 b1 26 (u64s (w++(wl x).drop k)))) ?_ aM ⟨0,[],N1,rfl,rfl,rfl,by omega,rfl,by simp;rfl,by simpa using B1⟩ ?_
 ·repeat first|apply bD|exact .nil|exact lkI rfl (by omega)|rfl
 rintro _ _ _ ⟨k,w,N1,rfl,rfl,rfl,hk,hw,hv,B1⟩
 have hwl:(w++(wl x).drop k).length=4:=by rw [List.length_append,List.length_drop];omega
 refine aC fun _ s_4=>aA (op_lss aD U U U (aB (s_4 (aC fun _ s_5=>aO U (fun c5=>?_) (fun c5=>?_)))))
 ·refine aQ (aE (s_5 (aC fun _ s_6=>aT (aC fun _ s_7=>aA (aF U U (aG U U (aB (s_7 (aA (aF U U (aF U U (cI aD ae26 U U (show _=(((k:Nat)):Int)from by omega) (by omega) U ?_))))))))))))
  refine aV aD sc24 U B1 (by first|exact get64A (by omega)|rfl) bZ U ?_
  rw [getD_drop hw (show k<(wl x).length by omega)]
  refine op_compU aD U U (cI aD ae26 U U (show _=(((k:Nat)):Int)from by omega) (by omega) U ?_)
  refine aX nxQ sz24 U U U U U B1 (by simp<;>omega) sel0 (fun N1 B1=>?_)
  rw [set64A,set_drop hw (show k<(wl x).length by omega)]at B1
  refine At.opsNil (a0 (aE (s_6 (aA (a6 aD U U (by omega) (by omega) U (aF U U (aB ?_)))))))
  refine bQ ?_ aM ⟨k+1,w++ [~~~((wl x).getD k 0)],N1,rfl,rfl,rfl,by omega,by simp;omega,not_round hw hv,B1⟩ ?_
  ·repeat first|apply bD|exact .nil|exact lkI rfl (by omega)|rfl
  ·omega
 refine bW (aK (aK (bH (aE (s_2 (aC fun _ s_8=>aA ?_))))))
 have hk4:k=4:=by omega
 rw [hk4,v64_take_all (by omega),hvx]at hv
 rw [hk4,List.drop_of_length_le (by omega),List.append_nil]at B1
 have hw4:w.length=4:=by omega
 have hsum:v64 w=(WW- 1- x) % WW:=by
  rw [←WW_eq]at hv
  rw [Nat.mod_eq_of_lt (by omega)];omega
 have hwe:=wl_of hw4 hsum
 rw [hwe]at B1
 refine aY (ds:=u64s (wl (WW- 1- x))) aD ag26 U B1 (by first|(rw [List.drop_zero,List.take_of_length_le (by first|(simp;done)|(simp;omega))];done)|rfl) (by first|(simp;done)|(simp;omega)) bZ U ?_
 refine aX nxQ sz26 U U U U U B2 (by simp) sel1 (fun N2 B2=>?_)
 rw [setL_whole (by simp)]at B2
 refine aB (s_8 (aR ((a7 ?_))))
 refine aW (L1:= []) U (.cell U (res_agg (ds:=u64s (wl (WW- 1- x))) ag26 B2 (by first|(rw [List.drop_zero,List.take_of_length_le (by first|(simp;done)|(simp;omega))];done)|rfl) (by first|(simp;done)|(simp;omega)) bZ) .nil) (.cons _ (.refl _)) aM ?_
 exact⟨rfl,rfl⟩
def lo32 (s:UInt64):UInt32:=UInt32.ofNat s.toNat
def DigsP (V:Nat) (v:Value) (L:List Heaplet):Prop:=
 ∃M a c,v=.slice a (digsOf V).length c∧L= [M]∧RSl M 1 a (digsOf V).length c (u32s (digsOf V))
def LessP (co:Option Addr) (nc cc:Nat) (pre u v post:List UInt32) (q:Nat) (r:Value) (L:List Heaplet):Prop:=
 ∃M x, ∃bw:Nat,r=.bool (decide (bw=1))∧L= [M]∧Row M 172 1 co nc cc (u32s (pre++x++post))∧x.length=u.length∧bw≤1∧v32 x+q*v32 v=v32 u+bw*2^(32*u.length)
def BackP (co:Option Addr) (nc cc:Nat) (pre u v post:List UInt32) (r:Value) (L:List Heaplet):Prop:=
 ∃M x, ∃c:Nat,r=.tuple #[]∧L= [M]∧Row M 172 1 co nc cc (u32s (pre++x++post))∧x.length=u.length∧c≤1∧v32 x+c*2^(32*u.length)=v32 u+v32 v∧((u.getD v.length 0).toNat≤(x.getD v.length 0).toNat↔c=0)
def DigsP2 (A B:Nat) (v:Value) (L:List Heaplet):Prop:=
 ∃M1 a1 c1 M2 a2 c2,v=.tuple #[.slice a1 (digsOf A).length c1,.slice a2 (digsOf B).length c2]∧L= [M1,M2]∧RSl M1 1 a1 (digsOf A).length c1 (u32s (digsOf A))∧RSl M2 1 a2 (digsOf B).length c2 (u32s (digsOf B))
theorem Hp.empty {E w:World} {L:List Heaplet} (h:Hp E L w):Hp E (nilH::L) w:=
 ⟨h.os,h.tape,h.output,fun N hN=>by
  rcases List.mem_cons.1 hN with rfl|hN
  ·intro k o hk;cases hk
  ·exact h.sub N hN,List.pairwise_cons.2 ⟨fun N _ k=>.inl rfl,h.sep⟩⟩
def DivR (N:Heaplet) (A B:Nat) (v:Value) (L:List Heaplet):Prop:=
 ∃Mq aq cq Mr ar cr,v=.tuple #[.slice aq (digsOf A).length cq,.slice ar (digsOf B).length cr]∧L= [Mq,Mr]∧RSl Mq 1 aq (digsOf A).length cq (u32s (digsOf A))∧(RSl Mr 1 ar (digsOf B).length cr (u32s (digsOf B))∨RSl N 1 ar (digsOf B).length cr (u32s (digsOf B)))
def ModR (N:Heaplet) (V:Nat) (v:Value) (L:List Heaplet):Prop:=
 ∃Q p c,v=.slice p (digsOf V).length c∧L= [Q]∧(RSl Q 1 p (digsOf V).length c (u32s (digsOf V))∨RSl N 1 p (digsOf V).length c (u32s (digsOf V)))
section
variable {N M : Heaplet} {ax bx : Option Addr} {na nb ca cb A B : Nat}
end
section
variable {N M Nm : Heaplet} {bx ex mx : Option Addr} {nb ne nm cb ce cm B E' Mv : Nat}
end
theorem wo_four {x:Nat} (hx:x<WW): ∃a b c d:UInt64,wo x=.agg #[.int .u64 (a.toNat:Int),.int .u64 (b.toNat:Int),.int .u64 (c.toNat:Int),.int .u64 (d.toNat:Int)]∧v64 [a,b,c,d]=x:=by
 obtain⟨a,b,c,d,h⟩:=four (length_wl x)
 have hv:=v64_wl_lt hx
 rw [h]at hv
 exact⟨a,b,c,d,by rw [wo,h];rfl,hv⟩
theorem rOf_w (n:UInt64):Fn Tryz.prog 155 #[.int .u64 (n.toNat:Int)] [] [] (fun v L=>v=wo n.toNat∧L= []):=by
 have e:=wl_small n
 refine Fn.enter (vs:= [.int .u64 (n.toNat:Int)]) Tryz.func155 U U U ?_
 intro E R hR
 change At _ _ E [R] _
 refine aC fun _ s_1=>aA (bE aZ ze26 U (fun N2 b2 B2=>?_))
 change Blk N2 b2 _ [.int .u64 0,.int .u64 0,.int .u64 0,.int .u64 0]at B2
 refine aB (s_1 (aC fun _ s_2=>aA (aF U U (op_buildA (out:= [_,.int .u64 0,.int .u64 0,.int .u64 0]) aD ze26 ae26 (.cons U .nil) U U (aX nxQ sz26 U U U U U B2 (by simp) sel0 (fun N2 B2=>?_))))))
 rw [setL_whole (by simp)]at B2
 refine aB (s_2 (aR ((aW (L1:= []) U (.cell U (res_agg (ds:= [_,_,_,_]) ag26 B2 U U bZ) .nil) (.cons _ (.refl _)) aM ?_))))
 exact⟨by rw [wo_small],rfl⟩
end Go.Proofs.YtjfagifjajielaaGreat
