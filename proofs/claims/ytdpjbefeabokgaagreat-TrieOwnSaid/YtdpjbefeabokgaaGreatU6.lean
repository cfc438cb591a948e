/- Several texts in one: see the remarks ahead of each part. No condition but those told there. -/
import Derived.Test.YtdpjbefeabokgaaGreatU5
import Derived.Test.YtdpjbefeabokgaaGreatLen64
import Derived.Test.YtdpjbefeabokgaaGreatUA3
import Derived.Test.YtdpjbefeabokgaaGreatU2
import Derived.Test.YtdpjbefeabokgaaGreatU4
set_option linter.unusedSimpArgs false
set_option linter.unusedVariables false
/- limb.Bits, limb.Bytes: how many bits a number has, and its bytes; rlp.head: a payload's head. No condition. -/
namespace Go.Proofs.YtdpjbefeabokgaaGreat
open Go Go.RowKit
theorem Fn.of_same {P:Program} {f:FuncId} {args:Array Value} {v:Value} (h: ∀w,Calls P f args w fun e w'=>e=.returned v∧w'=w):Fn P f args [] [] (fun u L=>u=v∧L= []):=fun E w R hw _=>
 (h w).mono fun _ _ ⟨he,hw'⟩=>⟨v,[],he,⟨rfl,rfl⟩,by rw [hw'];exact hw⟩
theorem Len64_f (x:UInt64):Fn Tryz.prog 102 #[.int .u64 (x.toNat:Int)] [] [] (fun u L=>u=.int .i64 (bitLen x.toNat:Nat)∧L= []):=by
 have h:=x.toNat_lt
 have e:Lib.bitLen x.toNat=bitLen x.toNat:=libBitLen_eq (by omega)
 refine Fn.of_same fun w=>(Len64_i (x.toNat:Int) w (by omega) (by omega)).mono ?_
 rintro e1 w' ⟨rfl,rfl⟩
 rw [Int.toNat_natCast,e]
 exact⟨rfl,rfl⟩
theorem bitLen64 (x:UInt64):bitLen x.toNat≤64:=bitLen_le.2 x.toNat_lt
theorem Bits_f {N:Heaplet} {ao:Option Addr} {n cap:Nat} {l:List UInt64} (h:RSl N 1 ao n cap (u64s l)) (hn:n≤17592186044416):
 Fn Tryz.prog 117 #[.slice ao n cap] [] [N] (fun v L=>v=.int .i64 (bitLen (v64 l):Nat)∧L= []):=by
 have hlen:=h.len64
 have hcap:=h.cap63
 refine Fn.enter (vs:= [.slice ao n cap]) Tryz.func117 rfl rfl rfl ?_
 intro E R hR
 have h:=h.le (hR N (by simp))
 have e0:(limbsOf (v64 l)).length=(bitLen (v64 l)+63)/64:=length_limbsOf _
 change At _ _ E [R] _
 refine At.seq fun _ s_1=>At.region (aE (aD rfl) rfl rfl (aA (aB (s_1 (At.seq fun _ s_2=>At.region (aC (aD rfl) rfl rfl (aJ (bA rfl) (.cons rfl .nil) (Trim_f h) Tryz.func133 rfl rfl (by simp) rfl ?_)))))))
 rintro v4 L4 ⟨rfl,rfl,e1,e2⟩
 change At _ _ _ [R] _
 have h2:=h.take (Nat.le_refl _) (Nat.le_trans e2 hcap.1) e2
 rw [Nat.mul_one,u64s_takeR,e1]at h2
 have hl2:=h2.len64
 refine aE (aD rfl) rfl rfl (aA (aB (s_2 (At.seq fun _ s_3=>At.seq fun _ s_4=>At.region (aC (aD rfl) rfl rfl (aU (aD rfl) se154 rfl rfl (op_eql (aD rfl) rfl rfl rfl (aA (aB (s_4 (aK rfl (fun c7=>?_) (fun c7=>?_))))))))))))
 ·refine At.seq fun _ s_5=>At.region (aE (aD rfl) rfl rfl (aA (aB (s_5 (At.ret (aM ((aW (L1:= []) rfl (.tmp rfl .nil) (.refl _) (.refl _) ?_))))))))
  exact⟨by rw [show bitLen (v64 l)=0 by omega];rfl,rfl⟩
 refine At.skip (aB (s_3 (At.seq fun _ s_6=>At.region (aC (aD rfl) rfl rfl (aU (aD rfl) se154 rfl rfl (op_subI (aD rfl) rfl rfl (by omega) (by omega) rfl (op_mulI (aD rfl) rfl rfl (by omega) (by omega) rfl (aC (aD rfl) rfl rfl (aC (aD rfl) rfl rfl (aU (aD rfl) se154 rfl rfl (op_subI (aD rfl) rfl rfl (by omega) (by omega) rfl (bI (aD rfl) se154 rfl rfl (by assumption) (show _=((((limbsOf (v64 l)).length- 1:Nat)):Int)from by omega) (by omega) rfl ?_))))))))))))
 refine aT (aD rfl) sc70 rfl (by assumption) (by first|exact get8 (by omega)|exact bT (by omega)|exact bU (by omega)) (by first|exact aL|exact aZ|exact bB|exact bF|exact bG|exact bH|exact bL|exact bK|exact bJ|exact bM) rfl ?_
 refine aJ (bA rfl) (.cons rfl .nil) (Len64_f _) Tryz.func102 rfl rfl (by simp) rfl ?_
 rintro v18 L18 ⟨rfl,rfl⟩
 change At _ _ _ [R] _
 have hb:=bitLen64 ((limbsOf (v64 l)).getD ((limbsOf (v64 l)).length- 1) 0)
 refine aV (aD rfl) rfl rfl (by omega) (by omega) rfl (aE (aD rfl) rfl rfl (aA (aB (s_6 (At.ret ((aW (L1:= []) rfl (.tmp rfl .nil) (.refl _) (.refl _) ?_)))))))
 have ht:=limbsOf_top' (getD_some (l:=limbsOf (v64 l)) (j:=(limbsOf (v64 l)).length- 1) (z:=0) (by omega))
 exact⟨congrArg (Value.int .i64) (by omega),rfl⟩
theorem byte_at {l:List UInt64} {i:Nat} (h:i/8<l.length):UInt8.ofNat (shr64 (l.getD (i/8) 0) (i % 8*8)).toNat=UInt8.ofNat (v64 l/256^i):=by
 rw [←byte_of_limb h,shr64,UInt64.toNat_ofNat',Nat.mod_eq_of_lt (Nat.lt_of_le_of_lt (Nat.div_le_self _ _) (UInt64.toNat_lt _)),List.getD_eq_getElem?_getD,List.getElem?_eq_getElem h]
 rfl
theorem Bytes_f {N:Heaplet} {ao:Option Addr} {n cap:Nat} {l:List UInt64} (h:RSl N 1 ao n cap (u64s l)) (hn:n≤17592186044416):
 Fn Tryz.prog 101 #[.slice ao n cap] [] [N] (fun v L=> ∃M a,v=.slice a (bytesOf (v64 l)).length (bytesOf (v64 l)).length∧L= [M]∧Row M 5 1 a (bytesOf (v64 l)).length (bytesOf (v64 l)).length (u8s (bytesOf (v64 l)))):=by
 have hlen:=h.len64
 have hcap:=h.cap63
 have hb:bitLen (v64 l)≤64*n:=bitLen_le.2 (by rw [←hlen];exact v64_lt l)
 have hm:(bytesOf (v64 l)).length=(bitLen (v64 l)+7)/8:=length_bytesOf _
 have hB:bytesOf (v64 l)=bytesN (bytesOf (v64 l)).length (v64 l):=by rw [hm];rfl
 generalize (bytesOf (v64 l)).length=m at hm hB⊢
 refine Fn.enter (vs:= [.slice ao n cap]) Tryz.func101 rfl rfl rfl ?_
 intro E R hR
 have h:=h.le (hR N (by simp))
 change At _ _ E [R] _
 refine At.seq fun _ s_1=>At.region (aE (aD rfl) rfl rfl (aA (aB (s_1 (At.seq fun _ s_2=>At.region (aC (aD rfl) rfl rfl (aJ (bA rfl) (.cons rfl .nil) (Bits_f h hn) Tryz.func117 rfl rfl (by simp) rfl ?_)))))))
 rintro v8 L8 ⟨rfl,rfl⟩
 change At _ _ _ [R] _
 refine aV (aD rfl) rfl rfl (by omega) (by omega) rfl (op_quoI (aD rfl) rfl rfl (by omega) (by omega) (by omega) rfl (aE (aD rfl) rfl rfl (aA (aB (s_2 (At.seq fun _ s_3=>At.region (aC (aD rfl) rfl rfl ?_)))))))
 refine op_make (bA rfl) Tryz.underlying23 te5 rfl rfl (show _=(((m:Nat)):Int)from by omega) (show _=(((m:Nat)):Int)from by omega) (by omega) (by unfold maxLen;omega) rfl (fun N12 a12 r12=>?_)
 rw [made_one _ _ rfl,zero_u8s]at r12
 have s12:=r12.rsl
 refine aE (aD rfl) rfl rfl (aA (aB (s_3 (At.seq fun _ s_4=>At.seq fun _ s_5=>At.region (aC (aD rfl) rfl rfl (aU (aD rfl) se23 rfl rfl (aC (aD rfl) rfl rfl (aA (aB (s_5 (At.block ?_)))))))))))
 refine At.loop (fun fr_ hp_ ms_=> ∃(k:Nat) (Nq:Heaplet),fr_= [(0,.slice ao n cap),(3,.int .i64 (m:Int)),(4,.slice a12 m m),(14,.int .i64 (m:Int)),(15,.int .i64 (k:Int))]∧hp_= [Nq,R]∧m- k=ms_∧(k≤m)∧(Row Nq 5 1 a12 m m (u8s (bytesSt m (v64 l) k)))) ?_ (.refl _) ⟨0,N12,rfl,rfl,rfl,by omega,by rw [bytesSt_zero];exact r12⟩ ?_
 ·exact .cons (by first|exact aP rfl (by omega)|rfl) (.cons (by first|exact aP rfl (by omega)|rfl) (.cons (by first|exact aP rfl (by omega)|rfl) (.cons (by first|exact aP rfl (by omega)|rfl) (.cons (by first|exact aP rfl (by omega)|rfl) .nil))))
 rintro _ _ _ ⟨k,Nq,rfl,rfl,rfl,hk,rq⟩
 have sq:=rq.rsl
 have hlq:=sq.len8
 refine At.seq fun _ s_6=>At.region (op_lss (aD rfl) rfl rfl rfl (aA (aB (s_6 (At.seq fun _ s_7=>aK rfl (fun c16=>?_) (fun c16=>?_))))))
 ·refine At.skip (aB (s_7 (At.seq fun _ s_8=>At.block (At.seq fun _ s_9=>At.region (aC (aD rfl) rfl rfl (aE (aD rfl) rfl rfl (aA (aB (s_9 (At.seq fun _ s_10=>At.region (aC (aD rfl) rfl rfl (op_subI (aD rfl) rfl rfl (by omega) (by omega) rfl (aC (aD rfl) rfl rfl (op_subI (aD rfl) rfl rfl (by omega) (by omega) rfl (aE (aD rfl) rfl rfl (aA (aB (s_10 (At.region (aC (aD rfl) rfl rfl ?_))))))))))))))))))))
  refine aC (aD rfl) rfl rfl (aC (aD rfl) rfl rfl (aC (aD rfl) rfl rfl (op_quoI (aD rfl) rfl rfl (by omega) (by omega) (by omega) rfl (bI (aD rfl) se154 rfl rfl (by assumption) (show _=((((m- 1- k)/8:Nat)):Int)from by omega) (by omega) rfl ?_))))
  refine aT (aD rfl) sc70 rfl (by assumption) (by first|exact get8 (by omega)|exact bT (by omega)|exact bU (by omega)) (by first|exact aL|exact aZ|exact bB|exact bF|exact bG|exact bH|exact bL|exact bK|exact bJ|exact bM) rfl ?_
  refine aC (aD rfl) rfl rfl (op_rem (aD rfl) rfl rfl (by omega) (by omega) rfl (op_mulI (aD rfl) rfl rfl (by omega) (by omega) rfl (op_shrU (aD rfl) rfl rfl (show _=((((m- 1- k) % 8*8:Nat)):Int)from by omega) rfl ?_)))
  refine op_conv8 (aD rfl) (und_some Tryz.underlying70) Tryz.underlying5 rfl (by first|rfl|exact(Int.toNat_of_nonneg (by omega)).symm) rfl ?_
  refine bI (aD rfl) se23 rfl rfl (by assumption) (show _=(((k:Nat)):Int)from by omega) (by omega) rfl ?_
  refine op_storeE (nxl rfl) sz5 rfl rfl rfl rfl rfl rq (by simp<;>omega) (by simp) sel0 (fun Nq rq=>?_)
  simp only [setL]at rq
  have sq:=rq.rsl
  refine aA (aR (aB (s_8 (At.region (aV (aD rfl) rfl rfl (by omega) (by omega) rfl (aC (aD rfl) rfl rfl (aA (aB ?_))))))))
  refine bD ?_ (.refl _) ⟨k+1,Nq,rfl,rfl,rfl,by omega,by rw [bytesSt_succ (by omega), ←byte_at (by omega), ←set_u8s];exact rq⟩ ?_
  ·exact .cons (by first|exact aP rfl (by omega)|rfl) (.cons (by first|exact aP rfl (by omega)|rfl) (.cons (by first|exact aP rfl (by omega)|rfl) (.cons (by first|exact aP rfl (by omega)|rfl) (.cons (by first|exact aP rfl (by omega)|rfl) .nil))))
  ·omega
 refine At.exit (aG (aG (bC (aB (s_4 (At.seq fun _ s_11=>At.region (aC (aD rfl) rfl rfl (aE (aD rfl) rfl rfl (aA (aB (s_11 (At.ret ((aW (L1:= [Nq]) rfl (.tmp rfl .nil) (.refl _) (.refl _) ?_))))))))))))))
 obtain rfl:k=m:=by omega
 rw [bytesSt_all, ←hB]at rq
 exact⟨Nq,a12,rfl,rfl,rq⟩
theorem bytesOf_le {n k:Nat} (h:n<256^k):(bytesOf n).length≤k:=by rw [length_bytesOf];exact byteLen_le.2 h
theorem head_f (b n:Nat) (hb:b≤192) (hn:n≤1099511627776):
 Fn Tryz.prog 82 #[.int .i64 (b:Int),.int .i64 (n:Int)] [] [] (fun v L=> ∃M a cap,v=.slice a (rlpHead b n).length cap∧L= [M]∧Row M 5 1 a (rlpHead b n).length cap (u8s (rlpHead b n))):=by
 have h8:=bytesOf_le (n:=n) (k:=8) (by omega)
 refine Fn.enter (vs:= [.int .i64 (b:Int),.int .i64 (n:Int)]) Tryz.func82 rfl rfl rfl ?_
 intro E R hR
 change At _ _ E [R] _
 refine At.seq fun _ s_1=>At.region (aE (aD rfl) rfl rfl (aA (aB (s_1 (At.seq fun _ s_2=>At.seq fun _ s_3=>At.region (aC (aD rfl) rfl rfl (op_leq (aD rfl) rfl rfl rfl (aA (aB (s_3 (aK rfl (fun c7=>?_) (fun c7=>?_))))))))))))
 ·refine At.seq fun _ s_4=>At.region (aC (aD rfl) rfl rfl (aC (aD rfl) rfl rfl (aV (aD rfl) rfl rfl (by omega) (by omega) rfl (op_conv8 (aD rfl) (und_some Tryz.underlying3) Tryz.underlying5 rfl (show _=(((b+n:Nat)):Int)from by omega) rfl ?_))))
  refine op_lit (bA rfl) Tryz.underlying23 ze5 sz5 (.cons rfl .nil) rfl rfl (by simp [Value.cells]) rfl rfl rfl (fun N12 a12 r12=>?_)
  simp only [flatV,List.flatMap_cons,List.flatMap_nil,Value.cells,List.append_nil,List.cons_append,List.nil_append]at r12
  have s12:=r12.rsl
  refine aE (aD rfl) rfl rfl (aA (aB (s_4 (At.ret (aM ((aW (L1:= [N12]) rfl (.tmp rfl .nil) (.refl _) (.refl _) ?_)))))))
  have e:rlpHead b n= [UInt8.ofNat (b+n)]:=by rw [rlpHead,if_pos (by omega)]
  rw [e]
  exact⟨N12,a12,1,rfl,rfl,r12⟩
 refine At.skip (aB (s_2 (At.seq fun _ s_5=>At.region (aC (aD rfl) rfl rfl (op_conv64 (aD rfl) (und_some Tryz.underlying3) Tryz.underlying70 rfl (show _=(((n:Nat)):Int)from by omega) rfl ?_)))))
 refine op_lit (bA rfl) Tryz.underlying154 ze70 sz70 (.cons rfl .nil) rfl rfl (by simp [Value.cells]) rfl rfl rfl (fun N15 a15 r15=>?_)
 simp only [flatV,List.flatMap_cons,List.flatMap_nil,Value.cells,List.append_nil,List.cons_append,List.nil_append]at r15
 have s15:=r15.rsl
 refine aJ (bA rfl) (.cons rfl .nil) (Bytes_f (l:= [UInt64.ofNat n]) s15 (by decide)) Tryz.func101 rfl rfl (by simp) rfl ?_
 rintro v16 L16 ⟨M16,a16,rfl,rfl,r16⟩
 change At _ _ _ [M16,N15,R] _
 rw [v64_one n (by omega)]at r16⊢
 have s16:=r16.rsl
 refine aE (aD rfl) rfl rfl (aA (aB (s_5 (At.seq fun _ s_6=>At.region (aC (aD rfl) rfl rfl (aV (aD rfl) rfl rfl (by omega) (by omega) rfl (aC (aD rfl) rfl rfl (aU (aD rfl) se23 rfl rfl (aV (aD rfl) rfl rfl (by omega) (by omega) rfl (op_conv8 (aD rfl) (und_some Tryz.underlying3) Tryz.underlying5 rfl (show _=(((b+55+(bytesOf n).length:Nat)):Int)from by omega) rfl ?_))))))))))
 refine op_lit (bA rfl) Tryz.underlying23 ze5 sz5 (.cons rfl .nil) rfl rfl (by simp [Value.cells]) rfl rfl rfl (fun N23 a23 r23=>?_)
 simp only [flatV,List.flatMap_cons,List.flatMap_nil,Value.cells,List.append_nil,List.cons_append,List.nil_append]at r23
 have s23:=r23.rsl
 refine aC (aD rfl) rfl rfl ?_
 refine bE (nxl rfl) Tryz.underlying23 Tryz.underlying23 te5 rfl rfl r23 (by assumption) (by first|exact aL|exact aZ|exact bB|exact bF|exact bG|exact bH|exact bL|exact bK|exact bJ|exact bM) (by first|exact one_u8s _|exact one_u64s _|exact one_u32s _|(intro u hu;simp at hu;subst hu;rfl)) (by omega) (by omega) sel0 rfl (fun N25 a25 p25 r25=>?_)
 have s25:=r25.rsl
 refine aE (aD rfl) rfl rfl (aA (aB (s_6 (At.ret ((At.sub (L':= [N25,R]) (.cons_cons _ (.cons _ (.cons _ (.cons_cons _ (.slnil))))) (aW (L1:= [N25]) rfl (.tmp rfl .nil) (.refl _) (.refl _) ?_)))))))
 have e:rlpHead b n=UInt8.ofNat (b+55+(bytesOf n).length)::bytesOf n:=by rw [rlpHead,if_neg (by omega)]
 rw [e,List.length_cons,Nat.add_comm (bytesOf n).length 1]
 exact⟨N25,a25,p25,rfl,rfl,r25⟩
end Go.Proofs.YtdpjbefeabokgaaGreat
/- package word's From, Bits, Bytes, Short; the reference's N, Short. No condition. -/
namespace Go.Proofs.YtdpjbefeabokgaaGreat
open Go Go.RowKit
end Go.Proofs.YtdpjbefeabokgaaGreat
/- package word's Bytes, Short; the reference's N, Short. No condition. -/
namespace Go.Proofs.YtdpjbefeabokgaaGreat
open Go Go.RowKit
end Go.Proofs.YtdpjbefeabokgaaGreat
/- package word's Bytes, Short. No condition. -/
namespace Go.Proofs.YtdpjbefeabokgaaGreat
open Go Go.RowKit
theorem setL_at (vs:List Value): ∀(p cs:List Value),cs.length=vs.length→setL (p++cs) p.length vs=p++vs:=by
 induction vs with
 |nil=>intro p cs h;rw [List.eq_nil_of_length_eq_zero h];rfl
 |cons v t ih=>
  intro p cs h
  match cs,h with
  |c::cs,h=>
   rw [setL]
   have e:(p++c::cs).set p.length v=(p++ [v])++cs:=by simp
   rw [e]
   have:=ih (p++ [v]) cs (by simpa using h)
   rw [List.length_append]at this
   simpa using this
theorem setL_whole {cs vs:List Value} (h:cs.length=vs.length):setL cs 0 vs=vs:=by simpa using setL_at vs [] cs h
end Go.Proofs.YtdpjbefeabokgaaGreat
/- Plain law: the first item of bytes. No condition. -/
namespace Go.Proofs.YtdpjbefeabokgaaGreat
/-- The payload of n bytes from place i on, and what is behind it. -/
def cutAt (b:List UInt8) (i n:Nat):Option (Bool×List UInt8×List UInt8):=
 if b.length- i<n then none
 else if 192≤(b.getD 0 0).toNat then some (true,(b.drop i).take n,b.drop (i+n))
 else if n=1∧(b.getD i 0).toNat<128 then none
 else some (false,(b.drop i).take n,b.drop (i+n))
/-- What the head's first byte says of the length. -/
def hdr (b:List UInt8):Nat:=((b.getD 0 0).toNat- 128) % 64
/-- The length that is written out. -/
def lng (b:List UInt8):Nat:=be ((b.drop 1).take (hdr b- 54- 1))
/-- The first item's kind and payload, and what is behind it. -/
def cutF (b:List UInt8):Option (Bool×List UInt8×List UInt8):=
 if b.length=0 then none
 else if (b.getD 0 0).toNat<128 then some (false,b.take 1,b.drop 1)
 else if hdr b≤55 then cutAt b 1 (hdr b)
 else if b.length<hdr b- 54∨(b.getD 1 0).toNat=0 then none
 else if lng b≤55∨b.length<lng b then none
 else cutAt b (hdr b- 54) (lng b)
theorem limbs_one {B:Nat} (h0:0<B) (h:B<2^64):limbsOf B= [UInt64.ofNat B]:=by
 have h1:(bitLen B+63)/64≤1:=limbLen_le.2 (by simpa using h)
 have h2:=bitLen_pos h0
 have h3:(bitLen B+63)/64=1:=by omega
 rw [limbsOf,h3];simp [limbsN]
theorem lng_pos {b:List UInt8} (h1:hdr b- 54≤b.length) (h2:56≤hdr b) (h3:(b.getD 1 0).toNat≠0):0<lng b∧lng b<2^64:=by
 have h63:hdr b<64:=Nat.mod_lt _ (by decide)
 have hl:((b.drop 1).take (hdr b- 54- 1)).length=hdr b- 55:=by rw [List.length_take,List.length_drop];omega
 constructor
 ·unfold lng
  cases hb:(b.drop 1).take (hdr b- 54- 1)with
  |nil=>rw [hb]at hl;simp at hl;omega
  |cons x t=>
   rw [be_cons]
   have hx:x=b.getD 1 0:=by
    have e1:((b.drop 1).take (hdr b- 54- 1))[0]? =some x:=by rw [hb];rfl
    rw [List.getElem?_take,if_pos (by omega),List.getElem?_drop]at e1
    rw [List.getD_eq_getElem?_getD,e1];rfl
   have hx0:0<x.toNat:=by rw [hx];omega
   have hp:0<256^t.length:=Nat.pow_pos (by decide)
   have:=Nat.mul_pos hx0 hp
   omega
 ·have:=be_lt ((b.drop 1).take (hdr b- 54- 1))
  rw [hl]at this
  unfold lng
  refine Nat.lt_of_lt_of_le this ?_
  rw [show(2:Nat)^64=256^8 from by decide]
  exact Nat.pow_le_pow_right (by decide) (by omega)
theorem getD_part {b:List UInt8} {i k:Nat} (h:0<k):((b.drop i).take k).getD 0 0=b.getD i 0:=by
 rw [List.getD_eq_getElem?_getD,List.getElem?_take,if_pos h,List.getElem?_drop,List.getD_eq_getElem?_getD,Nat.add_zero]
end Go.Proofs.YtdpjbefeabokgaaGreat
/- rlp.cut takes the first item's payload apart from what is behind it. No condition. -/
namespace Go.Proofs.YtdpjbefeabokgaaGreat
open Go Go.RowKit
/-- What rlp.cut tells. -/
def CutV (N:Heaplet) (r:Option (Bool×List UInt8×List UInt8)) (v:Value):Prop:=match r with
 |none=>v=.tuple #[.nilIface,.slice none 0 0]
 |some (isL,p,q)=> ∃a1 c1 a2 c2,v=.tuple #[.iface (if isL then 186 else 184) (.slice a1 p.length c1),.slice a2 q.length c2]∧RSl N 1 a1 p.length c1 (u8s p)∧RSl N 1 a2 q.length c2 (u8s q)
theorem cutv_mk {N:Heaplet} {isL:Bool} {p q:List UInt8} {T:TypeId} {a1 a2:Option Addr} {n1 n2 c1 c2:Nat} (hT:T=if isL then 186 else 184) (h1:RSl N 1 a1 n1 c1 (u8s p)) (h2:RSl N 1 a2 n2 c2 (u8s q)):CutV N (some (isL,p,q)) (.tuple #[.iface T (.slice a1 n1 c1),.slice a2 n2 c2]):=by
 have e1:=h1.len8
 have e2:=h2.len8
 subst e1;subst e2
 exact⟨a1,c1,a2,c2,by rw [hT],h1,h2⟩
theorem cut_f {N:Heaplet} {ao:Option Addr} {n cap:Nat} {b:List UInt8} (h:RSl N 1 ao n cap (u8s b)) (hn:n≤1099511627776):
 Fn Tryz.prog 130 #[.slice ao n cap] [] [N] (fun v L=>L= []∧ ∀M:Heaplet,RSl M 1 ao n cap (u8s b)→CutV M (cutF b) v):=by
 have hlen:=h.len8
 have hcap:=h.cap63
 refine Fn.enter (vs:= [.slice ao n cap]) Tryz.func130 rfl rfl rfl ?_
 intro E R hR
 have h:=h.le (hR N (by simp))
 have hb0:=(b.getD 0 0).toNat_lt
 have hd:hdr b=((b.getD 0 0).toNat- 128) % 64:=rfl
 have hn64:(UInt64.ofNat n).toNat=n:=by rw [UInt64.toNat_ofNat'];exact Nat.mod_eq_of_lt (by omega)
 change At _ _ E [R] _
 refine At.seq fun _ s_1=>At.region (aE (aD rfl) rfl rfl (aE (aD rfl) rfl rfl (aA (aB (s_1 (At.seq fun _ s_2=>At.seq fun _ s_3=>At.region (aC (aD rfl) rfl rfl (aU (aD rfl) se23 rfl rfl (op_eql (aD rfl) rfl rfl rfl (aA (aB (s_3 (aK rfl (fun c11=>?_) (fun c11=>?_))))))))))))))
 ·refine At.seq fun _ s_4=>At.region (aE (aD rfl) rfl rfl (aE (aD rfl) rfl rfl (aA (aB (s_4 (At.ret (aM ((bP (L1:= []) rfl (.tmp rfl (.tmp rfl .nil)) rfl (.refl _) (.refl _) ?_)))))))))
  exact⟨rfl,fun M hM=>by rw [cutF,if_pos (by omega)];rfl⟩
 refine At.skip (aB (s_2 (At.seq fun _ s_5=>At.region (aC (aD rfl) rfl rfl (bI (aD rfl) se23 rfl rfl (by assumption) (show _=((0:Nat):Int)from rfl) (by omega) rfl ?_)))))
 refine aT (aD rfl) sc5 rfl (by assumption) (by first|exact get8 (by omega)|exact bT (by omega)|exact bU (by omega)) (by first|exact aL|exact aZ|exact bB|exact bF|exact bG|exact bH|exact bL|exact bK|exact bJ|exact bM) rfl ?_
 refine op_convI (aD rfl) (und_some Tryz.underlying5) Tryz.underlying3 rfl (by omega) (by omega) rfl (aE (aD rfl) rfl rfl (aA (aB (s_5 (At.seq fun _ s_6=>At.seq fun _ s_7=>At.region (aC (aD rfl) rfl rfl (op_lss (aD rfl) rfl rfl rfl (aA (aB (s_7 (aK rfl (fun c17=>?_) (fun c17=>?_))))))))))))
 ·refine At.seq fun _ s_8=>At.drawn [] [0,1,2,3,4,5,6] (by kernel_rfl) (by kernel_rfl) (aC (aN rfl rfl rfl (by kernel_rfl)) rfl rfl (op_slice0 (aN rfl rfl rfl (by kernel_rfl)) se23 rfl (.some rfl (show _=((1:Nat):Int)from rfl)) .none (by omega) (by omega) (by simp) rfl (op_mkI (aN rfl rfl rfl (by kernel_rfl)) (by kernel_rfl) rfl rfl (aC (aN rfl rfl rfl (by kernel_rfl)) rfl rfl (op_slice (aN rfl rfl rfl (by kernel_rfl)) se23 rfl (.some rfl (show _=((1:Nat):Int)from rfl)) .none .none (by omega) (by omega) (by omega) (by simp) rfl (aE (aN rfl rfl rfl (by kernel_rfl)) rfl rfl (aE (aN rfl rfl rfl (by kernel_rfl)) rfl rfl (At.oneNil (aB (s_8 (At.ret (aM ((bP (L1:= []) rfl (.tmp rfl (.tmp rfl .nil)) rfl (.refl _) (.refl _) (⟨rfl,fun M hM=>?_⟩)))))))))))))))
  rw [cutF,if_neg (by omega),if_pos (by omega)]
  exact cutv_mk rfl (hM.take8 (by omega) (by omega) (by omega)) (hM.drop8 (by omega))
 refine At.skip (aB (s_6 (At.seq fun _ s_9=>At.region (aC (aD rfl) rfl rfl (op_subI (aD rfl) rfl rfl (by omega) (by omega) rfl (op_rem (aD rfl) rfl rfl (by omega) (by omega) rfl (aE (aD rfl) rfl rfl (aE (aD rfl) rfl rfl (aA (aB (s_9 (At.seq fun _ s_10=>At.meet (fun fr_ hp_=> ∃(i m:Nat),fr_= [(0,.slice ao n cap),(4,.int .i64 ((b.getD 0 0).toNat:Int)),(5,.int .i64 (m:Int)),(6,.int .i64 (i:Int))]∧hp_= [R]∧(i≤n)∧(1≤i)∧(m≤1099511627776)∧(cutF b=cutAt b i m)) ?_ (fun K10_ jk_10=>?_)))))))))))))
 rotate_left
 ·skip
  refine At.seq fun _ s_11=>At.region (aC (aD rfl) rfl rfl (op_gtr (aD rfl) rfl rfl rfl (aA (aB (s_11 (aK rfl (fun c27=>?_) (fun c27=>?_)))))))
  ·refine At.seq fun _ s_12=>At.region (aC (aD rfl) rfl rfl (aC (aD rfl) rfl rfl (op_subI (aD rfl) rfl rfl (by omega) (by omega) rfl (aV (aD rfl) rfl rfl (by omega) (by omega) rfl (aE (aD rfl) rfl rfl (aA (aB (s_12 (At.seq fun _ s_13=>At.seq fun _ s_14=>At.region (aC (aD rfl) rfl rfl (aU (aD rfl) se23 rfl rfl (aC (aD rfl) rfl rfl (op_lss (aD rfl) rfl rfl rfl (aC (aD rfl) rfl rfl (At.partP (d:=36) rfl (fun g36=>?_) (fun g36=>?_))))))))))))))))
   ·refine aH rfl rfl rfl rfl rfl rfl rfl (aH rfl rfl rfl rfl rfl rfl rfl (aH rfl rfl rfl rfl rfl rfl rfl (aH rfl rfl rfl rfl rfl rfl rfl (bS (aD rfl) rfl rfl rfl (aA (aB (s_14 (At.condT rfl (At.seq fun _ s_15=>At.region (aE (aD rfl) rfl rfl (aE (aD rfl) rfl rfl (aA (aB (s_15 (At.ret (aM (aM ((bP (L1:= []) rfl (.tmp rfl (.tmp rfl .nil)) rfl (.refl _) (.refl _) ?_)))))))))))))))))))
    exact⟨rfl,fun M hM=>by rw [cutF,if_neg (by omega),if_neg (by omega),if_neg (by omega),if_pos (.inl (by omega))];rfl⟩
   refine aC (aY rfl rfl rfl rfl) rfl rfl (bI (aY rfl rfl rfl rfl) se23 rfl rfl (by assumption) (show _=((1:Nat):Int)from rfl) (by omega) rfl ?_)
   refine aT (aY rfl rfl rfl rfl) sc5 rfl (by assumption) (by first|exact get8 (by omega)|exact bT (by omega)|exact bU (by omega)) (by first|exact aL|exact aZ|exact bB|exact bF|exact bG|exact bH|exact bL|exact bK|exact bJ|exact bM) rfl ?_
   refine op_eql (aY rfl rfl rfl rfl) rfl rfl rfl (bR (aD rfl) rfl rfl rfl (aA (aB (s_14 (aK rfl (fun c41=>?_) (fun c41=>?_))))))
   ·refine At.seq fun _ s_16=>At.region (aE (aD rfl) rfl rfl (aE (aD rfl) rfl rfl (aA (aB (s_16 (At.ret (aM (aM ((bP (L1:= []) rfl (.tmp rfl (.tmp rfl .nil)) rfl (.refl _) (.refl _) ?_))))))))))
    exact⟨rfl,fun M hM=>by rw [cutF,if_neg (by omega),if_neg (by omega),if_neg (by omega),if_pos (.inr (by omega))];rfl⟩
   refine At.skip (aB (s_13 (At.seq fun _ s_17=>At.region (aC (aD rfl) rfl rfl (aC (aD rfl) rfl rfl (op_slice (aD rfl) se23 rfl (.some rfl (show _=((1:Nat):Int)from rfl)) (.some rfl (show _=(((hdr b- 54:Nat)):Int)from by omega)) .none (by omega) (by omega) (by omega) (by simp) rfl ?_))))))
   refine aJ (bA rfl) (.cons rfl .nil) (From_f (h.part8 (lo:=1) (hi:=hdr b- 54) (m:=cap) (by omega) (by omega) (by omega) (by omega)) (by omega)) Tryz.func140 rfl rfl (by simp) rfl ?_
   rintro v45 L45 ⟨M45,a45,rfl,rfl,s45⟩
   change At _ _ _ [M45,R] _
   have hl:=lng_pos (b:=b) (by omega) (by omega) (by omega)
   change RSl M45 1 a45 (limbsOf (lng b)).length (limbsOf (lng b)).length (u64s (limbsOf (lng b)))at s45
   change At _ ((45,.slice a45 (limbsOf (lng b)).length (limbsOf (lng b)).length)::_) _ [M45,R] _
   have hx:([UInt64.ofNat (lng b)].getD 0 0).toNat=lng b:=by rw [show [UInt64.ofNat (lng b)].getD 0 0=UInt64.ofNat (lng b)from rfl,UInt64.toNat_ofNat'];exact Nat.mod_eq_of_lt hl.2
   rw [limbs_one hl.1 hl.2]at s45⊢
   have hl1: [UInt64.ofNat (lng b)].length=1:=rfl
   refine aE (aD rfl) rfl rfl (aA (aB (s_17 (At.seq fun _ s_18=>At.seq fun _ s_19=>At.region (aC (aD rfl) rfl rfl (aU (aD rfl) se154 rfl rfl (op_gtr (aD rfl) rfl rfl rfl (aC (aD rfl) rfl rfl (At.partP (d:=49) rfl (fun g49=>?_) (fun g49=>?_))))))))))
   ·exfalso;omega
   refine aC (aY rfl rfl rfl rfl) rfl rfl (bI (aY rfl rfl rfl rfl) se154 rfl rfl (by assumption) (show _=((0:Nat):Int)from rfl) (by omega) rfl ?_)
   refine aT (aY rfl rfl rfl rfl) sc70 rfl (by assumption) (by first|exact get8 (by omega)|exact bT (by omega)|exact bU (by omega)) (by first|exact aL|exact aZ|exact bB|exact bF|exact bG|exact bH|exact bL|exact bK|exact bJ|exact bM) rfl ?_
   refine op_leq (aY rfl rfl rfl rfl) rfl rfl rfl (bR (aD rfl) rfl rfl rfl (aC (aD rfl) rfl rfl (At.partP (d:=55) rfl (fun g55=>?_) (fun g55=>?_))))
   ·refine aH rfl rfl rfl rfl rfl rfl rfl (aH rfl rfl rfl rfl rfl rfl rfl (aH rfl rfl rfl rfl rfl rfl rfl (aH rfl rfl rfl rfl rfl rfl rfl (aH rfl rfl rfl rfl rfl rfl rfl (aH rfl rfl rfl rfl rfl rfl rfl (aH rfl rfl rfl rfl rfl rfl rfl (bS (aD rfl) rfl rfl rfl (aA (aB (s_19 (At.condT rfl (At.seq fun _ s_20=>At.region (aE (aD rfl) rfl rfl (aE (aD rfl) rfl rfl (aA (aB (s_20 (At.ret (aM (aM ((At.sub (L':= [R]) (.cons _ (.cons_cons _ (.slnil))) (bP (L1:= []) rfl (.tmp rfl (.tmp rfl .nil)) rfl (.refl _) (.refl _) ?_)))))))))))))))))))))))
    exact⟨rfl,fun M hM=>by rw [cutF,if_neg (by omega),if_neg (by omega),if_neg (by omega),if_neg (by omega),if_pos (.inl (by omega))];rfl⟩
   refine aC (aY rfl rfl rfl rfl) rfl rfl (bI (aY rfl rfl rfl rfl) se154 rfl rfl (by assumption) (show _=((0:Nat):Int)from rfl) (by omega) rfl ?_)
   refine aT (aY rfl rfl rfl rfl) sc70 rfl (by assumption) (by first|exact get8 (by omega)|exact bT (by omega)|exact bU (by omega)) (by first|exact aL|exact aZ|exact bB|exact bF|exact bG|exact bH|exact bL|exact bK|exact bJ|exact bM) rfl ?_
   refine aC (aY rfl rfl rfl rfl) rfl rfl (aU (aY rfl rfl rfl rfl) se23 rfl rfl (op_conv64 (aY rfl rfl rfl rfl) (und_some Tryz.underlying3) Tryz.underlying70 rfl (by first|rfl|exact(Int.toNat_of_nonneg (by omega)).symm) rfl ?_))
   refine op_gtr (aY rfl rfl rfl rfl) rfl rfl rfl (bR (aD rfl) rfl rfl rfl (aA (aB (s_19 (aK rfl (fun c63=>?_) (fun c63=>?_))))))
   ·refine At.seq fun _ s_21=>At.region (aE (aD rfl) rfl rfl (aE (aD rfl) rfl rfl (aA (aB (s_21 (At.ret (aM (aM ((At.sub (L':= [R]) (.cons _ (.cons_cons _ (.slnil))) (bP (L1:= []) rfl (.tmp rfl (.tmp rfl .nil)) rfl (.refl _) (.refl _) ?_)))))))))))
    exact⟨rfl,fun M hM=>by rw [cutF,if_neg (by omega),if_neg (by omega),if_neg (by omega),if_neg (by omega),if_pos (.inr (by omega))];rfl⟩
   refine At.skip (aB (s_18 (At.region (aC (aD rfl) rfl rfl (bI (aD rfl) se154 rfl rfl (by assumption) (show _=((0:Nat):Int)from rfl) (by omega) rfl ?_)))))
   refine aT (aD rfl) sc70 rfl (by assumption) (by first|exact get8 (by omega)|exact bT (by omega)|exact bU (by omega)) (by first|exact aL|exact aZ|exact bB|exact bF|exact bG|exact bH|exact bL|exact bK|exact bJ|exact bM) rfl ?_
   refine op_convI (aD rfl) (und_some Tryz.underlying70) Tryz.underlying3 rfl (by omega) (by omega) rfl (aE (aD rfl) rfl rfl (aA (At.sub (L':= [R]) (.cons _ (.cons_cons _ (.slnil))) (aB (jk_10 ?_ (.refl _) ⟨hdr b- 54,lng b,rfl,rfl,by omega,by omega,by omega,by rw [cutF,if_neg (by omega),if_neg (by omega),if_neg (by omega),if_neg (by omega),if_neg (by omega)]⟩)))))
   exact .cons (by first|exact aP rfl (by omega)|rfl) (.cons (by first|exact aP rfl (by omega)|rfl) (.cons (by first|exact aP rfl (by omega)|rfl) (.cons (by first|exact aP rfl (by omega)|rfl) .nil)))
  refine At.skip (aB (jk_10 ?_ (.refl _) ⟨1,hdr b,rfl,rfl,by omega,by omega,by omega,by rw [cutF,if_neg (by omega),if_neg (by omega),if_pos (by omega)]⟩))
  exact .cons (by first|exact aP rfl (by omega)|rfl) (.cons (by first|exact aP rfl (by omega)|rfl) (.cons (by first|exact aP rfl (by omega)|rfl) (.cons (by first|exact aP rfl (by omega)|rfl) .nil)))
 rintro _ _ ⟨i,m,rfl,rfl,hi,hi0,hm,hc⟩
 refine s_10 (At.seq fun _ s_22=>At.seq fun _ s_23=>At.region (aC (aD rfl) rfl rfl (aC (aD rfl) rfl rfl (aU (aD rfl) se23 rfl rfl (aC (aD rfl) rfl rfl (op_subI (aD rfl) rfl rfl (by omega) (by omega) rfl (op_gtr (aD rfl) rfl rfl rfl (aA (aB (s_23 (aK rfl (fun c73=>?_) (fun c73=>?_))))))))))))
 ·refine At.seq fun _ s_24=>At.region (aE (aD rfl) rfl rfl (aE (aD rfl) rfl rfl (aA (aB (s_24 (At.ret (aM ((bP (L1:= []) rfl (.tmp rfl (.tmp rfl .nil)) rfl (.refl _) (.refl _) ?_)))))))))
  exact⟨rfl,fun M hM=>by rw [hc,cutAt,if_pos (by omega)];rfl⟩
 refine At.skip (aB (s_22 (At.seq fun _ s_25=>At.region (aC (aD rfl) rfl rfl (aC (aD rfl) rfl rfl (aC (aD rfl) rfl rfl (aC (aD rfl) rfl rfl (aV (aD rfl) rfl rfl (by omega) (by omega) rfl (op_slice (aD rfl) se23 rfl (.some rfl (show _=(((i:Nat)):Int)from by omega)) (.some rfl (show _=(((i+m:Nat)):Int)from by omega)) .none (by omega) (by omega) (by omega) (by simp) rfl ?_)))))))))
 have s79:=h.part8 (lo:=i) (hi:=i+m) (m:=cap) (by omega) (by omega) (by omega) (by omega)
 have l79:=s79.len8
 refine aE (aD rfl) rfl rfl (aA (aB (s_25 (At.seq fun _ s_26=>At.block (At.seq fun _ s_27=>At.region (aC (aD rfl) rfl rfl (op_geq (aD rfl) rfl rfl rfl (aE (aD rfl) rfl rfl (aA (aB (s_27 (aK rfl (fun c80=>?_) (fun c80=>?_)))))))))))))
 ·refine At.seq fun _ s_28=>At.drawn [] [0,1,2,3,4,5,6,7,8] (by kernel_rfl) (by kernel_rfl) (aC (aN rfl rfl rfl (by kernel_rfl)) rfl rfl (op_mkI (aN rfl rfl rfl (by kernel_rfl)) (by kernel_rfl) rfl rfl (aC (aN rfl rfl rfl (by kernel_rfl)) rfl rfl (aC (aN rfl rfl rfl (by kernel_rfl)) rfl rfl (aC (aN rfl rfl rfl (by kernel_rfl)) rfl rfl (aV (aN rfl rfl rfl (by kernel_rfl)) rfl rfl (by omega) (by omega) rfl (op_slice (aN rfl rfl rfl (by kernel_rfl)) se23 rfl (.some rfl (show _=(((i+m:Nat)):Int)from by omega)) .none .none (by omega) (by omega) (by omega) (by simp) rfl ?_)))))))
  refine aE (aN rfl rfl rfl (by kernel_rfl)) rfl rfl (aE (aN rfl rfl rfl (by kernel_rfl)) rfl rfl (At.oneNil (aB (s_28 (At.ret (At.inRet (aM ((bP (L1:= []) rfl (.tmp rfl (.tmp rfl .nil)) rfl (.refl _) (.refl _) (⟨rfl,fun M hM=>?_⟩))))))))))
  rw [hc,cutAt,if_neg (by omega),if_pos (by omega)]
  have e:=hM.part8 (lo:=i) (hi:=i+m) (m:=cap) (by omega) (by omega) (by omega) (by omega)
  rw [show i+m- i=m by omega]at e⊢
  exact cutv_mk rfl e (hM.drop8 (by omega))
 refine At.seq fun _ s_29=>At.region (aC (aD rfl) rfl rfl (op_eql (aD rfl) rfl rfl rfl (aC (aD rfl) rfl rfl (At.partP (d:=93) rfl (fun g93=>?_) (fun g93=>?_)))))
 ·refine aC (aY rfl rfl rfl rfl) rfl rfl (bI (aY rfl rfl rfl rfl) se23 rfl rfl (by assumption) (show _=((0:Nat):Int)from rfl) (by omega) rfl ?_)
  refine aT (aY rfl rfl rfl rfl) sc5 rfl (by assumption) (by first|exact get8 (by omega)|exact bT (by omega)|exact bU (by omega)) (by first|exact aL|exact aZ|exact bB|exact bF|exact bG|exact bH|exact bL|exact bK|exact bJ|exact bM) rfl ?_
  refine op_lss (aY rfl rfl rfl rfl) rfl rfl rfl (bS (aD rfl) rfl rfl rfl (aE (aD rfl) rfl rfl (aA (aB (s_29 (aK rfl (fun c90=>?_) (fun c90=>?_)))))))
  ·refine At.seq fun _ s_30=>At.region (aE (aD rfl) rfl rfl (aE (aD rfl) rfl rfl (aA (aB (s_30 (At.ret (At.inRet (aM ((bP (L1:= []) rfl (.tmp rfl (.tmp rfl .nil)) rfl (.refl _) (.refl _) ?_))))))))))
   exact⟨rfl,fun M hM=>by rw [hc,cutAt,if_neg (by omega),if_neg (by omega),if_pos ⟨by omega,by rw [getD_part (by omega)]at c90;omega⟩];rfl⟩
  refine At.skip (aR (aB (s_26 (At.seq fun _ s_31=>At.drawn [] [0,1,2,3,4,5,6,7,8] (by kernel_rfl) (by kernel_rfl) (aC (aN rfl rfl rfl (by kernel_rfl)) rfl rfl (op_mkI (aN rfl rfl rfl (by kernel_rfl)) (by kernel_rfl) rfl rfl (aC (aN rfl rfl rfl (by kernel_rfl)) rfl rfl (aC (aN rfl rfl rfl (by kernel_rfl)) rfl rfl (aC (aN rfl rfl rfl (by kernel_rfl)) rfl rfl (aV (aN rfl rfl rfl (by kernel_rfl)) rfl rfl (by omega) (by omega) rfl (op_slice (aN rfl rfl rfl (by kernel_rfl)) se23 rfl (.some rfl (show _=(((i+m:Nat)):Int)from by omega)) .none .none (by omega) (by omega) (by omega) (by simp) rfl ?_)))))))))))
  refine aE (aN rfl rfl rfl (by kernel_rfl)) rfl rfl (aE (aN rfl rfl rfl (by kernel_rfl)) rfl rfl (At.oneNil (aB (s_31 (At.ret ((bP (L1:= []) rfl (.tmp rfl (.tmp rfl .nil)) rfl (.refl _) (.refl _) (⟨rfl,fun M hM=>?_⟩))))))))
  rw [getD_part (by omega)]at c90
  rw [hc,cutAt,if_neg (by omega),if_neg (by omega),if_neg (by omega)]
  have e:=hM.part8 (lo:=i) (hi:=i+m) (m:=cap) (by omega) (by omega) (by omega) (by omega)
  rw [show i+m- i=m by omega]at e⊢
  exact cutv_mk rfl e (hM.drop8 (by omega))
 refine aH rfl rfl rfl rfl rfl rfl rfl (aH rfl rfl rfl rfl rfl rfl rfl (aH rfl rfl rfl rfl rfl rfl rfl (aH rfl rfl rfl rfl rfl rfl rfl (bR (aD rfl) rfl rfl rfl (aE (aD rfl) rfl rfl (aA (aB (s_29 (At.condF rfl (At.skip (aR (aB (s_26 (At.seq fun _ s_32=>At.drawn [] [0,1,2,3,4,5,6,7,8] (by kernel_rfl) (by kernel_rfl) (aC (aN rfl rfl rfl (by kernel_rfl)) rfl rfl (op_mkI (aN rfl rfl rfl (by kernel_rfl)) (by kernel_rfl) rfl rfl (aC (aN rfl rfl rfl (by kernel_rfl)) rfl rfl (aC (aN rfl rfl rfl (by kernel_rfl)) rfl rfl (aC (aN rfl rfl rfl (by kernel_rfl)) rfl rfl (aV (aN rfl rfl rfl (by kernel_rfl)) rfl rfl (by omega) (by omega) rfl (op_slice (aN rfl rfl rfl (by kernel_rfl)) se23 rfl (.some rfl (show _=(((i+m:Nat)):Int)from by omega)) .none .none (by omega) (by omega) (by omega) (by simp) rfl ?_)))))))))))))))))))))
 refine aE (aN rfl rfl rfl (by kernel_rfl)) rfl rfl (aE (aN rfl rfl rfl (by kernel_rfl)) rfl rfl (At.oneNil (aB (s_32 (At.ret ((bP (L1:= []) rfl (.tmp rfl (.tmp rfl .nil)) rfl (.refl _) (.refl _) (⟨rfl,fun M hM=>?_⟩))))))))
 rw [hc,cutAt,if_neg (by omega),if_neg (by omega),if_neg (by omega)]
 have e:=hM.part8 (lo:=i) (hi:=i+m) (m:=cap) (by omega) (by omega) (by omega) (by omega)
 rw [show i+m- i=m by omega]at e⊢
 exact cutv_mk rfl e (hM.drop8 (by omega))
end Go.Proofs.YtdpjbefeabokgaaGreat
/- Items: trees of byte strings, their forms, and how they lie in memory. No condition. -/
namespace Go.Proofs.YtdpjbefeabokgaaGreat
open Go Go.RowKit
/-- An item: whether it is a list, its bytes, its items. -/
inductive It where
 |mk (list:Bool) (bytes:List UInt8) (items:List It)
mutual
def It.form:It→List UInt8
 |.mk false bs _=>match bs with
  | [x]=>if x<128 then [x]else rlpHead 128 1++ [x]
  |bs=>rlpHead 128 bs.length++bs
 |.mk true _ its=>rlpHead 192 (It.forms its).length++It.forms its
def It.forms:List It→List UInt8
 | []=> []
 |t::ts=>It.form t++It.forms ts
end
mutual
def It.depth:It→Nat
 |.mk false _ _=>0
 |.mk true _ its=>It.depths its+1
def It.depths:List It→Nat
 | []=>0
 |t::ts=>max (It.depth t) (It.depths ts)
end
mutual
theorem It.ind_it {P:It→Prop} (h: ∀l bs its,(∀t∈its,P t)→P (.mk l bs its)): ∀t,P t
 |.mk l bs its=>h l bs its (It.ind_its h its)
theorem It.ind_its {P:It→Prop} (h: ∀l bs its,(∀t∈its,P t)→P (.mk l bs its)): ∀its:List It, ∀t∈its,P t
 | [],_,ht=>by cases ht
 |x::xs,t,ht=>by
  rcases List.mem_cons.1 ht with e|ht
  ·rw [e];exact It.ind_it h x
  ·exact It.ind_its h xs t ht
end
theorem forms_append (a b:List It):It.forms (a++b)=It.forms a++It.forms b:=by
 induction a with
 |nil=>rfl
 |cons t ts ih=>simp only [List.cons_append,It.forms,ih,List.append_assoc]
theorem forms_take_succ {its:List It} {k:Nat} {t:It} (h:its[k]? =some t):It.forms (its.take (k+1))=It.forms (its.take k)++t.form:=by
 obtain⟨hlt,rfl⟩:=List.getElem?_eq_some_iff.1 h
 rw [List.take_succ_eq_append_getElem hlt,forms_append]
 simp [It.forms]
theorem forms_take_le (its:List It) (k:Nat):(It.forms (its.take k)).length≤(It.forms its).length:=by
 conv=>rhs;rw [←List.take_append_drop k its]
 rw [forms_append,List.length_append]
 omega
theorem form_le {its:List It} {t:It} (h:t∈its):t.form.length≤(It.forms its).length:=by
 obtain⟨a,b,rfl⟩:=List.append_of_mem h
 rw [forms_append,It.forms]
 simp
 omega
theorem depths_le {its:List It} {d:Nat} :It.depths its≤d↔ ∀t∈its,t.depth≤d:=by
 induction its with
 |nil=>simp [It.depths]
 |cons t ts ih=>simp [It.depths,Nat.max_le,ih]
/-- One byte below 128. -/
def small:List UInt8→Bool
 | [x]=>decide (x<128)
 |_=>false
theorem form_false (bs:List UInt8) (its:List It):(It.mk false bs its).form=if small bs then bs else rlpHead 128 bs.length++bs:=by
 cases bs with
 |nil=>simp [It.form,small]
 |cons x xs=>
  cases xs with
  |nil=>simp [It.form,small]
  |cons y ys=>simp [It.form,small]
theorem form_true (bs:List UInt8) (its:List It):(It.mk true bs its).form=rlpHead 192 (It.forms its).length++It.forms its:=by simp [It.form]
theorem small_iffI {bs:List UInt8} :small bs=true↔bs.length=1∧(bs.getD 0 0).toNat<128:=by
 cases bs with
 |nil=>simp [small]
 |cons x xs=>
  cases xs with
  |nil=>simp [small,UInt8.lt_iff_toNat_lt]
  |cons y ys=>simp [small]
theorem one_eq {bs:List UInt8} (h:bs.length=1):bs= [bs.getD 0 0]:=by
 cases bs with
 |nil=>simp at h
 |cons x xs=>cases xs with
  |nil=>rfl
  |cons y ys=>simp at h
/-- An item's three values. -/
structure IV where
 l:Bool
 ab:Option Addr
 nb:Nat
 cb:Nat
 ai:Option Addr
 ni:Nat
 ci:Nat
def IV.cells (x:IV):List Value:= [.bool x.l,.slice x.ab x.nb x.cb,.slice x.ai x.ni x.ci]
def cellsI (xs:List IV):List Value:=xs.flatMap IV.cells
theorem length_cellsI (xs:List IV):(cellsI xs).length=xs.length*3:=by
 induction xs with
 |nil=>rfl
 |cons x t ih=>simp only [cellsI,List.flatMap_cons,List.length_append,List.length_cons]at ih⊢;rw [ih];simp [IV.cells];omega
theorem cells_at {xs:List IV} {k:Nat} {x:IV} (h:xs[k]? =some x):((cellsI xs).drop (k*3)).take 3= [.bool x.l,.slice x.ab x.nb x.cb,.slice x.ai x.ni x.ci]:=by
 induction xs generalizing k with
 |nil=>simp at h
 |cons y t ih=>
  cases k with
  |zero=>simp at h;subst h;simp [cellsI,IV.cells]
  |succ k=>
   have:=ih (k:=k) (by simpa using h)
   rw [←this]
   have e:cellsI (y::t)=y.cells++cellsI t:=by simp [cellsI]
   have hl:y.cells.length=3:=rfl
   rw [e,show(k+1)*3=y.cells.length+k*3 from by rw [hl];omega,List.drop_append,List.drop_eq_nil_of_le (by omega),List.nil_append,Nat.add_sub_cancel_left]
mutual
/-- The item's values read so in N. -/
def ItN (N:Heaplet):It→IV→Prop
 |.mk l bs its,x=>x.l=l∧RSl N 1 x.ab x.nb x.cb (u8s bs)∧ ∃xs,RSl N 3 x.ai x.ni x.ci (cellsI xs)∧ItsN N its xs
def ItsN (N:Heaplet):List It→List IV→Prop
 | [],xs=>xs= []
 |t::ts,xs=> ∃x r,xs=x::r∧ItN N t x∧ItsN N ts r
end
mutual
theorem ItN.le {N M:Heaplet} (hl:N.le M): ∀ {t:It} {x:IV},ItN N t x→ItN M t x
 |.mk l bs its,x,h=>by
  simp only [ItN]at h⊢
  obtain⟨h1,h2,xs,h3,h4⟩:=h
  exact⟨h1,h2.le hl,xs,h3.le hl,ItsN.le hl h4⟩
theorem ItsN.le {N M:Heaplet} (hl:N.le M): ∀ {ts:List It} {xs:List IV},ItsN N ts xs→ItsN M ts xs
 | [],xs,h=>h
 |t::ts,xs,h=>by
  simp only [ItsN]at h⊢
  obtain⟨x,r,e,h1,h2⟩:=h
  exact⟨x,r,e,ItN.le hl h1,ItsN.le hl h2⟩
end
theorem ItsN.length {N:Heaplet} : ∀ {ts:List It} {xs:List IV},ItsN N ts xs→xs.length=ts.length
 | [],xs,h=>by simp only [ItsN]at h;subst h;rfl
 |t::ts,xs,h=>by
  simp only [ItsN]at h
  obtain⟨x,r,rfl,_,h2⟩:=h
  simp [h2.length]
theorem ItsN.get {N:Heaplet} : ∀ {ts:List It} {xs:List IV} {k:Nat} {t:It},ItsN N ts xs→ts[k]? =some t→ ∃x,xs[k]? =some x∧ItN N t x
 | [],xs,k,t,_,h=>by simp at h
 |t'::ts,xs,0,t,h,hk=>by
  simp only [ItsN]at h
  obtain⟨x,r,rfl,h1,_⟩:=h
  simp at hk;subst hk
  exact⟨x,rfl,h1⟩
 |t'::ts,xs,k+1,t,h,hk=>by
  simp only [ItsN]at h
  obtain⟨x,r,rfl,_,h2⟩:=h
  obtain⟨y,hy,hi⟩:=h2.get (k:=k) (by simpa using hk)
  exact⟨y,by simpa using hy,hi⟩
theorem ItsN.snoc {N:Heaplet} : ∀ {ts:List It} {xs:List IV} {t:It} {x:IV},ItsN N ts xs→ItN N t x→ItsN N (ts++ [t]) (xs++ [x])
 | [],xs,t,x,h,hi=>by simp only [ItsN]at h;subst h;exact⟨x,[],rfl,hi,rfl⟩
 |t'::ts,xs,t,x,h,hi=>by
  simp only [ItsN]at h
  obtain⟨y,r,rfl,h1,h2⟩:=h
  exact⟨y,r++ [x],rfl,h1,h2.snoc hi⟩
theorem ItN.mk {N:Heaplet} {l:Bool} {bs:List UInt8} {its:List It} {ab ai:Option Addr} {nb cb ni ci:Nat} {xs:List IV} (h1:RSl N 1 ab nb cb (u8s bs)) (h2:RSl N 3 ai ni ci (cellsI xs)) (h3:ItsN N its xs):ItN N (.mk l bs its) ⟨l,ab,nb,cb,ai,ni,ci⟩:=⟨rfl,h1,xs,h2,h3⟩
end Go.Proofs.YtdpjbefeabokgaaGreat
/- Plain law: the item that bytes tell. No condition. -/
namespace Go.Proofs.YtdpjbefeabokgaaGreat
def exMap {α:Type} (f:List α→List α):Except Nat (List α)→Except Nat (List α)
 |.ok l=>.ok (f l)
 |.error e=>.error e
/-- Items one behind the other. -/
def itemsF (dec:List UInt8→Except Nat (It×List UInt8)):Nat→List UInt8→Except Nat (List It)
 |_,[]=>.ok []
 |0,_::_=>.error 2
 |f+1,c::b=>match dec (c::b)with
  |.error e=>.error e
  |.ok (t,q)=>exMap (t:: ·) (itemsF dec f q)
def itF (dec:List UInt8→Except Nat (It×List UInt8)) (b:List UInt8):Except Nat (List It):=itemsF dec b.length b
/-- The first item and what is behind it, or the error's number; k more lists may be nested. -/
def decF:Nat→List UInt8→Except Nat (It×List UInt8)
 |0,b=>match cutF b with
  |none=>.error 2
  |some (false,p,r)=>.ok (.mk false p [],r)
  |some (true,_,_)=>.error 7
 |k+1,b=>match cutF b with
  |none=>.error 2
  |some (false,p,r)=>.ok (.mk false p [],r)
  |some (true,p,r)=>match itF (decF k) p with
   |.error e=>.error e
   |.ok its=>.ok (.mk true [] its,r)
theorem cutAt_len {b:List UInt8} {i n:Nat} (hi:i≤b.length) {l:Bool} {p r:List UInt8} (h:cutAt b i n=some (l,p,r)):i+p.length+r.length=b.length:=by
 unfold cutAt at h
 split at h
 ·cases h
 ·rename_i h1
  split at h
  ·cases h;rw [List.length_take,List.length_drop,List.length_drop];omega
  ·split at h
   ·cases h
   ·cases h;rw [List.length_take,List.length_drop,List.length_drop];omega
theorem cutF_len {b:List UInt8} {l:Bool} {p r:List UInt8} (h:cutF b=some (l,p,r)):p.length≤b.length∧r.length<b.length:=by
 unfold cutF at h
 split at h
 ·cases h
 ·rename_i h0
  split at h
  ·cases h;rw [List.length_take,List.length_drop];omega
  ·split at h
   ·have:=cutAt_len (by omega) h;omega
   ·rename_i h55
    split at h
    ·cases h
    ·rename_i h2
     split at h
     ·cases h
     ·have:=cutAt_len (by omega) h;omega
theorem decF_lt {k:Nat} {b q:List UInt8} {t:It} (h:decF k b=.ok (t,q)):q.length<b.length:=by
 cases k with
 |zero=>
  unfold decF at h
  split at h
  ·cases h
  ·rename_i hc;cases h;exact(cutF_len hc).2
  ·cases h
 |succ k=>
  unfold decF at h
  split at h
  ·cases h
  ·rename_i hc;cases h;exact(cutF_len hc).2
  ·rename_i hc
   split at h
   ·cases h
   ·cases h;exact(cutF_len hc).2
theorem itemsF_fuel {dec:List UInt8→Except Nat (It×List UInt8)} (hd: ∀b t q,dec b=.ok (t,q)→q.length<b.length): ∀(f g:Nat) (b:List UInt8),b.length≤f→b.length≤g→itemsF dec f b=itemsF dec g b:=by
 intro f
 induction f with
 |zero=>
  intro g b hf hg
  cases b with
  |nil=>cases g<;>rfl
  |cons c b=>simp at hf
 |succ f ih=>
  intro g b hf hg
  cases b with
  |nil=>cases g<;>rfl
  |cons c b=>
   cases g with
   |zero=>simp at hg
   |succ g=>
    simp only [itemsF]
    cases hc:dec (c::b)with
    |error e=>rfl
    |ok tq=>
     obtain⟨t,q⟩:=tq
     have:=hd _ _ _ hc
     simp only [List.length_cons]at this hf hg
     simp only
     rw [ih g q (by omega) (by omega)]
theorem itF_nil (dec:List UInt8→Except Nat (It×List UInt8)):itF dec []=.ok []:=rfl
theorem itF_error {dec:List UInt8→Except Nat (It×List UInt8)} {b:List UInt8} {e:Nat} (h0:0<b.length) (h:dec b=.error e):itF dec b=.error e:=by
 cases b with
 |nil=>simp at h0
 |cons c b=>unfold itF;simp only [List.length_cons,itemsF,h]
theorem itF_ok {dec:List UInt8→Except Nat (It×List UInt8)} (hd: ∀b t q,dec b=.ok (t,q)→q.length<b.length) {b q:List UInt8} {t:It} (h0:0<b.length) (h:dec b=.ok (t,q)):itF dec b=exMap (t:: ·) (itF dec q):=by
 cases b with
 |nil=>simp at h0
 |cons c b=>
  have:=hd _ _ _ h
  simp only [List.length_cons]at this
  unfold itF
  simp only [List.length_cons,itemsF,h]
  rw [itemsF_fuel hd b.length q.length q (by omega) (Nat.le_refl _)]
theorem exMap_map {α:Type} (f g:List α→List α) (r:Except Nat (List α)):exMap f (exMap g r)=exMap (fun l=>f (g l)) r:=by cases r<;>rfl
end Go.Proofs.YtdpjbefeabokgaaGreat
/- rlp.decode, rlp.Decode read the item that bytes tell. No condition but that they are not longer than a machine holds. -/
namespace Go.Proofs.YtdpjbefeabokgaaGreat
open Go Go.RowKit
set_option maxRecDepth 100000
/-- What decode tells. -/
def DecP (ao:Option Addr) (n cap:Nat) (b:List UInt8) (r:Except Nat (It×List UInt8)) (v:Value) (L:List Heaplet):Prop:=
 (∃t q M, ∃x:IV, ∃aq cq,r=.ok (t,q)∧v=.tuple #[.agg #[.bool x.l,.slice x.ab x.nb x.cb,.slice x.ai x.ni x.ci],.slice aq q.length cq,.int .i64 0]∧L= [M]∧ItN M t x∧ ∀N,RSl N 1 ao n cap (u8s b)→RSl N 1 aq q.length cq (u8s q))∨
 (∃e:Nat,r=.error e∧v=.tuple #[.agg #[.bool false,.slice none 0 0,.slice none 0 0],.slice none 0 0,.int .i64 (e:Int)]∧L= []∧e≠0)
theorem cut_none {N:Heaplet} {ao:Option Addr} {n cap:Nat} {b:List UInt8} (h:RSl N 1 ao n cap (u8s b)) (hn:n≤1099511627776) (hc:cutF b=none):
 Fn Tryz.prog 130 #[.slice ao n cap] [] [N] (fun v L=>v=.tuple #[.nilIface,.slice none 0 0]∧L= []):=
 (cut_f h hn).mono fun v L ⟨h1,h2⟩=>⟨by have:=h2 N h;rw [hc]at this;exact this,h1⟩
theorem cut_some {N:Heaplet} {ao:Option Addr} {n cap:Nat} {b p q:List UInt8} {l:Bool} (h:RSl N 1 ao n cap (u8s b)) (hn:n≤1099511627776) (hc:cutF b=some (l,p,q)):
 Fn Tryz.prog 130 #[.slice ao n cap] [] [N] (fun v L=> ∃a1 c1 a2 c2,v=.tuple #[.iface (if l then 186 else 184) (.slice a1 p.length c1),.slice a2 q.length c2]∧L= []∧RSl N 1 a1 p.length c1 (u8s p)∧ ∀M,RSl M 1 ao n cap (u8s b)→RSl M 1 a2 q.length c2 (u8s q)):=
 (cut_f h hn).mono fun v L ⟨h1,h2⟩=>by
  have h3:=h2 N h
  rw [hc]at h3
  obtain⟨a1,c1,a2,c2,rfl,h4,h5⟩:=h3
  refine⟨a1,c1,a2,c2,rfl,h1,h4,fun M hM=>?_⟩
  have h6:=h2 M hM
  rw [hc]at h6
  obtain⟨_,_,a2',c2',e,_,h7⟩:=h6
  simp only [Value.tuple.injEq,List.toArray_inj,Array.mk.injEq,List.cons.injEq,Value.iface.injEq,Value.slice.injEq,true_and,and_true]at e
  obtain⟨_,rfl,rfl⟩:=e
  exact h7
theorem decode_none {N:Heaplet} {ao:Option Addr} {n cap:Nat} {b:List UInt8} (h:RSl N 1 ao n cap (u8s b)) (hn:n≤1099511627776) (hc:cutF b=none) (k:Nat) (q:Int):
 Fn Tryz.prog 110 #[.slice ao n cap,.int .i64 q] [] [N] (DecP ao n cap b (decF k b)):=by
 have hd:decF k b=.error 2:=by cases k<;>simp [decF,hc]
 refine Fn.enter (vs:= [.slice ao n cap,.int .i64 q]) Tryz.func110 rfl rfl rfl ?_
 intro E R hR
 have h:=h.le (hR N (by simp))
 change At _ _ E [R] _
 refine At.seq fun _ s_1=>At.region (bO (bA rfl) ze68 rfl (fun N4 b4 B4=>?_))
 change Blk N4 b4 _ [.bool false,.slice none 0 0,.slice none 0 0]at B4
 refine aE (aD rfl) rfl rfl (aE (aD rfl) rfl rfl (aA (aB (s_1 (At.seq fun _ s_2=>At.region (aC (aD rfl) rfl rfl (aJ (bA rfl) (.cons rfl .nil) (cut_none h hn hc) Tryz.func130 rfl rfl (by simp) rfl ?_)))))))
 rintro v18 L18 ⟨rfl,rfl⟩
 change At _ _ _ [N4,R] _
 refine aC (aD rfl) rfl rfl (aS (aD rfl) rfl rfl rfl (aS (aD rfl) rfl rfl rfl (aE (aD rfl) rfl rfl (aE (aD rfl) rfl rfl (aA (aB (s_2 (At.seq fun _ s_3=>At.seq fun _ s_4=>At.region (aC (aD rfl) rfl rfl (op_eqNilT (aD rfl) (by kernel_rfl) rfl rfl (aA (aB (s_4 (At.condT rfl (At.seq fun _ s_5=>At.region (op_build (out:= [.bool false,.slice none 0 0,.slice none 0 0]) (aD rfl) ze68 pl68 .nil rfl rfl (aO (nxl rfl) sz68 rfl rfl rfl rfl rfl B4 (by simp) sel0 (fun N4 B4=>?_))))))))))))))))))
 simp only [setL,List.set]at B4
 refine aE (aD rfl) rfl rfl (aE (aD rfl) rfl rfl (aA (aB (s_5 (At.ret (aM ((bP (L1:= []) rfl (.cell rfl (res_agg (ds:= [_,_,_]) ag68 B4 rfl rfl aL) (.tmp rfl (.tmp rfl .nil))) rfl (.cons _ (.refl _)) (.refl _) ?_))))))))
 exact .inr ⟨2,hd,rfl,rfl,by decide⟩
theorem decode_text {N:Heaplet} {ao:Option Addr} {n cap:Nat} {b p r:List UInt8} (h:RSl N 1 ao n cap (u8s b)) (hn:n≤1099511627776) (hc:cutF b=some (false,p,r)) (k:Nat) (q:Int):
 Fn Tryz.prog 110 #[.slice ao n cap,.int .i64 q] [] [N] (DecP ao n cap b (decF k b)):=by
 have hd:decF k b=.ok (.mk false p [],r):=by cases k<;>simp [decF,hc]
 have hlen:=h.len8
 have hcl:=(cutF_len hc).1
 refine Fn.enter (vs:= [.slice ao n cap,.int .i64 q]) Tryz.func110 rfl rfl rfl ?_
 intro E R hR
 have h:=h.le (hR N (by simp))
 change At _ _ E [R] _
 refine At.seq fun _ s_1=>At.region (bO (bA rfl) ze68 rfl (fun N4 b4 B4=>?_))
 change Blk N4 b4 _ [.bool false,.slice none 0 0,.slice none 0 0]at B4
 refine aE (aD rfl) rfl rfl (aE (aD rfl) rfl rfl (aA (aB (s_1 (At.seq fun _ s_2=>At.region (aC (aD rfl) rfl rfl (aJ (bA rfl) (.cons rfl .nil) (cut_some h hn hc) Tryz.func130 rfl rfl (by simp) rfl ?_)))))))
 rintro v18 L18 ⟨a1,c1,a2,c2,rfl,rfl,h1,h2⟩
 change At _ _ _ [N4,R] _
 refine aC (aD rfl) rfl rfl (aS (aD rfl) rfl rfl rfl (aS (aD rfl) rfl rfl rfl (aE (aD rfl) rfl rfl (aE (aD rfl) rfl rfl (aA (aB (s_2 (At.seq fun _ s_3=>At.seq fun _ s_4=>At.region (aC (aD rfl) rfl rfl (op_eqNilF (aD rfl) (by kernel_rfl) rfl rfl (aA (aB (s_4 (At.condF rfl (At.skip (aB (s_3 (At.seq fun _ s_5=>At.seq fun _ s_6=>At.region (aC (aD rfl) rfl rfl ?_)))))))))))))))))))
 refine op_assertY (aD rfl) (by kernel_rfl) rfl rfl (aC (aD rfl) rfl rfl (aS (aD rfl) rfl rfl rfl (aS (aD rfl) rfl rfl rfl (aE (aD rfl) rfl rfl (aE (aD rfl) rfl rfl (aA (aB (s_6 (At.seq fun _ s_7=>At.region (aC (aD rfl) rfl rfl (aA (aB (s_7 (At.condT rfl (At.seq fun _ s_8=>At.region (aC (aD rfl) rfl rfl ?_))))))))))))))))
 refine op_append0 (bA rfl) Tryz.underlying23 Tryz.underlying184 te5 rfl rfl (by assumption) (by first|exact aL|exact aZ|exact bB|exact bF|exact bG|exact bH|exact bL|exact bK|exact bJ|exact bM) (by first|exact one_u8s _|exact one_u64s _|exact one_u32s _|(intro u hu;simp at hu;subst hu;rfl)) (by omega) (by omega) rfl (fun N31 a31 p31 r31=>?_)
 have s31:=r31.rsl
 refine op_build (out:= [.bool false,_,.slice none 0 0]) (aD rfl) ze68 pl68 (.cons rfl .nil) rfl rfl (aC (aD rfl) rfl rfl (aO (nxl rfl) sz68 rfl rfl rfl rfl rfl B4 (by simp) sel1 (fun N4 B4=>?_)))
 simp only [setL,List.set]at B4
 refine aE (aD rfl) rfl rfl (aE (aD rfl) rfl rfl (aA (aB (s_8 (At.ret (aM ((bP (L1:= [N31]) rfl (.cell rfl (res_agg (ds:= [_,_,_]) ag68 B4 rfl rfl aL) (.tmp rfl (.tmp rfl .nil))) rfl (.cons _ (.refl _)) (.refl _) ?_))))))))
 exact .inl ⟨_,_,N31,⟨false,a31,p.length,p31,none,0,0⟩,a2,c2,hd,rfl,rfl,ItN.mk s31 (xs:= []) (RSl.nil _ _) rfl,h2⟩
theorem decode_deep {N:Heaplet} {ao:Option Addr} {n cap:Nat} {b p r:List UInt8} (h:RSl N 1 ao n cap (u8s b)) (hn:n≤1099511627776) (hc:cutF b=some (true,p,r)):
 Fn Tryz.prog 110 #[.slice ao n cap,.int .i64 1024] [] [N] (DecP ao n cap b (decF 0 b)):=by
 have hd:decF 0 b=.error 7:=by simp [decF,hc]
 refine Fn.enter (vs:= [.slice ao n cap,.int .i64 1024]) Tryz.func110 rfl rfl rfl ?_
 intro E R hR
 have h:=h.le (hR N (by simp))
 change At _ _ E [R] _
 refine At.seq fun _ s_1=>At.region (bO (bA rfl) ze68 rfl (fun N4 b4 B4=>?_))
 change Blk N4 b4 _ [.bool false,.slice none 0 0,.slice none 0 0]at B4
 refine aE (aD rfl) rfl rfl (aE (aD rfl) rfl rfl (aA (aB (s_1 (At.seq fun _ s_2=>At.region (aC (aD rfl) rfl rfl (aJ (bA rfl) (.cons rfl .nil) (cut_some h hn hc) Tryz.func130 rfl rfl (by simp) rfl ?_)))))))
 rintro v18 L18 ⟨a1,c1,a2,c2,rfl,rfl,h1,h2⟩
 change At _ _ _ [N4,R] _
 refine aC (aD rfl) rfl rfl (aS (aD rfl) rfl rfl rfl (aS (aD rfl) rfl rfl rfl (aE (aD rfl) rfl rfl (aE (aD rfl) rfl rfl (aA (aB (s_2 (At.seq fun _ s_3=>At.seq fun _ s_4=>At.region (aC (aD rfl) rfl rfl (op_eqNilF (aD rfl) (by kernel_rfl) rfl rfl (aA (aB (s_4 (At.condF rfl (At.skip (aB (s_3 (At.seq fun _ s_5=>At.seq fun _ s_6=>At.region (aC (aD rfl) rfl rfl ?_)))))))))))))))))))
 refine op_assertN (aD rfl) (by kernel_rfl) ze184 rfl rfl rfl (aC (aD rfl) rfl rfl (aS (aD rfl) rfl rfl rfl (aS (aD rfl) rfl rfl rfl (aE (aD rfl) rfl rfl (aE (aD rfl) rfl rfl (aA (aB (s_6 (At.seq fun _ s_7=>At.region (aC (aD rfl) rfl rfl (aA (aB (s_7 (At.condF rfl (At.skip (aB (s_5 (At.seq fun _ s_8=>At.seq fun _ s_9=>At.region (aC (aD rfl) rfl rfl (op_eql (aD rfl) rfl rfl rfl ?_))))))))))))))))))))
 refine aA (aB (s_9 (aK rfl (fun c35=>?_) (fun c35=>?_))))
 rotate_left
 ·exact absurd rfl c35
 refine At.seq fun _ s_10=>At.region (op_build (out:= [.bool false,.slice none 0 0,.slice none 0 0]) (aD rfl) ze68 pl68 .nil rfl rfl (aO (nxl rfl) sz68 rfl rfl rfl rfl rfl B4 (by simp) sel0 (fun N4 B4=>?_)))
 simp only [setL,List.set]at B4
 refine aE (aD rfl) rfl rfl (aE (aD rfl) rfl rfl (aA (aB (s_10 (At.ret (aM ((bP (L1:= []) rfl (.cell rfl (res_agg (ds:= [_,_,_]) ag68 B4 rfl rfl aL) (.tmp rfl (.tmp rfl .nil))) rfl (.cons _ (.refl _)) (.refl _) ?_))))))))
 exact .inr ⟨7,hd,rfl,rfl,by decide⟩
theorem decode_its {N:Heaplet} {ao:Option Addr} {n cap:Nat} {b p r:List UInt8} (h:RSl N 1 ao n cap (u8s b)) (hn:n≤1099511627776) (hc:cutF b=some (true,p,r)) (k:Nat) (q:Int) (hq:q+k+1=1024) (hk0:0≤q)
 (ih: ∀(N:Heaplet) (ao:Option Addr) (n cap:Nat) (b:List UInt8) (q:Int),RSl N 1 ao n cap (u8s b)→n≤1099511627776→q+k=1024→0≤q→Fn Tryz.prog 110 #[.slice ao n cap,.int .i64 q] [] [N] (DecP ao n cap b (decF k b))):
 Fn Tryz.prog 110 #[.slice ao n cap,.int .i64 q] [] [N] (DecP ao n cap b (decF (k+1) b)):=by
 have hlen:=h.len8
 have hcl:=(cutF_len hc).1
 refine Fn.enter (vs:= [.slice ao n cap,.int .i64 q]) Tryz.func110 rfl rfl rfl ?_
 intro E R hR
 have h:=h.le (hR N (by simp))
 change At _ _ E [R] _
 refine At.seq fun _ s_1=>At.region (bO (bA rfl) ze68 rfl (fun N4 b4 B4=>?_))
 change Blk N4 b4 _ [.bool false,.slice none 0 0,.slice none 0 0]at B4
 refine aE (aD rfl) rfl rfl (aE (aD rfl) rfl rfl (aA (aB (s_1 (At.seq fun _ s_2=>At.region (aC (aD rfl) rfl rfl (aJ (bA rfl) (.cons rfl .nil) (cut_some h hn hc) Tryz.func130 rfl rfl (by simp) rfl ?_)))))))
 rintro v18 L18 ⟨a1,c1,a2,c2,rfl,rfl,h1,h2⟩
 change At _ _ _ [N4,R] _
 refine aC (aD rfl) rfl rfl (aS (aD rfl) rfl rfl rfl (aS (aD rfl) rfl rfl rfl (aE (aD rfl) rfl rfl (aE (aD rfl) rfl rfl (aA (aB (s_2 (At.seq fun _ s_3=>At.seq fun _ s_4=>At.region (aC (aD rfl) rfl rfl (op_eqNilF (aD rfl) (by kernel_rfl) rfl rfl (aA (aB (s_4 (At.condF rfl (At.skip (aB (s_3 (At.seq fun _ s_5=>At.seq fun _ s_6=>At.region (aC (aD rfl) rfl rfl ?_)))))))))))))))))))
 refine op_assertN (aD rfl) (by kernel_rfl) ze184 rfl rfl rfl (aC (aD rfl) rfl rfl (aS (aD rfl) rfl rfl rfl (aS (aD rfl) rfl rfl rfl (aE (aD rfl) rfl rfl (aE (aD rfl) rfl rfl (aA (aB (s_6 (At.seq fun _ s_7=>At.region (aC (aD rfl) rfl rfl (aA (aB (s_7 (At.condF rfl (At.skip (aB (s_5 (At.seq fun _ s_8=>At.seq fun _ s_9=>At.region (aC (aD rfl) rfl rfl (op_eql (aD rfl) rfl rfl rfl ?_))))))))))))))))))))
 refine aA (aB (s_9 (aK rfl (fun c35=>?_) (fun c35=>?_))))
 ·exfalso;omega
 refine At.skip (aB (s_8 (At.seq fun _ s_10=>At.region (op_build (out:= [_,.slice none 0 0,.slice none 0 0]) (aD rfl) ze68 pl68 (.cons rfl .nil) rfl rfl (bO (bA rfl) ze68 rfl (fun N11 b11 B11=>?_))))))
 change Blk N11 b11 _ [.bool false,.slice none 0 0,.slice none 0 0]at B11
 refine aO (nxl rfl) sz68 rfl rfl rfl rfl rfl B11 (by simp) sel0 (fun N11 B11=>?_)
 simp only [setL,List.set]at B11
 refine aA (aB (s_10 (At.seq fun _ s_11=>At.seq fun _ s_12=>At.region (aC (aD rfl) rfl rfl (op_assert1 (aD rfl) (by kernel_rfl) rfl rfl (aE (aD rfl) rfl rfl (aA (aB (s_12 (At.block (At.empty (At.empty (At.perm sel4 (At.perm sel1 (At.perm sel2 (At.perm sel3 (At.perm sel4 ?_)))))))))))))))))
 refine At.loop (fun fr_ hp_ ms_=> ∃(p':List UInt8) (ac:Option Addr) (m cc:Nat) (done:List It) (xs:List IV) (ai:Option Addr) (ni ci:Nat) (N11 Nr Ns:Heaplet),fr_= [(0,.slice ao n cap),(1,.int .i64 q),(4,.pointer (some ⟨b4,0,none⟩)),(8,.slice a2 r.length c2),(11,.pointer (some ⟨b11,0,none⟩)),(12,.slice ac m cc)]∧hp_= [N4,N11,Nr,Ns,R]∧m=ms_∧(RSl R 1 ac m cc (u8s p'))∧(Blk N11 b11 68 [.bool true,.slice none 0 0,.slice ai ni ci])∧(Row Nr 68 3 ai ni ci (cellsI xs))∧(xs.length=ni)∧(ItsN Ns done xs)∧(itF (decF k) p=exMap (done++ ·) (itF (decF k) p'))∧(ni+m≤p.length)) ?_ (.refl _) ⟨p,a1,p.length,c1,[],[],none,0,0,N11,nilH,nilH,rfl,rfl,rfl,h1,B11,Row.nil _ _ _,rfl,rfl,by cases itF (decF k) p<;>rfl,by omega⟩ ?_
 ·exact .cons (by first|exact aP rfl (by omega)|rfl) (.cons (by first|exact aP rfl (by omega)|rfl) (.cons (by first|exact aP rfl (by omega)|rfl) (.cons (by first|exact aP rfl (by omega)|rfl) (.cons (by first|exact aP rfl (by omega)|rfl) (.cons (by first|exact aP rfl (by omega)|rfl) .nil)))))
 rintro _ _ _ ⟨p',ac,m,cc,done,xs,ai,ni,ci,N11,Nr,Ns,rfl,rfl,rfl,sc,B11,rr,hni,hs,H,hcnt⟩
 have hlp:=sc.len8
 have sr:=rr.rsl
 refine At.seq fun _ s_13=>At.seq fun _ s_14=>At.region (aC (aD rfl) rfl rfl (aU (aD rfl) se23 rfl rfl (op_gtr (aD rfl) rfl rfl rfl (aA (aB (s_14 (aK rfl (fun c42=>?_) (fun c42=>?_))))))))
 ·refine At.skip (aB (s_13 (At.block (At.seq fun _ s_15=>At.region (aC (aD rfl) rfl rfl (aC (aD rfl) rfl rfl (aV (aD rfl) rfl rfl (by omega) (by omega) rfl (aJ (bA rfl) (.cons rfl (.cons rfl .nil)) (ih R ac m cc p' (q+1) sc (by omega) (by omega) (by omega)) Tryz.func110 rfl rfl (by simp) rfl ?_))))))))
  rintro v47 L47 (⟨t,q',M47,x,aq,cq,he,rfl,rfl,hi,hqq⟩|⟨e,he,rfl,rfl,hne⟩)
  ·change At _ _ _ [M47,N4,N11,Nr,Ns,R] _
   refine aC (aD rfl) rfl rfl (aS (aD rfl) rfl rfl rfl (aS (aD rfl) rfl rfl rfl (aS (aD rfl) rfl rfl rfl (bO (bA rfl) ze68 rfl (fun N13 b13 B13=>?_)))))
   change Blk N13 b13 _ [.bool false,.slice none 0 0,.slice none 0 0]at B13
   refine aO (nxl rfl) sz68 rfl rfl rfl rfl rfl B13 (by simp) sel0 (fun N13 B13=>?_)
   simp only [setL,List.set]at B13
   refine aE (aD rfl) rfl rfl (aE (aD rfl) rfl rfl (aA (aB (s_15 (At.seq fun _ s_16=>At.seq fun _ s_17=>At.region (aC (aD rfl) rfl rfl (op_neq (aD rfl) rfl rfl rfl (aA (aB (s_17 (At.condF rfl (At.skip (aB (s_16 (At.seq fun _ s_18=>At.region (aF (aD rfl) fl68_2 rfl rfl (aI (aD rfl) sc66 rfl B11 (by first|rfl) bF rfl ?_)))))))))))))))))
   refine op_loadAggB (ds:= [_,_,_]) (aD rfl) ag68 rfl B13 rfl rfl aL rfl (op_lit (bA rfl) Tryz.underlying66 ze68 sz68 (.cons rfl .nil) rfl rfl (by simp [Value.cells]) rfl rfl rfl (fun N58 a58 r58=>?_))
   simp only [flatV,List.flatMap_cons,List.flatMap_nil,Value.cells,List.append_nil,List.cons_append,List.nil_append]at r58
   have s58:=r58.rsl
   refine bE (nxl rfl) Tryz.underlying66 Tryz.underlying66 te68 rfl rfl rr (by assumption) (by first|exact aL|exact aZ|exact bB|exact bF|exact bG|exact bH|exact bL|exact bK|exact bJ|exact bM) (by intro u hu;simp at hu;rcases hu with rfl|rfl|rfl<;>rfl) (by omega) (by omega) sel5 rfl (fun N59 a59 p59 r59=>?_)
   have s59:=r59.rsl
   refine aF (aD rfl) fl68_2 rfl rfl (aO (nxl rfl) sz66 rfl rfl rfl rfl rfl B11 (by simp) sel5 (fun N11 B11=>?_))
   simp only [setL,List.set]at B11
   refine aA (aB (s_18 (At.region (aC (aD rfl) rfl rfl (aE (aD rfl) rfl rfl (aA (aR (aB (At.perm sel7 (At.perm bV (At.perm sel5 (At.perm sel5 (At.perm sel5 (At.perm sel5 (At.perm bV (At.perm sel7 (At.merge (fun hap=>At.sub (L':= [(join2 Ns M47),N11,N59,N4,R]) (.cons_cons _ (.cons_cons _ (.cons_cons _ (.cons _ (.cons _ (.cons_cons _ (.cons_cons _ (.slnil)))))))) (At.perm sel4 (At.perm sel1 (At.perm sel3 ?_)))))))))))))))))))))
   refine At.perm sel3 (At.perm sel4 ?_)
   refine bD ?_ (.refl _) ⟨q',aq,q'.length,cq,done++ [t],xs++ [x],a59,ni+1,p59,N11,N59,join2 Ns M47,rfl,rfl,rfl,hqq R sc,B11,by rw [cellsI,List.flatMap_append];exact r59,by simp [hni],(hs.le join2_left).snoc (hi.le (join2_right hap)),by rw [H,itF_ok (fun b t q h=>decF_lt h) (by omega) he,exMap_map];congr 1;funext l;simp,by have:=decF_lt he;omega⟩ ?_
   ·exact .cons (by first|exact aP rfl (by omega)|rfl) (.cons (by first|exact aP rfl (by omega)|rfl) (.cons (by first|exact aP rfl (by omega)|rfl) (.cons (by first|exact aP rfl (by omega)|rfl) (.cons (by first|exact aP rfl (by omega)|rfl) (.cons (by first|exact aP rfl (by omega)|rfl) .nil)))))
   ·exact(by have:=decF_lt he;omega)
  change At _ _ _ [N4,N11,Nr,Ns,R] _
  refine aC (aD rfl) rfl rfl (aS (aD rfl) rfl rfl rfl (aS (aD rfl) rfl rfl rfl (aS (aD rfl) rfl rfl rfl (bO (bA rfl) ze68 rfl (fun N13 b13 B13=>?_)))))
  change Blk N13 b13 _ [.bool false,.slice none 0 0,.slice none 0 0]at B13
  refine aO (nxl rfl) sz68 rfl rfl rfl rfl rfl B13 (by simp) sel0 (fun N13 B13=>?_)
  simp only [setL,List.set]at B13
  refine aE (aD rfl) rfl rfl (aE (aD rfl) rfl rfl (aA (aB (s_15 (At.seq fun _ s_19=>At.seq fun _ s_20=>At.region (aC (aD rfl) rfl rfl (op_neq (aD rfl) rfl rfl rfl (aA (aB (s_20 (aK rfl (fun c52=>?_) (fun c52=>?_))))))))))))
  rotate_left
  ·exfalso;omega
  refine At.seq fun _ s_21=>At.region (op_build (out:= [.bool false,.slice none 0 0,.slice none 0 0]) (aD rfl) ze68 pl68 .nil rfl rfl (aC (aD rfl) rfl rfl (aO (nxl rfl) sz68 rfl rfl rfl rfl rfl B4 (by simp) sel1 (fun N4 B4=>?_))))
  simp only [setL,List.set]at B4
  refine aE (aD rfl) rfl rfl (aE (aD rfl) rfl rfl (aA (aB (s_21 (At.ret (aM (At.inRet (aM (At.inRet (aM ((At.sub (L':= [N4,R]) (.cons_cons _ (.cons _ (.cons _ (.cons _ (.cons _ (.cons_cons _ (.slnil))))))) (bP (L1:= []) rfl (.cell rfl (res_agg (ds:= [_,_,_]) ag68 B4 rfl rfl aL) (.tmp rfl (.tmp rfl .nil))) rfl (.cons _ (.refl _)) (.refl _) ?_)))))))))))))
  exact .inr ⟨e,by simp [decF,hc,H,itF_error (show 0<p'.length by omega) he,exMap],rfl,rfl,hne⟩
 refine At.exit (aG (aG (bC (aB (s_11 (At.seq fun _ s_22=>At.region (op_loadAggB (ds:= [_,_,_]) (aD rfl) ag68 rfl B11 rfl rfl aZ rfl (aC (aD rfl) rfl rfl (aO (nxl rfl) sz68 rfl rfl rfl rfl rfl B4 (by simp) sel0 (fun N4 B4=>?_))))))))))
 simp only [setL,List.set]at B4
 refine aE (aD rfl) rfl rfl (aE (aD rfl) rfl rfl (aA (aB (s_22 (At.ret ((At.perm sel4 (At.perm sel2 (At.perm sel2 (At.perm sel4 (At.perm sel4 (At.merge (fun hap=>At.sub (L':= [(join2 Nr Ns),N4,R]) (.cons_cons _ (.cons_cons _ (.cons _ (.cons_cons _ (.slnil))))) (At.perm sel2 (At.perm sel1 (At.perm sel2 (bP (L1:= [(join2 Nr Ns)]) rfl (.cell rfl (res_agg (ds:= [_,_,_]) ag68 B4 rfl rfl aL) (.tmp rfl (.tmp rfl .nil))) rfl (.cons _ (.refl _)) (.refl _) ?_)))))))))))))))))
 have hp0:p'= []:=List.eq_nil_of_length_eq_zero (by omega)
 subst hp0
 refine .inl ⟨.mk true [] done,r,join2 Nr Ns,⟨true,none,0,0,ai,ni,ci⟩,a2,c2,?_,rfl,rfl,ItN.mk (RSl.nil _ _) (sr.le join2_left) (hs.le (join2_right hap)),h2⟩
 simp [decF,hc,H,itF_nil,exMap]
theorem decode_f (k:Nat): ∀(N:Heaplet) (ao:Option Addr) (n cap:Nat) (b:List UInt8) (q:Int),RSl N 1 ao n cap (u8s b)→n≤1099511627776→q+k=1024→0≤q→Fn Tryz.prog 110 #[.slice ao n cap,.int .i64 q] [] [N] (DecP ao n cap b (decF k b)):=by
 induction k with
 |zero=>
  intro N ao n cap b q h hn hq h0
  obtain rfl:q=1024:=by omega
  match hc:cutF b with
  |none=>exact decode_none h hn hc 0 _
  |some (false,p,r)=>exact decode_text h hn hc 0 _
  |some (true,p,r)=>exact decode_deep h hn hc
 |succ k ih=>
  intro N ao n cap b q h hn hq h0
  match hc:cutF b with
  |none=>exact decode_none h hn hc _ _
  |some (false,p,r)=>exact decode_text h hn hc _ _
  |some (true,p,r)=>exact decode_its h hn hc k q (by omega) h0 ih
end Go.Proofs.YtdpjbefeabokgaaGreat
