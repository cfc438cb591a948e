/- Several texts in one: see the remarks ahead of each part. No condition but those told there. -/
import Derived.Test.YtdpjbefeabokgaaGreatU5
import Derived.Test.YtdpjbefeabokgaaGreatLen64
import Derived.Test.YtdpjbefeabokgaaGreatUA3
import Derived.Test.YtdpjbefeabokgaaGreatU2
import Derived.Test.YtdpjbefeabokgaaGreatU4
set_option linter.unusedSimpArgs false
set_option linter.unusedVariables false
/- limb.Bits, limb.Bytes: how many bits a number has, and its bytes; rlp.head: a payload's head. No condition. -/
namespace Go.Proofs.YtdpjbefeabokgaaGreat
open Go Go.RowKit
theorem Fn.of_same {P:Program} {f:FuncId} {args:Array Value} {v:Value} (h: ∀w,Calls P f args w fun e w'=>e=.returned v∧w'=w):Fn P f args [] [] (fun u L=>u=v∧L= []):=fun E w R hw _=>
 (h w).mono fun _ _ ⟨he,hw'⟩=>⟨v,[],he,⟨rfl,rfl⟩,by rw [hw'];exact hw⟩
theorem Len64_f (x:UInt64):Fn Tryz.prog 102 #[.int .u64 (x.toNat:Int)] [] [] (fun u L=>u=.int .i64 (bitLen x.toNat:Nat)∧L= []):=by
 have h:=x.toNat_lt
 have e:Lib.bitLen x.toNat=bitLen x.toNat:=libBitLen_eq (by omega)
 refine Fn.of_same fun w=>(Len64_i (x.toNat:Int) w (by omega) (by omega)).mono ?_
 rintro e1 w' ⟨rfl,rfl⟩
 rw [Int.toNat_natCast,e]
 exact⟨rfl,rfl⟩
theorem bitLen64 (x:UInt64):bitLen x.toNat≤64:=bitLen_le.2 x.toNat_lt
theorem Bits_f {N:Heaplet} {ao:Option Addr} {n cap:Nat} {l:List UInt64} (h:RSl N 1 ao n cap (u64s l)) (hn:n≤17592186044416):
 Fn Tryz.prog 117 #[.slice ao n cap] [] [N] (fun v L=>v=.int .i64 (bitLen (v64 l):Nat)∧L= []):=by
 have hlen:=h.len64
 have hcap:=h.cap63
 refine Fn.enter (vs:= [.slice ao n cap]) Tryz.func117 rfl rfl rfl ?_
 intro E R hR
 have h:=h.le (hR N (by simp))
 have e0:(limbsOf (v64 l)).length=(bitLen (v64 l)+63)/64:=length_limbsOf _
 change At _ _ E [R] _
 refine At.seq fun _ s_1=>At.region (aE (aD rfl) rfl rfl (aA (aB (s_1 (At.seq fun _ s_2=>At.region (aC (aD rfl) rfl rfl (aG (aS rfl) (.cons rfl .nil) (Trim_f h) Tryz.func133 rfl rfl (by simp) rfl ?_)))))))
 rintro v4 L4 ⟨rfl,rfl,e1,e2⟩
 change At _ _ _ [R] _
 have h2:=h.take (Nat.le_refl _) (Nat.le_trans e2 hcap.1) e2
 rw [Nat.mul_one,u64s_takeR,e1]at h2
 have hl2:=h2.len64
 refine aE (aD rfl) rfl rfl (aA (aB (s_2 (At.seq fun _ s_3=>At.seq fun _ s_4=>At.region (aC (aD rfl) rfl rfl (aQ (aD rfl) se154 rfl rfl (op_eql (aD rfl) rfl rfl rfl (aA (aB (s_4 (aI rfl (fun c7=>?_) (fun c7=>?_))))))))))))
 ·refine At.seq fun _ s_5=>At.region (aE (aD rfl) rfl rfl (aA (aB (s_5 (At.ret (aZ ((aO (L1:= []) rfl (.tmp rfl .nil) (.refl _) (.refl _) ?_))))))))
  exact⟨by rw [show bitLen (v64 l)=0 by omega];rfl,rfl⟩
 refine At.skip (aB (s_3 (At.seq fun _ s_6=>At.region (aC (aD rfl) rfl rfl (aQ (aD rfl) se154 rfl rfl (op_subI (aD rfl) rfl rfl (by omega) (by omega) rfl (op_mulI (aD rfl) rfl rfl (by omega) (by omega) rfl (aC (aD rfl) rfl rfl (aC (aD rfl) rfl rfl (aQ (aD rfl) se154 rfl rfl (op_subI (aD rfl) rfl rfl (by omega) (by omega) rfl (op_idx1 (aD rfl) se154 rfl rfl (by assumption) (show _=((((limbsOf (v64 l)).length- 1:Nat)):Int)from by omega) (by omega) rfl ?_))))))))))))
 refine aV (aD rfl) sc70 rfl (by assumption) (by first|exact get8 (by omega)|exact get64 (by omega)|exact get32 (by omega)) (by first|exact aP|exact aY|exact bA|exact mem3|exact mem4|exact mem5|exact mem6|exact mem7|exact mem8|exact mem9) rfl ?_
 refine aG (aS rfl) (.cons rfl .nil) (Len64_f _) Tryz.func102 rfl rfl (by simp) rfl ?_
 rintro v18 L18 ⟨rfl,rfl⟩
 change At _ _ _ [R] _
 have hb:=bitLen64 ((limbsOf (v64 l)).getD ((limbsOf (v64 l)).length- 1) 0)
 refine aM (aD rfl) rfl rfl (by omega) (by omega) rfl (aE (aD rfl) rfl rfl (aA (aB (s_6 (At.ret ((aO (L1:= []) rfl (.tmp rfl .nil) (.refl _) (.refl _) ?_)))))))
 have ht:=limbsOf_top' (getD_some (l:=limbsOf (v64 l)) (j:=(limbsOf (v64 l)).length- 1) (z:=0) (by omega))
 exact⟨congrArg (Value.int .i64) (by omega),rfl⟩
theorem byte_at {l:List UInt64} {i:Nat} (h:i/8<l.length):UInt8.ofNat (shr64 (l.getD (i/8) 0) (i % 8*8)).toNat=UInt8.ofNat (v64 l/256^i):=by
 rw [←byte_of_limb h,shr64,UInt64.toNat_ofNat',Nat.mod_eq_of_lt (Nat.lt_of_le_of_lt (Nat.div_le_self _ _) (UInt64.toNat_lt _)),List.getD_eq_getElem?_getD,List.getElem?_eq_getElem h]
 rfl
theorem Bytes_f {N:Heaplet} {ao:Option Addr} {n cap:Nat} {l:List UInt64} (h:RSl N 1 ao n cap (u64s l)) (hn:n≤17592186044416):
 Fn Tryz.prog 101 #[.slice ao n cap] [] [N] (fun v L=> ∃M a,v=.slice a (bytesOf (v64 l)).length (bytesOf (v64 l)).length∧L= [M]∧Row M 5 1 a (bytesOf (v64 l)).length (bytesOf (v64 l)).length (u8s (bytesOf (v64 l)))):=by
 have hlen:=h.len64
 have hcap:=h.cap63
 have hb:bitLen (v64 l)≤64*n:=bitLen_le.2 (by rw [←hlen];exact v64_lt l)
 have hm:(bytesOf (v64 l)).length=(bitLen (v64 l)+7)/8:=length_bytesOf _
 have hB:bytesOf (v64 l)=bytesN (bytesOf (v64 l)).length (v64 l):=by rw [hm];rfl
 generalize (bytesOf (v64 l)).length=m at hm hB⊢
 refine Fn.enter (vs:= [.slice ao n cap]) Tryz.func101 rfl rfl rfl ?_
 intro E R hR
 have h:=h.le (hR N (by simp))
 change At _ _ E [R] _
 refine At.seq fun _ s_1=>At.region (aE (aD rfl) rfl rfl (aA (aB (s_1 (At.seq fun _ s_2=>At.region (aC (aD rfl) rfl rfl (aG (aS rfl) (.cons rfl .nil) (Bits_f h hn) Tryz.func117 rfl rfl (by simp) rfl ?_)))))))
 rintro v8 L8 ⟨rfl,rfl⟩
 change At _ _ _ [R] _
 refine aM (aD rfl) rfl rfl (by omega) (by omega) rfl (op_quoI (aD rfl) rfl rfl (by omega) (by omega) (by omega) rfl (aE (aD rfl) rfl rfl (aA (aB (s_2 (At.seq fun _ s_3=>At.region (aC (aD rfl) rfl rfl ?_)))))))
 refine op_make (aS rfl) Tryz.underlying23 te5 rfl rfl (show _=(((m:Nat)):Int)from by omega) (show _=(((m:Nat)):Int)from by omega) (by omega) (by unfold maxLen;omega) rfl (fun N12 a12 r12=>?_)
 rw [made_one _ _ rfl,zero_u8s]at r12
 have s12:=r12.rsl
 refine aE (aD rfl) rfl rfl (aA (aB (s_3 (At.seq fun _ s_4=>At.seq fun _ s_5=>At.region (aC (aD rfl) rfl rfl (aQ (aD rfl) se23 rfl rfl (aC (aD rfl) rfl rfl (aA (aB (s_5 (At.block ?_)))))))))))
 refine At.loop (fun fr_ hp_ ms_=> ∃(k:Nat) (Nq:Heaplet),fr_= [(0,.slice ao n cap),(3,.int .i64 (m:Int)),(4,.slice a12 m m),(14,.int .i64 (m:Int)),(15,.int .i64 (k:Int))]∧hp_= [Nq,R]∧m- k=ms_∧(k≤m)∧(Row Nq 5 1 a12 m m (u8s (bytesSt m (v64 l) k)))) ?_ (.refl _) ⟨0,N12,rfl,rfl,rfl,by omega,by rw [bytesSt_zero];exact r12⟩ ?_
 ·exact .cons (by first|exact aK rfl (by omega)|rfl) (.cons (by first|exact aK rfl (by omega)|rfl) (.cons (by first|exact aK rfl (by omega)|rfl) (.cons (by first|exact aK rfl (by omega)|rfl) (.cons (by first|exact aK rfl (by omega)|rfl) .nil))))
 rintro _ _ _ ⟨k,Nq,rfl,rfl,rfl,hk,rq⟩
 have sq:=rq.rsl
 have hlq:=sq.len8
 refine At.seq fun _ s_6=>At.region (op_lss (aD rfl) rfl rfl rfl (aA (aB (s_6 (At.seq fun _ s_7=>aI rfl (fun c16=>?_) (fun c16=>?_))))))
 ·refine At.skip (aB (s_7 (At.seq fun _ s_8=>At.block (At.seq fun _ s_9=>At.region (aC (aD rfl) rfl rfl (aE (aD rfl) rfl rfl (aA (aB (s_9 (At.seq fun _ s_10=>At.region (aC (aD rfl) rfl rfl (op_subI (aD rfl) rfl rfl (by omega) (by omega) rfl (aC (aD rfl) rfl rfl (op_subI (aD rfl) rfl rfl (by omega) (by omega) rfl (aE (aD rfl) rfl rfl (aA (aB (s_10 (At.region (aC (aD rfl) rfl rfl ?_))))))))))))))))))))
  refine aC (aD rfl) rfl rfl (aC (aD rfl) rfl rfl (aC (aD rfl) rfl rfl (op_quoI (aD rfl) rfl rfl (by omega) (by omega) (by omega) rfl (op_idx1 (aD rfl) se154 rfl rfl (by assumption) (show _=((((m- 1- k)/8:Nat)):Int)from by omega) (by omega) rfl ?_))))
  refine aV (aD rfl) sc70 rfl (by assumption) (by first|exact get8 (by omega)|exact get64 (by omega)|exact get32 (by omega)) (by first|exact aP|exact aY|exact bA|exact mem3|exact mem4|exact mem5|exact mem6|exact mem7|exact mem8|exact mem9) rfl ?_
  refine aC (aD rfl) rfl rfl (op_rem (aD rfl) rfl rfl (by omega) (by omega) rfl (op_mulI (aD rfl) rfl rfl (by omega) (by omega) rfl (op_shrU (aD rfl) rfl rfl (show _=((((m- 1- k) % 8*8:Nat)):Int)from by omega) rfl ?_)))
  refine op_conv8 (aD rfl) (und_some Tryz.underlying70) Tryz.underlying5 rfl (by first|rfl|exact(Int.toNat_of_nonneg (by omega)).symm) rfl ?_
  refine op_idx1 (aD rfl) se23 rfl rfl (by assumption) (show _=(((k:Nat)):Int)from by omega) (by omega) rfl ?_
  refine op_storeE (nxl rfl) sz5 rfl rfl rfl rfl rfl rq (by simp<;>omega) (by simp) sel0 (fun Nq rq=>?_)
  simp only [setL]at rq
  have sq:=rq.rsl
  refine aA (aN (aB (s_8 (At.region (aM (aD rfl) rfl rfl (by omega) (by omega) rfl (aC (aD rfl) rfl rfl (aA (aB ?_))))))))
  refine aW ?_ (.refl _) ⟨k+1,Nq,rfl,rfl,rfl,by omega,by rw [bytesSt_succ (by omega), ←byte_at (by omega), ←set_u8s];exact rq⟩ ?_
  ·exact .cons (by first|exact aK rfl (by omega)|rfl) (.cons (by first|exact aK rfl (by omega)|rfl) (.cons (by first|exact aK rfl (by omega)|rfl) (.cons (by first|exact aK rfl (by omega)|rfl) (.cons (by first|exact aK rfl (by omega)|rfl) .nil))))
  ·omega
 refine At.exit (aF (aF (aU (aB (s_4 (At.seq fun _ s_11=>At.region (aC (aD rfl) rfl rfl (aE (aD rfl) rfl rfl (aA (aB (s_11 (At.ret ((aO (L1:= [Nq]) rfl (.tmp rfl .nil) (.refl _) (.refl _) ?_))))))))))))))
 obtain rfl:k=m:=by omega
 rw [bytesSt_all, ←hB]at rq
 exact⟨Nq,a12,rfl,rfl,rq⟩
theorem bytesOf_le {n k:Nat} (h:n<256^k):(bytesOf n).length≤k:=by rw [length_bytesOf];exact byteLen_le.2 h
theorem head_f (b n:Nat) (hb:b≤192) (hn:n≤1099511627776):
 Fn Tryz.prog 82 #[.int .i64 (b:Int),.int .i64 (n:Int)] [] [] (fun v L=> ∃M a cap,v=.slice a (rlpHead b n).length cap∧L= [M]∧Row M 5 1 a (rlpHead b n).length cap (u8s (rlpHead b n))):=by
 have h8:=bytesOf_le (n:=n) (k:=8) (by omega)
 refine Fn.enter (vs:= [.int .i64 (b:Int),.int .i64 (n:Int)]) Tryz.func82 rfl rfl rfl ?_
 intro E R hR
 change At _ _ E [R] _
 refine At.seq fun _ s_1=>At.region (aE (aD rfl) rfl rfl (aA (aB (s_1 (At.seq fun _ s_2=>At.seq fun _ s_3=>At.region (aC (aD rfl) rfl rfl (op_leq (aD rfl) rfl rfl rfl (aA (aB (s_3 (aI rfl (fun c7=>?_) (fun c7=>?_))))))))))))
 ·refine At.seq fun _ s_4=>At.region (aC (aD rfl) rfl rfl (aC (aD rfl) rfl rfl (aM (aD rfl) rfl rfl (by omega) (by omega) rfl (op_conv8 (aD rfl) (und_some Tryz.underlying3) Tryz.underlying5 rfl (show _=(((b+n:Nat)):Int)from by omega) rfl ?_))))
  refine op_lit (aS rfl) Tryz.underlying23 ze5 sz5 (.cons rfl .nil) rfl rfl (by simp [Value.cells]) rfl rfl rfl (fun N12 a12 r12=>?_)
  simp only [flatV,List.flatMap_cons,List.flatMap_nil,Value.cells,List.append_nil,List.cons_append,List.nil_append]at r12
  have s12:=r12.rsl
  refine aE (aD rfl) rfl rfl (aA (aB (s_4 (At.ret (aZ ((aO (L1:= [N12]) rfl (.tmp rfl .nil) (.refl _) (.refl _) ?_)))))))
  have e:rlpHead b n= [UInt8.ofNat (b+n)]:=by rw [rlpHead,if_pos (by omega)]
  rw [e]
  exact⟨N12,a12,1,rfl,rfl,r12⟩
 refine At.skip (aB (s_2 (At.seq fun _ s_5=>At.region (aC (aD rfl) rfl rfl (op_conv64 (aD rfl) (und_some Tryz.underlying3) Tryz.underlying70 rfl (show _=(((n:Nat)):Int)from by omega) rfl ?_)))))
 refine op_lit (aS rfl) Tryz.underlying154 ze70 sz70 (.cons rfl .nil) rfl rfl (by simp [Value.cells]) rfl rfl rfl (fun N15 a15 r15=>?_)
 simp only [flatV,List.flatMap_cons,List.flatMap_nil,Value.cells,List.append_nil,List.cons_append,List.nil_append]at r15
 have s15:=r15.rsl
 refine aG (aS rfl) (.cons rfl .nil) (Bytes_f (l:= [UInt64.ofNat n]) s15 (by decide)) Tryz.func101 rfl rfl (by simp) rfl ?_
 rintro v16 L16 ⟨M16,a16,rfl,rfl,r16⟩
 change At _ _ _ [M16,N15,R] _
 rw [v64_one n (by omega)]at r16⊢
 have s16:=r16.rsl
 refine aE (aD rfl) rfl rfl (aA (aB (s_5 (At.seq fun _ s_6=>At.region (aC (aD rfl) rfl rfl (aM (aD rfl) rfl rfl (by omega) (by omega) rfl (aC (aD rfl) rfl rfl (aQ (aD rfl) se23 rfl rfl (aM (aD rfl) rfl rfl (by omega) (by omega) rfl (op_conv8 (aD rfl) (und_some Tryz.underlying3) Tryz.underlying5 rfl (show _=(((b+55+(bytesOf n).length:Nat)):Int)from by omega) rfl ?_))))))))))
 refine op_lit (aS rfl) Tryz.underlying23 ze5 sz5 (.cons rfl .nil) rfl rfl (by simp [Value.cells]) rfl rfl rfl (fun N23 a23 r23=>?_)
 simp only [flatV,List.flatMap_cons,List.flatMap_nil,Value.cells,List.append_nil,List.cons_append,List.nil_append]at r23
 have s23:=r23.rsl
 refine aC (aD rfl) rfl rfl ?_
 refine aX (nxl rfl) Tryz.underlying23 Tryz.underlying23 te5 rfl rfl r23 (by assumption) (by first|exact aP|exact aY|exact bA|exact mem3|exact mem4|exact mem5|exact mem6|exact mem7|exact mem8|exact mem9) (by first|exact one_u8s _|exact one_u64s _|exact one_u32s _|(intro u hu;simp at hu;subst hu;rfl)) (by omega) (by omega) sel0 rfl (fun N25 a25 p25 r25=>?_)
 have s25:=r25.rsl
 refine aE (aD rfl) rfl rfl (aA (aB (s_6 (At.ret ((At.sub (L':= [N25,R]) (.cons_cons _ (.cons _ (.cons _ (.cons_cons _ (.slnil))))) (aO (L1:= [N25]) rfl (.tmp rfl .nil) (.refl _) (.refl _) ?_)))))))
 have e:rlpHead b n=UInt8.ofNat (b+55+(bytesOf n).length)::bytesOf n:=by rw [rlpHead,if_neg (by omega)]
 rw [e,List.length_cons,Nat.add_comm (bytesOf n).length 1]
 exact⟨N25,a25,p25,rfl,rfl,r25⟩
end Go.Proofs.YtdpjbefeabokgaaGreat
/- package word's From, Bits, Bytes, Short; the reference's N, Short. No condition. -/
namespace Go.Proofs.YtdpjbefeabokgaaGreat
open Go Go.RowKit
theorem WBits_f (a b c d:UInt64):Fn Tryz.prog 84 #[.agg #[.int .u64 (a.toNat:Int),.int .u64 (b.toNat:Int),.int .u64 (c.toNat:Int),.int .u64 (d.toNat:Int)]] [] [] (fun v L=>v=.int .i64 (bitLen (v64 [a,b,c,d]):Nat)∧L= []):=by
 obtain⟨m,hm⟩: ∃m,m= [a,b,c,d]:=⟨_,rfl⟩
 have hm4:m.length=4:=by rw [hm];rfl
 refine Fn.enter (vs:= [.agg #[.int .u64 (a.toNat:Int),.int .u64 (b.toNat:Int),.int .u64 (c.toNat:Int),.int .u64 (d.toNat:Int)]]) Tryz.func84 rfl rfl rfl ?_
 intro E R hR
 change At _ _ E [R] _
 refine At.seq fun _ s_1=>At.region (op_box (aS rfl) rfl rfl rfl (fun N1 b1 B1=>?_))
 change Blk N1 b1 _ (u64s [a,b,c,d])at B1
 rw [←hm]at B1⊢
 refine aE (aD rfl) rfl rfl (aA (aB (s_1 (At.seq fun _ s_2=>At.seq fun _ s_3=>At.region (aE (aD rfl) rfl rfl (aA (aB (s_3 (At.block (At.loop (fun fr_ hp_ ms_=> ∃(j:Nat),fr_= [(1,.pointer (some ⟨b1,0,none⟩)),(3,.int .i64 ((j:Int)- 1))]∧hp_= [N1,R]∧j=ms_∧(j≤4)∧(v64 m=v64 (m.take j))) ?_ (.refl _) ⟨4,rfl,rfl,rfl,by omega,by rw [List.take_of_length_le (by omega)]⟩ ?_))))))))))
 ·exact .cons (by first|exact aK rfl (by omega)|rfl) (.cons (by first|exact aK rfl (by omega)|rfl) .nil)
 rintro _ _ _ ⟨j,rfl,rfl,rfl,hj,hv⟩
 refine At.seq fun _ s_4=>At.seq fun _ s_5=>At.region (aC (aD rfl) rfl rfl (op_geq (aD rfl) rfl rfl rfl (aA (aB (s_5 (aI rfl (fun c5=>?_) (fun c5=>?_)))))))
 ·refine At.skip (aB (s_4 (At.seq fun _ s_6=>At.block (At.seq fun _ s_7=>At.region (aC (aD rfl) rfl rfl (op_idxA (aD rfl) ae72 rfl rfl (show _=(((j- 1:Nat)):Int)from by omega) (by omega) rfl ?_))))))
  refine aL (aD rfl) sc70 rfl B1 (by first|exact get64A (by omega)|rfl) aP rfl ?_
  refine op_neq (aD rfl) rfl rfl rfl (aA (aB (s_7 (aI rfl (fun c11=>?_) (fun c11=>?_)))))
  ·refine At.seq fun _ s_8=>At.region (aC (aD rfl) rfl rfl (op_mulI (aD rfl) rfl rfl (by omega) (by omega) rfl (aC (aD rfl) rfl rfl (op_idxA (aD rfl) ae72 rfl rfl (show _=(((j- 1:Nat)):Int)from by omega) (by omega) rfl ?_))))
   refine aL (aD rfl) sc70 rfl B1 (by first|exact get64A (by omega)|rfl) aP rfl ?_
   refine aG (aS rfl) (.cons rfl .nil) (Len64_f (m.getD (j- 1) 0)) Tryz.func102 rfl rfl (by simp) rfl ?_
   rintro v17 L17 ⟨rfl,rfl⟩
   change At _ _ _ [N1,R] _
   have h64:=bitLen_le.2 (m.getD (j- 1) 0).toNat_lt
   refine aM (aD rfl) rfl rfl (by omega) (by omega) rfl (aE (aD rfl) rfl rfl (aA (aB (s_8 (At.ret (At.inRet (aZ (aZ (At.inRet (aZ ((At.sub (L':= [R]) (.cons _ (.cons_cons _ (.slnil))) (aO (L1:= []) rfl (.tmp rfl .nil) (.refl _) (.refl _) ?_)))))))))))))
   exact⟨by rw [←hm,bits_at (k:=j- 1) (by omega) (by omega) (by rw [show j- 1+1=j by omega];exact hv)];congr 1;omega,rfl⟩
  refine At.skip (aN (aB (s_6 (At.region (aC (aD rfl) rfl rfl (op_subI (aD rfl) rfl rfl (by omega) (by omega) rfl (aE (aD rfl) rfl rfl (aA (aB ?_)))))))))
  refine aW ?_ (.refl _) ⟨j- 1,rfl,rfl,rfl,by omega,v64_take_zero (by omega) (by omega) (by rw [show j- 1+1=j by omega];exact hv)⟩ ?_
  ·exact .cons (by first|exact aK rfl (by omega)|rfl) (.cons (by first|exact aK rfl (by omega)|rfl) .nil)
  ·omega
 refine At.exit (aF (aF (aU (aB (s_2 (At.seq fun _ s_9=>At.region (aE (aD rfl) rfl rfl (aA (aB (s_9 (At.ret ((At.sub (L':= [R]) (.cons _ (.cons_cons _ (.slnil))) (aO (L1:= []) rfl (.tmp rfl .nil) (.refl _) (.refl _) ?_))))))))))))))
 exact⟨by rw [←hm,hv,show j=0 by omega];rfl,rfl⟩
end Go.Proofs.YtdpjbefeabokgaaGreat
/- package word's Bytes, Short; the reference's N, Short. No condition. -/
namespace Go.Proofs.YtdpjbefeabokgaaGreat
open Go Go.RowKit
theorem nbyte {m:List UInt64} {I K:Nat} (hm:m.length=4) (h1:1≤I) (h2:I≤4) (h3:1≤K) (h4:K≤8):UInt8.ofNat (shr64 (m.getD (I- 1) 0) (8*(K- 1))).toNat=UInt8.ofNat (v64 m/256^(31- (8*(4- I)+(8- K)))):=by
 have hq:(8*(I- 1)+(K- 1))/8<m.length:=by omega
 have e:=byte_of_limb (l:=m) (at_:=8*(I- 1)+(K- 1)) hq
 have e1:(8*(I- 1)+(K- 1))/8=I- 1:=by omega
 have e2:(8*(I- 1)+(K- 1)) % 8*8=8*(K- 1):=by omega
 simp only [e1,e2]at e
 rw [shr64,UInt64.toNat_ofNat',Nat.mod_eq_of_lt (Nat.lt_of_le_of_lt (Nat.div_le_self _ _) (UInt64.toNat_lt _)),List.getD_eq_getElem?_getD,List.getElem?_eq_getElem (by omega),Option.getD_some,e]
 congr 3
 omega
theorem rN_f (a b c d:UInt64):Fn Tryz.prog 87 #[.agg #[.int .u64 (a.toNat:Int),.int .u64 (b.toNat:Int),.int .u64 (c.toNat:Int),.int .u64 (d.toNat:Int)]] [] [] (fun v L=> ∃M p k,v=.slice p (digsOf (v64 [a,b,c,d])).length k∧L= [M]∧RSl M 1 p (digsOf (v64 [a,b,c,d])).length k (u32s (digsOf (v64 [a,b,c,d])))):=by
 obtain⟨m,hm⟩: ∃m,m= [a,b,c,d]:=⟨_,rfl⟩
 have hm4:m.length=4:=by rw [hm];rfl
 have hlt:v64 m<2^256:=by rw [hm];exact v64_four_lt a b c d
 refine Fn.enter (vs:= [.agg #[.int .u64 (a.toNat:Int),.int .u64 (b.toNat:Int),.int .u64 (c.toNat:Int),.int .u64 (d.toNat:Int)]]) Tryz.func87 rfl rfl rfl ?_
 intro E R hR
 change At _ _ E [R] _
 refine At.seq fun _ s_1=>At.region (op_box (aS rfl) rfl rfl rfl (fun N1 b1 B1=>?_))
 change Blk N1 b1 _ (u64s [a,b,c,d])at B1
 rw [←hm]at B1⊢
 refine aE (aD rfl) rfl rfl (aA (aB (s_1 (At.seq fun _ s_2=>At.region (aE (aD rfl) rfl rfl (aA (aB (s_2 (At.seq fun _ s_3=>At.seq fun _ s_4=>At.region (aE (aD rfl) rfl rfl (aA (aB (s_4 (At.block (At.empty (At.perm sel2 (At.perm sel1 (At.perm sel2 (At.loop (fun fr_ hp_ ms_=> ∃(I:Nat) (ap:Option Addr) (np cp:Nat) (Np:Heaplet),fr_= [(1,.pointer (some ⟨b1,0,none⟩)),(3,.slice ap np cp),(4,.int .i64 ((I:Int)- 1))]∧hp_= [N1,Np,R]∧I=ms_∧(I≤4)∧(np=8*(4- I))∧(Row Np 5 1 ap np cp (u8s ((bytesN 32 (v64 m)).take (8*(4- I)))))) ?_ (.refl _) ⟨4,none,0,0,nilH,rfl,rfl,rfl,by omega,by omega,Row.nil _ _ _⟩ ?_)))))))))))))))))))
 ·exact .cons (by first|exact aK rfl (by omega)|rfl) (.cons (by first|exact aK rfl (by omega)|rfl) (.cons (by first|exact aK rfl (by omega)|rfl) .nil))
 rintro _ _ _ ⟨I,ap,np,cp,Np,rfl,rfl,rfl,hI,hnp,rp⟩
 refine At.seq fun _ s_5=>At.seq fun _ s_6=>At.region (aC (aD rfl) rfl rfl (op_geq (aD rfl) rfl rfl rfl (aA (aB (s_6 (aI rfl (fun c7=>?_) (fun c7=>?_)))))))
 ·refine At.skip (aB (s_5 (At.seq fun _ s_7=>At.block (At.seq fun _ s_8=>At.region (aE (aD rfl) rfl rfl (aA (aB (s_8 (At.block ?_)))))))))
  refine At.loop (fun fr_ hp_ ms_=> ∃(K:Nat) (aq:Option Addr) (nq cq:Nat) (Nq:Heaplet),fr_= [(1,.pointer (some ⟨b1,0,none⟩)),(3,.slice aq nq cq),(4,.int .i64 ((I:Int)- 1)),(5,.int .i64 ((K:Int)- 1))]∧hp_= [N1,Nq,R]∧K=ms_∧(K≤8)∧(nq=8*(4- I)+(8- K))∧(Row Nq 5 1 aq nq cq (u8s ((bytesN 32 (v64 m)).take (8*(4- I)+(8- K)))))) ?_ (.refl _) ⟨8,ap,np,cp,Np,rfl,rfl,rfl,by omega,by omega,by rw [Nat.sub_self,Nat.add_zero];exact rp⟩ ?_
  ·exact .cons (by first|exact aK rfl (by omega)|rfl) (.cons (by first|exact aK rfl (by omega)|rfl) (.cons (by first|exact aK rfl (by omega)|rfl) (.cons (by first|exact aK rfl (by omega)|rfl) .nil)))
  rintro _ _ _ ⟨K,aq,nq,cq,Nq,rfl,rfl,rfl,hK,hnq,rq⟩
  refine At.seq fun _ s_9=>At.seq fun _ s_10=>At.region (aC (aD rfl) rfl rfl (op_geq (aD rfl) rfl rfl rfl (aA (aB (s_10 (aI rfl (fun c11=>?_) (fun c11=>?_)))))))
  ·refine At.skip (aB (s_9 (At.seq fun _ s_11=>At.block (At.region (aC (aD rfl) rfl rfl (aC (aD rfl) rfl rfl (op_idxA (aD rfl) ae72 rfl rfl (show _=(((I- 1:Nat)):Int)from by omega) (by omega) rfl ?_)))))))
   refine aL (aD rfl) sc70 rfl B1 (by first|exact get64A (by omega)|rfl) aP rfl ?_
   refine aC (aD rfl) rfl rfl (op_mulI (aD rfl) rfl rfl (by omega) (by omega) rfl (op_shrU (aD rfl) rfl rfl (show _=(((8*(K- 1):Nat)):Int)from by omega) rfl ?_))
   refine op_conv8 (aD rfl) (und_some Tryz.underlying70) Tryz.underlying5 rfl (by first|rfl|exact(Int.toNat_of_nonneg (by omega)).symm) rfl ?_
   refine op_lit (aS rfl) Tryz.underlying23 ze5 sz5 (.cons rfl .nil) rfl rfl (by simp [Value.cells]) rfl rfl rfl (fun N22 a22 r22=>?_)
   simp only [flatV,List.flatMap_cons,List.flatMap_nil,Value.cells,List.append_nil,List.cons_append,List.nil_append]at r22
   have s22:=r22.rsl
   refine aX (nxl rfl) Tryz.underlying23 Tryz.underlying23 te5 rfl rfl rq (by assumption) (by first|exact aP|exact aY|exact bA|exact mem3|exact mem4|exact mem5|exact mem6|exact mem7|exact mem8|exact mem9) (by first|exact one_u8s _|exact one_u64s _|exact one_u32s _|(intro u hu;simp at hu;subst hu;rfl)) (by omega) (by omega) sel2 rfl (fun N23 a23 p23 r23=>?_)
   have s23:=r23.rsl
   refine aE (aD rfl) rfl rfl (aA (aN (aB (s_11 (At.region (aC (aD rfl) rfl rfl (op_subI (aD rfl) rfl rfl (by omega) (by omega) rfl (aE (aD rfl) rfl rfl (aA (aB (At.sub (L':= [N23,N1,R]) (.cons_cons _ (.cons _ (.cons_cons _ (.cons_cons _ (.slnil))))) (At.perm sel2 (At.perm sel1 (At.perm sel2 ?_))))))))))))))
   refine aW ?_ (.refl _) ⟨K- 1,a23,nq+1,p23,N23,rfl,rfl,rfl,by omega,by omega,by rw [show 8*(4- I)+(8- (K- 1))=(8*(4- I)+(8- K))+1 by omega,bytesN_take_succ (by omega),u8s,List.map_append, ←nbyte hm4 (by omega) (by omega) (by omega) (by omega)];exact r23⟩ ?_
   ·exact .cons (by first|exact aK rfl (by omega)|rfl) (.cons (by first|exact aK rfl (by omega)|rfl) (.cons (by first|exact aK rfl (by omega)|rfl) (.cons (by first|exact aK rfl (by omega)|rfl) .nil)))
   ·omega
  refine At.exit (aF (aF (aU (aN (aB (s_7 (At.region (aC (aD rfl) rfl rfl (op_subI (aD rfl) rfl rfl (by omega) (by omega) rfl (aE (aD rfl) rfl rfl (aA (aB ?_))))))))))))
  refine aW ?_ (.refl _) ⟨I- 1,aq,nq,cq,Nq,rfl,rfl,rfl,by omega,by omega,by rw [show 8*(4- (I- 1))=8*(4- I)+(8- K) by omega];exact rq⟩ ?_
  ·exact .cons (by first|exact aK rfl (by omega)|rfl) (.cons (by first|exact aK rfl (by omega)|rfl) (.cons (by first|exact aK rfl (by omega)|rfl) .nil))
  ·omega
 refine At.exit (aF (aF (aU (aB (s_3 (At.seq fun _ s_12=>At.region (aC (aD rfl) rfl rfl ?_)))))))
 have sp:RSl Np 1 ap np cp (u8s (bytesN 32 (v64 m))):=by
  have e:=rp.rsl
  rwa [show I=0 by omega,List.take_of_length_le (by simp)]at e
 refine aG (aS rfl) (.cons rfl .nil) (rFrom_f sp (by omega)) Tryz.func104 rfl rfl (by simp) rfl ?_
 rintro v25 L25 ⟨M25,a25,c25,rfl,rfl,s25⟩
 change At _ _ _ [M25,N1,Np,R] _
 refine aE (aD rfl) rfl rfl (aA (aB (s_12 (At.ret ((At.sub (L':= [M25,R]) (.cons_cons _ (.cons _ (.cons _ (.cons_cons _ (.slnil))))) (aO (L1:= [M25]) rfl (.tmp rfl .nil) (.refl _) (.refl _) ?_)))))))
 rw [be_bytes32 hlt]at s25⊢
 rw [←hm]
 exact⟨M25,a25,c25,rfl,rfl,s25⟩
theorem rShort_f (a b c d:UInt64):Fn Tryz.prog 61 #[.agg #[.int .u64 (a.toNat:Int),.int .u64 (b.toNat:Int),.int .u64 (c.toNat:Int),.int .u64 (d.toNat:Int)]] [] [] (fun v L=> ∃M p k,v=.slice p (bytesOf (v64 [a,b,c,d])).length k∧L= [M]∧Row M 5 1 p (bytesOf (v64 [a,b,c,d])).length k (u8s (bytesOf (v64 [a,b,c,d])))):=by
 have hdl:(digsOf (v64 [a,b,c,d])).length≤8:=by
  rw [length_digsOf]
  exact digLen_le.2 (v64_four_lt a b c d)
 refine Fn.enter (vs:= [.agg #[.int .u64 (a.toNat:Int),.int .u64 (b.toNat:Int),.int .u64 (c.toNat:Int),.int .u64 (d.toNat:Int)]]) Tryz.func61 rfl rfl rfl ?_
 intro E R hR
 change At _ _ E [R] _
 refine At.seq fun _ s_1=>At.region (op_box (aS rfl) rfl rfl rfl (fun N1 b1 B1=>aE (aD rfl) rfl rfl (aA (aB (s_1 (At.seq fun _ s_2=>At.region (op_loadAggB (ds:= [_,_,_,_]) (aD rfl) ag72 rfl B1 rfl rfl aP rfl (aG (aS rfl) (.cons rfl .nil) (rN_f a b c d) Tryz.func87 rfl rfl (by simp) rfl ?_))))))))
 rintro v4 L4 ⟨M4,a4,c4,rfl,rfl,s4⟩
 change At _ _ _ [M4,N1,R] _
 refine aG (aS rfl) (.cons rfl .nil) (Bytes32_f s4 (by omega)) Tryz.func86 rfl rfl (by simp) rfl ?_
 rintro v5 L5 ⟨M5,a5,c5,rfl,rfl,r5⟩
 change At _ _ _ [M5,M4,N1,R] _
 refine aE (aD rfl) rfl rfl (aA (aB (s_2 (At.ret ((At.sub (L':= [M5,R]) (.cons_cons _ (.cons _ (.cons _ (.cons_cons _ (.slnil))))) (aO (L1:= [M5]) rfl (.tmp rfl .nil) (.refl _) (.refl _) ?_)))))))
 rw [v32_digsOf]at r5⊢
 exact⟨M5,a5,c5,rfl,rfl,r5⟩
end Go.Proofs.YtdpjbefeabokgaaGreat
/- package word's Bytes, Short. No condition. -/
namespace Go.Proofs.YtdpjbefeabokgaaGreat
open Go Go.RowKit
theorem setL_at (vs:List Value): ∀(p cs:List Value),cs.length=vs.length→setL (p++cs) p.length vs=p++vs:=by
 induction vs with
 |nil=>intro p cs h;rw [List.eq_nil_of_length_eq_zero h];rfl
 |cons v t ih=>
  intro p cs h
  match cs,h with
  |c::cs,h=>
   rw [setL]
   have e:(p++c::cs).set p.length v=(p++ [v])++cs:=by simp
   rw [e]
   have:=ih (p++ [v]) cs (by simpa using h)
   rw [List.length_append]at this
   simpa using this
theorem setL_whole {cs vs:List Value} (h:cs.length=vs.length):setL cs 0 vs=vs:=by simpa using setL_at vs [] cs h
theorem wbyte {m:List UInt64} {k:Nat} (hm:m.length=4) (h:k<32):UInt8.ofNat (shr64 (m.getD ((31- k)/8) 0) ((31- k) % 8*8)).toNat=UInt8.ofNat (v64 m/256^(31- k)):=by
 have hq:(31- k)/8<m.length:=by omega
 rw [shr64,UInt64.toNat_ofNat',Nat.mod_eq_of_lt (Nat.lt_of_le_of_lt (Nat.div_le_self _ _) (UInt64.toNat_lt _)),List.getD_eq_getElem?_getD,List.getElem?_eq_getElem hq,Option.getD_some,byte_of_limb hq]
theorem RSl.arr8 {N:Heaplet} {b lo:Nat} {e:TypeId} {L:List UInt8} (h:Blk N b e (u8s L)) (hl:L.length=32) (hlo:lo≤32):RSl N 1 (some (if 32=lo then ⟨b,0,none⟩else ⟨b,0+lo*1,none⟩)) (32- lo) (32- lo) (u8s (L.drop lo)):=by
 refine⟨by simp [u8s];omega,Nat.le_refl _,Nat.le_trans (by omega:32- lo≤32) (by decide),fun h0=>⟨b,lo,by rw [if_neg (by omega),Nat.zero_add,Nat.mul_one],?_⟩⟩
 have e:=h.rng.sub (o:=lo) (ds:=u8s (L.drop lo)) fun i hi=>by
  rw [List.getElem?_eq_getElem (by simp [u8s]at hi⊢;omega)]
  simp [u8s]
 rwa [Nat.zero_add]at e
set_option maxRecDepth 100000 in
theorem WBytes_f (a b c d:UInt64):Fn Tryz.prog 83 #[.agg #[.int .u64 (a.toNat:Int),.int .u64 (b.toNat:Int),.int .u64 (c.toNat:Int),.int .u64 (d.toNat:Int)]] [] [] (fun v L=>v=.agg (u8s (bytesN 32 (v64 [a,b,c,d]))).toArray∧L= []):=by
 obtain⟨m,hm⟩: ∃m,m= [a,b,c,d]:=⟨_,rfl⟩
 have hm4:m.length=4:=by rw [hm];rfl
 refine Fn.enter (vs:= [.agg #[.int .u64 (a.toNat:Int),.int .u64 (b.toNat:Int),.int .u64 (c.toNat:Int),.int .u64 (d.toNat:Int)]]) Tryz.func83 rfl rfl rfl ?_
 intro E R hR
 change At _ _ E [R] _
 refine At.seq fun _ s_1=>At.region (op_box (aS rfl) rfl rfl rfl (fun N1 b1 B1=>?_))
 change Blk N1 b1 _ (u64s [a,b,c,d])at B1
 rw [←hm]at B1⊢
 refine op_alloc (aS rfl) ze25 rfl (fun N2 b2 B2=>?_)
 change Blk N2 b2 _ [.int .u8 0,.int .u8 0,.int .u8 0,.int .u8 0,.int .u8 0,.int .u8 0,.int .u8 0,.int .u8 0,.int .u8 0,.int .u8 0,.int .u8 0,.int .u8 0,.int .u8 0,.int .u8 0,.int .u8 0,.int .u8 0,.int .u8 0,.int .u8 0,.int .u8 0,.int .u8 0,.int .u8 0,.int .u8 0,.int .u8 0,.int .u8 0,.int .u8 0,.int .u8 0,.int .u8 0,.int .u8 0,.int .u8 0,.int .u8 0,.int .u8 0,.int .u8 0]at B2
 refine aA (aB (s_1 (At.seq fun _ s_2=>At.region (op_alloc (aS rfl) ze25 rfl (fun N3 b3 B3=>?_)))))
 change Blk N3 b3 _ [.int .u8 0,.int .u8 0,.int .u8 0,.int .u8 0,.int .u8 0,.int .u8 0,.int .u8 0,.int .u8 0,.int .u8 0,.int .u8 0,.int .u8 0,.int .u8 0,.int .u8 0,.int .u8 0,.int .u8 0,.int .u8 0,.int .u8 0,.int .u8 0,.int .u8 0,.int .u8 0,.int .u8 0,.int .u8 0,.int .u8 0,.int .u8 0,.int .u8 0,.int .u8 0,.int .u8 0,.int .u8 0,.int .u8 0,.int .u8 0,.int .u8 0,.int .u8 0]at B3
 change Blk N3 b3 _ (u8s (List.replicate 32 0))at B3
 rw [←bytesSt_zero 32 (v64 m)]at B3
 refine aA (aB (s_2 (At.seq fun _ s_3=>At.seq fun _ s_4=>At.region (aC (aD rfl) rfl rfl (aA (aB (s_4 (At.block (At.perm sel3 (At.perm sel1 (At.perm sel2 (At.perm sel3 (At.loop (fun fr_ hp_ ms_=> ∃(k:Nat) (N3:Heaplet),fr_= [(1,.pointer (some ⟨b1,0,none⟩)),(2,.pointer (some ⟨b2,0,none⟩)),(3,.pointer (some ⟨b3,0,none⟩)),(6,.int .i64 (k:Int))]∧hp_= [N1,N2,N3,R]∧32- k=ms_∧(k≤32)∧(Blk N3 b3 25 (u8s (bytesSt 32 (v64 m) k)))) ?_ (.refl _) ⟨0,N3,rfl,rfl,rfl,by omega,B3⟩ ?_)))))))))))))
 ·exact .cons (by first|exact aK rfl (by omega)|rfl) (.cons (by first|exact aK rfl (by omega)|rfl) (.cons (by first|exact aK rfl (by omega)|rfl) (.cons (by first|exact aK rfl (by omega)|rfl) .nil)))
 rintro _ _ _ ⟨k,N3,rfl,rfl,rfl,hk,B3⟩
 have hbl:=length_bytesSt (m:=32) (N:=v64 m) hk
 refine At.seq fun _ s_5=>At.region (op_lss (aD rfl) rfl rfl rfl (aA (aB (s_5 (At.seq fun _ s_6=>aI rfl (fun c7=>?_) (fun c7=>?_))))))
 ·refine At.skip (aB (s_6 (At.seq fun _ s_7=>At.block (At.seq fun _ s_8=>At.region (aC (aD rfl) rfl rfl (aE (aD rfl) rfl rfl (aA (aB (s_8 (At.seq fun _ s_9=>At.region (aC (aD rfl) rfl rfl (op_subI (aD rfl) rfl rfl (by omega) (by omega) rfl (aE (aD rfl) rfl rfl (aA (aB (s_9 (At.region (aC (aD rfl) rfl rfl (aC (aD rfl) rfl rfl (op_quoI (aD rfl) rfl rfl (by omega) (by omega) (by omega) rfl ?_))))))))))))))))))))
  refine op_idxA (aD rfl) ae72 rfl rfl (show _=((((31- k)/8:Nat)):Int)from by omega) (by omega) rfl ?_
  refine aL (aD rfl) sc70 rfl B1 (by first|exact get64A (by omega)|rfl) aP rfl ?_
  refine aC (aD rfl) rfl rfl (op_rem (aD rfl) rfl rfl (by omega) (by omega) rfl (op_mulI (aD rfl) rfl rfl (by omega) (by omega) rfl (op_shrU (aD rfl) rfl rfl (show _=((((31- k) % 8*8:Nat)):Int)from by omega) rfl ?_)))
  refine op_conv8 (aD rfl) (und_some Tryz.underlying70) Tryz.underlying5 rfl (by first|rfl|exact(Int.toNat_of_nonneg (by omega)).symm) rfl ?_
  refine op_idxA (aD rfl) ae25 rfl rfl (show _=(((k:Nat)):Int)from by omega) (by omega) rfl ?_
  refine aR (nxl rfl) sz5 rfl rfl rfl rfl rfl B3 (by simp<;>omega) sel2 (fun N3 B3=>?_)
  rw [set8A]at B3
  refine aA (aN (aB (s_7 (At.region (aM (aD rfl) rfl rfl (by omega) (by omega) rfl (aC (aD rfl) rfl rfl (aA (aB (At.perm sel3 (At.perm sel1 (At.perm sel3 (At.perm sel3 ?_))))))))))))
  refine aW ?_ (.refl _) ⟨k+1,N3,rfl,rfl,rfl,by omega,by rw [bytesSt_succ (by omega),show 32- 1- k=31- k by omega, ←wbyte hm4 (by omega)];exact B3⟩ ?_
  ·exact .cons (by first|exact aK rfl (by omega)|rfl) (.cons (by first|exact aK rfl (by omega)|rfl) (.cons (by first|exact aK rfl (by omega)|rfl) (.cons (by first|exact aK rfl (by omega)|rfl) .nil)))
  ·omega
 refine At.exit (aF (aF (aU (aB (s_3 (At.seq fun _ s_10=>At.region ?_))))))
 have hk32:k=32:=by omega
 rw [hk32,bytesSt_all]at B3
 refine op_loadAggB (ds:=u8s (bytesN 32 (v64 m))) (aD rfl) ag25 rfl B3 (by first|(rw [List.drop_zero,List.take_of_length_le (by first|(simp;done)|(simp;omega))];done)|rfl) (by first|(simp;done)|(simp;omega)) bA rfl ?_
 refine aR (nxl rfl) sz25 rfl rfl rfl rfl rfl B2 (by simp) sel1 (fun N2 B2=>?_)
 rw [setL_whole (by simp)]at B2
 refine aA (aB (s_10 (At.ret ((At.sub (L':= [N2,R]) (.cons_cons _ (.cons _ (.cons _ (.cons_cons _ (.slnil))))) ?_)))))
 refine aO (L1:= []) rfl (.cell rfl (res_agg (ds:=u8s (bytesN 32 (v64 m))) ag25 B2 (by first|(rw [List.drop_zero,List.take_of_length_le (by first|(simp;done)|(simp;omega))];done)|rfl) (by first|(simp;done)|(simp;omega)) aP) .nil) (.cons _ (.refl _)) (.refl _) ?_
 exact⟨by rw [←hm],rfl⟩
set_option maxRecDepth 100000 in
theorem WShort_f (a b c d:UInt64):Fn Tryz.prog 59 #[.agg #[.int .u64 (a.toNat:Int),.int .u64 (b.toNat:Int),.int .u64 (c.toNat:Int),.int .u64 (d.toNat:Int)]] [] [] (fun v L=> ∃M p k,v=.slice p (bytesOf (v64 [a,b,c,d])).length k∧L= [M]∧Row M 5 1 p (bytesOf (v64 [a,b,c,d])).length k (u8s (bytesOf (v64 [a,b,c,d])))):=by
 have hlt:=v64_four_lt a b c d
 have hbl:=bitLen_le.2 hlt
 have hlen:=length_bytesOf (v64 [a,b,c,d])
 have hdr:=bytes_drop32 hlt
 refine Fn.enter (vs:= [.agg #[.int .u64 (a.toNat:Int),.int .u64 (b.toNat:Int),.int .u64 (c.toNat:Int),.int .u64 (d.toNat:Int)]]) Tryz.func59 rfl rfl rfl ?_
 intro E R hR
 change At _ _ E [R] _
 refine At.seq fun _ s_1=>At.region (op_box (aS rfl) rfl rfl rfl (fun N1 b1 B1=>aE (aD rfl) rfl rfl (aA (aB (s_1 (At.seq fun _ s_2=>At.region (op_loadAggB (ds:= [_,_,_,_]) (aD rfl) ag72 rfl B1 rfl rfl aP rfl (aG (aS rfl) (.cons rfl .nil) (WBytes_f a b c d) Tryz.func83 rfl rfl (by simp) rfl ?_))))))))
 rintro v6 L6 ⟨rfl,rfl⟩
 change At _ _ _ [N1,R] _
 refine op_alloc (aS rfl) ze25 rfl (fun N3 b3 B3=>?_)
 change Blk N3 b3 _ [.int .u8 0,.int .u8 0,.int .u8 0,.int .u8 0,.int .u8 0,.int .u8 0,.int .u8 0,.int .u8 0,.int .u8 0,.int .u8 0,.int .u8 0,.int .u8 0,.int .u8 0,.int .u8 0,.int .u8 0,.int .u8 0,.int .u8 0,.int .u8 0,.int .u8 0,.int .u8 0,.int .u8 0,.int .u8 0,.int .u8 0,.int .u8 0,.int .u8 0,.int .u8 0,.int .u8 0,.int .u8 0,.int .u8 0,.int .u8 0,.int .u8 0,.int .u8 0]at B3
 refine aR (nxl rfl) sz25 rfl rfl rfl rfl rfl B3 (by simp) sel0 (fun N3 B3=>?_)
 rw [setL_whole (by simp)]at B3
 refine aA (aB (s_2 (At.seq fun _ s_3=>At.region (op_loadAggB (ds:= [_,_,_,_]) (aD rfl) ag72 rfl B1 rfl rfl aY rfl (aG (aS rfl) (.cons rfl .nil) (WBits_f a b c d) Tryz.func84 rfl rfl (by simp) rfl ?_)))))
 rintro v8 L8 ⟨rfl,rfl⟩
 change At _ _ _ [N3,N1,R] _
 refine aM (aD rfl) rfl rfl (by omega) (by omega) rfl (op_quoI (aD rfl) rfl rfl (by omega) (by omega) (by omega) rfl (aE (aD rfl) rfl rfl (aA (aB (s_3 (At.seq fun _ s_4=>At.region (aC (aD rfl) rfl rfl (op_subI (aD rfl) rfl rfl (by omega) (by omega) rfl (op_sliceA (aD rfl) ae25 rfl (.some rfl (show _=(((32- (bitLen (v64 [a,b,c,d])+7)/8:Nat)):Int)from by omega)) .none .none (by omega) (by omega) (by omega) (by simp) rfl ?_)))))))))
 have s13:=RSl.arr8 B3 (by simp) (show 32- (bitLen (v64 [a,b,c,d])+7)/8≤32 by omega)
 rw [hdr]at s13
 refine op_append0 (aS rfl) Tryz.underlying23 Tryz.underlying23 te5 rfl rfl (by assumption) (by first|exact aP|exact aY|exact bA|exact mem3|exact mem4|exact mem5|exact mem6|exact mem7|exact mem8|exact mem9) (by first|exact one_u8s _|exact one_u64s _|exact one_u32s _|(intro u hu;simp at hu;subst hu;rfl)) (by omega) (by omega) rfl (fun N14 a14 p14 r14=>?_)
 have s14:=r14.rsl
 refine aE (aD rfl) rfl rfl (aA (aB (s_4 (At.ret ((At.sub (L':= [N14,R]) (.cons_cons _ (.cons _ (.cons _ (.cons_cons _ (.slnil))))) (aO (L1:= [N14]) rfl (.tmp rfl .nil) (.refl _) (.refl _) ?_)))))))
 rw [show 32- (32- (bitLen (v64 [a,b,c,d])+7)/8)=(bytesOf (v64 [a,b,c,d])).length by omega]at r14⊢
 exact⟨N14,a14,p14,rfl,rfl,r14⟩
end Go.Proofs.YtdpjbefeabokgaaGreat
/- Plain law: the first item of bytes. No condition. -/
namespace Go.Proofs.YtdpjbefeabokgaaGreat
/-- The payload of n bytes from place i on, and what is behind it. -/
def cutAt (b:List UInt8) (i n:Nat):Option (Bool×List UInt8×List UInt8):=
 if b.length- i<n then none
 else if 192≤(b.getD 0 0).toNat then some (true,(b.drop i).take n,b.drop (i+n))
 else if n=1∧(b.getD i 0).toNat<128 then none
 else some (false,(b.drop i).take n,b.drop (i+n))
/-- What the head's first byte says of the length. -/
def hdr (b:List UInt8):Nat:=((b.getD 0 0).toNat- 128) % 64
/-- The length that is written out. -/
def lng (b:List UInt8):Nat:=be ((b.drop 1).take (hdr b- 54- 1))
/-- The first item's kind and payload, and what is behind it. -/
def cutF (b:List UInt8):Option (Bool×List UInt8×List UInt8):=
 if b.length=0 then none
 else if (b.getD 0 0).toNat<128 then some (false,b.take 1,b.drop 1)
 else if hdr b≤55 then cutAt b 1 (hdr b)
 else if b.length<hdr b- 54∨(b.getD 1 0).toNat=0 then none
 else if lng b≤55∨b.length<lng b then none
 else cutAt b (hdr b- 54) (lng b)
end Go.Proofs.YtdpjbefeabokgaaGreat
/- rlp.cut takes the first item's payload apart from what is behind it. No condition. -/
namespace Go.Proofs.YtdpjbefeabokgaaGreat
open Go Go.RowKit
/-- What rlp.cut tells. -/
def CutV (N:Heaplet) (r:Option (Bool×List UInt8×List UInt8)) (v:Value):Prop:=match r with
 |none=>v=.tuple #[.nilIface,.slice none 0 0]
 |some (isL,p,q)=> ∃a1 c1 a2 c2,v=.tuple #[.iface (if isL then 186 else 184) (.slice a1 p.length c1),.slice a2 q.length c2]∧RSl N 1 a1 p.length c1 (u8s p)∧RSl N 1 a2 q.length c2 (u8s q)
end Go.Proofs.YtdpjbefeabokgaaGreat
/- Items: trees of byte strings, their forms, and how they lie in memory. No condition. -/
namespace Go.Proofs.YtdpjbefeabokgaaGreat
open Go Go.RowKit
/-- An item: whether it is a list, its bytes, its items. -/
inductive It where
 |mk (list:Bool) (bytes:List UInt8) (items:List It)
mutual
def It.form:It→List UInt8
 |.mk false bs _=>match bs with
  | [x]=>if x<128 then [x]else rlpHead 128 1++ [x]
  |bs=>rlpHead 128 bs.length++bs
 |.mk true _ its=>rlpHead 192 (It.forms its).length++It.forms its
def It.forms:List It→List UInt8
 | []=> []
 |t::ts=>It.form t++It.forms ts
end
mutual
def It.depth:It→Nat
 |.mk false _ _=>0
 |.mk true _ its=>It.depths its+1
def It.depths:List It→Nat
 | []=>0
 |t::ts=>max (It.depth t) (It.depths ts)
end
mutual
theorem It.ind_it {P:It→Prop} (h: ∀l bs its,(∀t∈its,P t)→P (.mk l bs its)): ∀t,P t
 |.mk l bs its=>h l bs its (It.ind_its h its)
theorem It.ind_its {P:It→Prop} (h: ∀l bs its,(∀t∈its,P t)→P (.mk l bs its)): ∀its:List It, ∀t∈its,P t
 | [],_,ht=>by cases ht
 |x::xs,t,ht=>by
  rcases List.mem_cons.1 ht with e|ht
  ·rw [e];exact It.ind_it h x
  ·exact It.ind_its h xs t ht
end
theorem forms_append (a b:List It):It.forms (a++b)=It.forms a++It.forms b:=by
 induction a with
 |nil=>rfl
 |cons t ts ih=>simp only [List.cons_append,It.forms,ih,List.append_assoc]
theorem forms_take_succ {its:List It} {k:Nat} {t:It} (h:its[k]? =some t):It.forms (its.take (k+1))=It.forms (its.take k)++t.form:=by
 obtain⟨hlt,rfl⟩:=List.getElem?_eq_some_iff.1 h
 rw [List.take_succ_eq_append_getElem hlt,forms_append]
 simp [It.forms]
theorem forms_take_le (its:List It) (k:Nat):(It.forms (its.take k)).length≤(It.forms its).length:=by
 conv=>rhs;rw [←List.take_append_drop k its]
 rw [forms_append,List.length_append]
 omega
theorem form_le {its:List It} {t:It} (h:t∈its):t.form.length≤(It.forms its).length:=by
 obtain⟨a,b,rfl⟩:=List.append_of_mem h
 rw [forms_append,It.forms]
 simp
 omega
theorem depths_le {its:List It} {d:Nat} :It.depths its≤d↔ ∀t∈its,t.depth≤d:=by
 induction its with
 |nil=>simp [It.depths]
 |cons t ts ih=>simp [It.depths,Nat.max_le,ih]
/-- One byte below 128. -/
def small:List UInt8→Bool
 | [x]=>decide (x<128)
 |_=>false
theorem form_false (bs:List UInt8) (its:List It):(It.mk false bs its).form=if small bs then bs else rlpHead 128 bs.length++bs:=by
 cases bs with
 |nil=>simp [It.form,small]
 |cons x xs=>
  cases xs with
  |nil=>simp [It.form,small]
  |cons y ys=>simp [It.form,small]
theorem form_true (bs:List UInt8) (its:List It):(It.mk true bs its).form=rlpHead 192 (It.forms its).length++It.forms its:=by simp [It.form]
theorem small_iffI {bs:List UInt8} :small bs=true↔bs.length=1∧(bs.getD 0 0).toNat<128:=by
 cases bs with
 |nil=>simp [small]
 |cons x xs=>
  cases xs with
  |nil=>simp [small,UInt8.lt_iff_toNat_lt]
  |cons y ys=>simp [small]
theorem one_eq {bs:List UInt8} (h:bs.length=1):bs= [bs.getD 0 0]:=by
 cases bs with
 |nil=>simp at h
 |cons x xs=>cases xs with
  |nil=>rfl
  |cons y ys=>simp at h
/-- An item's three values. -/
structure IV where
 l:Bool
 ab:Option Addr
 nb:Nat
 cb:Nat
 ai:Option Addr
 ni:Nat
 ci:Nat
def IV.cells (x:IV):List Value:= [.bool x.l,.slice x.ab x.nb x.cb,.slice x.ai x.ni x.ci]
def cellsI (xs:List IV):List Value:=xs.flatMap IV.cells
theorem length_cellsI (xs:List IV):(cellsI xs).length=xs.length*3:=by
 induction xs with
 |nil=>rfl
 |cons x t ih=>simp only [cellsI,List.flatMap_cons,List.length_append,List.length_cons]at ih⊢;rw [ih];simp [IV.cells];omega
theorem cells_at {xs:List IV} {k:Nat} {x:IV} (h:xs[k]? =some x):((cellsI xs).drop (k*3)).take 3= [.bool x.l,.slice x.ab x.nb x.cb,.slice x.ai x.ni x.ci]:=by
 induction xs generalizing k with
 |nil=>simp at h
 |cons y t ih=>
  cases k with
  |zero=>simp at h;subst h;simp [cellsI,IV.cells]
  |succ k=>
   have:=ih (k:=k) (by simpa using h)
   rw [←this]
   have e:cellsI (y::t)=y.cells++cellsI t:=by simp [cellsI]
   have hl:y.cells.length=3:=rfl
   rw [e,show(k+1)*3=y.cells.length+k*3 from by rw [hl];omega,List.drop_append,List.drop_eq_nil_of_le (by omega),List.nil_append,Nat.add_sub_cancel_left]
mutual
/-- The item's values read so in N. -/
def ItN (N:Heaplet):It→IV→Prop
 |.mk l bs its,x=>x.l=l∧RSl N 1 x.ab x.nb x.cb (u8s bs)∧ ∃xs,RSl N 3 x.ai x.ni x.ci (cellsI xs)∧ItsN N its xs
def ItsN (N:Heaplet):List It→List IV→Prop
 | [],xs=>xs= []
 |t::ts,xs=> ∃x r,xs=x::r∧ItN N t x∧ItsN N ts r
end
mutual
theorem ItN.le {N M:Heaplet} (hl:N.le M): ∀ {t:It} {x:IV},ItN N t x→ItN M t x
 |.mk l bs its,x,h=>by
  simp only [ItN]at h⊢
  obtain⟨h1,h2,xs,h3,h4⟩:=h
  exact⟨h1,h2.le hl,xs,h3.le hl,ItsN.le hl h4⟩
theorem ItsN.le {N M:Heaplet} (hl:N.le M): ∀ {ts:List It} {xs:List IV},ItsN N ts xs→ItsN M ts xs
 | [],xs,h=>h
 |t::ts,xs,h=>by
  simp only [ItsN]at h⊢
  obtain⟨x,r,e,h1,h2⟩:=h
  exact⟨x,r,e,ItN.le hl h1,ItsN.le hl h2⟩
end
theorem ItsN.length {N:Heaplet} : ∀ {ts:List It} {xs:List IV},ItsN N ts xs→xs.length=ts.length
 | [],xs,h=>by simp only [ItsN]at h;subst h;rfl
 |t::ts,xs,h=>by
  simp only [ItsN]at h
  obtain⟨x,r,rfl,_,h2⟩:=h
  simp [h2.length]
theorem ItsN.get {N:Heaplet} : ∀ {ts:List It} {xs:List IV} {k:Nat} {t:It},ItsN N ts xs→ts[k]? =some t→ ∃x,xs[k]? =some x∧ItN N t x
 | [],xs,k,t,_,h=>by simp at h
 |t'::ts,xs,0,t,h,hk=>by
  simp only [ItsN]at h
  obtain⟨x,r,rfl,h1,_⟩:=h
  simp at hk;subst hk
  exact⟨x,rfl,h1⟩
 |t'::ts,xs,k+1,t,h,hk=>by
  simp only [ItsN]at h
  obtain⟨x,r,rfl,_,h2⟩:=h
  obtain⟨y,hy,hi⟩:=h2.get (k:=k) (by simpa using hk)
  exact⟨y,by simpa using hy,hi⟩
theorem ItsN.snoc {N:Heaplet} : ∀ {ts:List It} {xs:List IV} {t:It} {x:IV},ItsN N ts xs→ItN N t x→ItsN N (ts++ [t]) (xs++ [x])
 | [],xs,t,x,h,hi=>by simp only [ItsN]at h;subst h;exact⟨x,[],rfl,hi,rfl⟩
 |t'::ts,xs,t,x,h,hi=>by
  simp only [ItsN]at h
  obtain⟨y,r,rfl,h1,h2⟩:=h
  exact⟨y,r++ [x],rfl,h1,h2.snoc hi⟩
theorem ItN.mk {N:Heaplet} {l:Bool} {bs:List UInt8} {its:List It} {ab ai:Option Addr} {nb cb ni ci:Nat} {xs:List IV} (h1:RSl N 1 ab nb cb (u8s bs)) (h2:RSl N 3 ai ni ci (cellsI xs)) (h3:ItsN N its xs):ItN N (.mk l bs its) ⟨l,ab,nb,cb,ai,ni,ci⟩:=⟨rfl,h1,xs,h2,h3⟩
end Go.Proofs.YtdpjbefeabokgaaGreat
/- Plain law: the item that bytes tell. No condition. -/
namespace Go.Proofs.YtdpjbefeabokgaaGreat
def exMap {α:Type} (f:List α→List α):Except Nat (List α)→Except Nat (List α)
 |.ok l=>.ok (f l)
 |.error e=>.error e
/-- Items one behind the other. -/
def itemsF (dec:List UInt8→Except Nat (It×List UInt8)):Nat→List UInt8→Except Nat (List It)
 |_,[]=>.ok []
 |0,_::_=>.error 2
 |f+1,c::b=>match dec (c::b)with
  |.error e=>.error e
  |.ok (t,q)=>exMap (t:: ·) (itemsF dec f q)
def itF (dec:List UInt8→Except Nat (It×List UInt8)) (b:List UInt8):Except Nat (List It):=itemsF dec b.length b
/-- The first item and what is behind it, or the error's number; k more lists may be nested. -/
def decF:Nat→List UInt8→Except Nat (It×List UInt8)
 |0,b=>match cutF b with
  |none=>.error 2
  |some (false,p,r)=>.ok (.mk false p [],r)
  |some (true,_,_)=>.error 7
 |k+1,b=>match cutF b with
  |none=>.error 2
  |some (false,p,r)=>.ok (.mk false p [],r)
  |some (true,p,r)=>match itF (decF k) p with
   |.error e=>.error e
   |.ok its=>.ok (.mk true [] its,r)
end Go.Proofs.YtdpjbefeabokgaaGreat
/- rlp.decode, rlp.Decode read the item that bytes tell. No condition but that they are not longer than a machine holds. -/
namespace Go.Proofs.YtdpjbefeabokgaaGreat
open Go Go.RowKit
set_option maxRecDepth 100000
/-- What decode tells. -/
def DecP (ao:Option Addr) (n cap:Nat) (b:List UInt8) (r:Except Nat (It×List UInt8)) (v:Value) (L:List Heaplet):Prop:=
 (∃t q M, ∃x:IV, ∃aq cq,r=.ok (t,q)∧v=.tuple #[.agg #[.bool x.l,.slice x.ab x.nb x.cb,.slice x.ai x.ni x.ci],.slice aq q.length cq,.int .i64 0]∧L= [M]∧ItN M t x∧ ∀N,RSl N 1 ao n cap (u8s b)→RSl N 1 aq q.length cq (u8s q))∨
 (∃e:Nat,r=.error e∧v=.tuple #[.agg #[.bool false,.slice none 0 0,.slice none 0 0],.slice none 0 0,.int .i64 (e:Int)]∧L= []∧e≠0)
end Go.Proofs.YtdpjbefeabokgaaGreat
