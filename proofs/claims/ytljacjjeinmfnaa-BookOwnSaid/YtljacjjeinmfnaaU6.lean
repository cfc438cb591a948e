/- Several texts in one: see the remarks ahead of each part. No condition but those told there. -/
import Derived.Test.YtljacjjeinmfnaaU4
import Derived.Test.YtljacjjeinmfnaaLen64
import Derived.Test.YtljacjjeinmfnaaU5
import Derived.Test.YtljacjjeinmfnaaU2
import Derived.Test.YtljacjjeinmfnaaU3
set_option linter.unusedSimpArgs false
set_option linter.unusedVariables false
/- limb.Bits, limb.Bytes: how many bits a number has, and its bytes; rlp.head: a payload's head. No condition. -/
namespace Go.Proofs.Ytljacjjeinmfnaa
open Go Go.RowKit
theorem Fn.of_same {P:Program} {f:FuncId} {args:Array Value} {v:Value} (h: ∀w,Calls P f args w fun e w'=>e=.returned v∧w'=w):Fn P f args [] [] (fun u L=>u=v∧L= []):=fun E w R hw _=>
 (h w).mono fun _ _ ⟨he,hw'⟩=>⟨v,[],he,⟨rfl,rfl⟩,by rw [hw'];exact hw⟩
theorem Len64_f (x:UInt64):Fn Try.prog 138 #[.int .u64 (x.toNat:Int)] [] [] (fun u L=>u=.int .i64 (bitLen x.toNat:Nat)∧L= []):=by
 have h:=x.toNat_lt
 have e:Lib.bitLen x.toNat=bitLen x.toNat:=libBitLen_eq (by omega)
 refine Fn.of_same fun w=>(Len64_i (x.toNat:Int) w (by omega) (by omega)).mono ?_
 rintro e1 w' ⟨rfl,rfl⟩
 rw [Int.toNat_natCast,e]
 exact⟨rfl,rfl⟩
theorem bitLen64 (x:UInt64):bitLen x.toNat≤64:=bitLen_le.2 x.toNat_lt
theorem Bits_f {N:Heaplet} {ao:Option Addr} {n cap:Nat} {l:List UInt64} (h:RSl N 1 ao n cap (u64s l)) (hn:n≤17592186044416):
 Fn Try.prog 148 #[.slice ao n cap] [] [N] (fun v L=>v=.int .i64 (bitLen (v64 l):Nat)∧L= []):=by
 have hlen:=h.len64
 have hcap:=h.cap63
 refine Fn.enter (vs:= [.slice ao n cap]) Try.func148 rfl rfl rfl ?_
 intro E R hR
 have h:=h.le (hR N (by simp))
 have e0:(limbsOf (v64 l)).length=(bitLen (v64 l)+63)/64:=length_limbsOf _
 change At _ _ E [R] _
 refine At.seq fun _ s_1=>At.region (aE (aC rfl) rfl rfl (aA (aB (s_1 (At.seq fun _ s_2=>At.region (aD (aC rfl) rfl rfl (aR (aV rfl) (.cons rfl .nil) (Trim_f h) Try.func147 rfl rfl (by simp) rfl ?_)))))))
 rintro v4 L4 ⟨rfl,rfl,e1,e2⟩
 change At _ _ _ [R] _
 have h2:=h.take (Nat.le_refl _) (Nat.le_trans e2 hcap.1) e2
 rw [Nat.mul_one,u64s_takeR,e1]at h2
 have hl2:=h2.len64
 refine aE (aC rfl) rfl rfl (aA (aB (s_2 (At.seq fun _ s_3=>At.seq fun _ s_4=>At.region (aD (aC rfl) rfl rfl (bP (aC rfl) se200 rfl rfl (op_eql (aC rfl) rfl rfl rfl (aA (aB (s_4 (aP rfl (fun c7=>?_) (fun c7=>?_))))))))))))
 ·refine At.seq fun _ s_5=>At.region (aE (aC rfl) rfl rfl (aA (aB (s_5 (At.ret (aT ((aZ (L1:= []) rfl (.tmp rfl .nil) (.refl _) (.refl _) ?_))))))))
  exact⟨by rw [show bitLen (v64 l)=0 by omega];rfl,rfl⟩
 refine At.skip (aB (s_3 (At.seq fun _ s_6=>At.region (aD (aC rfl) rfl rfl (bP (aC rfl) se200 rfl rfl (op_subI (aC rfl) rfl rfl (by omega) (by omega) rfl (op_mulI (aC rfl) rfl rfl (by omega) (by omega) rfl (aD (aC rfl) rfl rfl (aD (aC rfl) rfl rfl (bP (aC rfl) se200 rfl rfl (op_subI (aC rfl) rfl rfl (by omega) (by omega) rfl (op_idx1 (aC rfl) se200 rfl rfl (by assumption) (show _=((((limbsOf (v64 l)).length- 1:Nat)):Int)from by omega) (by omega) rfl ?_))))))))))))
 refine bS (aC rfl) sc24 rfl (by assumption) (by first|exact get8 (by omega)|exact get64 (by omega)|exact get32 (by omega)) (by first|exact aN|exact bC|exact bV|exact mem3|exact mem4|exact mem5|exact mem6|exact mem7|exact mem8|exact mem9) rfl ?_
 refine aR (aV rfl) (.cons rfl .nil) (Len64_f _) Try.func138 rfl rfl (by simp) rfl ?_
 rintro v18 L18 ⟨rfl,rfl⟩
 change At _ _ _ [R] _
 have hb:=bitLen64 ((limbsOf (v64 l)).getD ((limbsOf (v64 l)).length- 1) 0)
 refine bI (aC rfl) rfl rfl (by omega) (by omega) rfl (aE (aC rfl) rfl rfl (aA (aB (s_6 (At.ret ((aZ (L1:= []) rfl (.tmp rfl .nil) (.refl _) (.refl _) ?_)))))))
 have ht:=limbsOf_top' (getD_some (l:=limbsOf (v64 l)) (j:=(limbsOf (v64 l)).length- 1) (z:=0) (by omega))
 exact⟨congrArg (Value.int .i64) (by omega),rfl⟩
theorem byte_at {l:List UInt64} {i:Nat} (h:i/8<l.length):UInt8.ofNat (shr64 (l.getD (i/8) 0) (i % 8*8)).toNat=UInt8.ofNat (v64 l/256^i):=by
 rw [←byte_of_limb h,shr64,UInt64.toNat_ofNat',Nat.mod_eq_of_lt (Nat.lt_of_le_of_lt (Nat.div_le_self _ _) (UInt64.toNat_lt _)),List.getD_eq_getElem?_getD,List.getElem?_eq_getElem h]
 rfl
theorem Bytes_f {N:Heaplet} {ao:Option Addr} {n cap:Nat} {l:List UInt64} (h:RSl N 1 ao n cap (u64s l)) (hn:n≤17592186044416):
 Fn Try.prog 145 #[.slice ao n cap] [] [N] (fun v L=> ∃M a,v=.slice a (bytesOf (v64 l)).length (bytesOf (v64 l)).length∧L= [M]∧Row M 5 1 a (bytesOf (v64 l)).length (bytesOf (v64 l)).length (u8s (bytesOf (v64 l)))):=by
 have hlen:=h.len64
 have hcap:=h.cap63
 have hb:bitLen (v64 l)≤64*n:=bitLen_le.2 (by rw [←hlen];exact v64_lt l)
 have hm:(bytesOf (v64 l)).length=(bitLen (v64 l)+7)/8:=length_bytesOf _
 have hB:bytesOf (v64 l)=bytesN (bytesOf (v64 l)).length (v64 l):=by rw [hm];rfl
 generalize (bytesOf (v64 l)).length=m at hm hB⊢
 refine Fn.enter (vs:= [.slice ao n cap]) Try.func145 rfl rfl rfl ?_
 intro E R hR
 have h:=h.le (hR N (by simp))
 change At _ _ E [R] _
 refine At.seq fun _ s_1=>At.region (aE (aC rfl) rfl rfl (aA (aB (s_1 (At.seq fun _ s_2=>At.region (aD (aC rfl) rfl rfl (aR (aV rfl) (.cons rfl .nil) (Bits_f h hn) Try.func148 rfl rfl (by simp) rfl ?_)))))))
 rintro v8 L8 ⟨rfl,rfl⟩
 change At _ _ _ [R] _
 refine bI (aC rfl) rfl rfl (by omega) (by omega) rfl (op_quoI (aC rfl) rfl rfl (by omega) (by omega) (by omega) rfl (aE (aC rfl) rfl rfl (aA (aB (s_2 (At.seq fun _ s_3=>At.region (aD (aC rfl) rfl rfl ?_)))))))
 refine op_make (aV rfl) Try.underlying27 te5 rfl rfl (show _=(((m:Nat)):Int)from by omega) (show _=(((m:Nat)):Int)from by omega) (by omega) (by unfold maxLen;omega) rfl (fun N12 a12 r12=>?_)
 rw [made_one _ _ rfl,zero_u8s]at r12
 have s12:=r12.rsl
 refine aE (aC rfl) rfl rfl (aA (aB (s_3 (At.seq fun _ s_4=>At.seq fun _ s_5=>At.region (aD (aC rfl) rfl rfl (bP (aC rfl) se27 rfl rfl (aD (aC rfl) rfl rfl (aA (aB (s_5 (At.block ?_)))))))))))
 refine At.loop (fun fr_ hp_ ms_=> ∃(k:Nat) (Nq:Heaplet),fr_= [(0,.slice ao n cap),(3,.int .i64 (m:Int)),(4,.slice a12 m m),(14,.int .i64 (m:Int)),(15,.int .i64 (k:Int))]∧hp_= [Nq,R]∧m- k=ms_∧(k≤m)∧(Row Nq 5 1 a12 m m (u8s (bytesSt m (v64 l) k)))) ?_ (.refl _) ⟨0,N12,rfl,rfl,rfl,by omega,by rw [bytesSt_zero];exact r12⟩ ?_
 ·exact .cons (by first|exact bE rfl (by omega)|rfl) (.cons (by first|exact bE rfl (by omega)|rfl) (.cons (by first|exact bE rfl (by omega)|rfl) (.cons (by first|exact bE rfl (by omega)|rfl) (.cons (by first|exact bE rfl (by omega)|rfl) .nil))))
 rintro _ _ _ ⟨k,Nq,rfl,rfl,rfl,hk,rq⟩
 have sq:=rq.rsl
 have hlq:=sq.len8
 refine At.seq fun _ s_6=>At.region (op_lss (aC rfl) rfl rfl rfl (aA (aB (s_6 (At.seq fun _ s_7=>aP rfl (fun c16=>?_) (fun c16=>?_))))))
 ·refine At.skip (aB (s_7 (At.seq fun _ s_8=>At.block (At.seq fun _ s_9=>At.region (aD (aC rfl) rfl rfl (aE (aC rfl) rfl rfl (aA (aB (s_9 (At.seq fun _ s_10=>At.region (aD (aC rfl) rfl rfl (op_subI (aC rfl) rfl rfl (by omega) (by omega) rfl (aD (aC rfl) rfl rfl (op_subI (aC rfl) rfl rfl (by omega) (by omega) rfl (aE (aC rfl) rfl rfl (aA (aB (s_10 (At.region (aD (aC rfl) rfl rfl ?_))))))))))))))))))))
  refine aD (aC rfl) rfl rfl (aD (aC rfl) rfl rfl (aD (aC rfl) rfl rfl (op_quoI (aC rfl) rfl rfl (by omega) (by omega) (by omega) rfl (op_idx1 (aC rfl) se200 rfl rfl (by assumption) (show _=((((m- 1- k)/8:Nat)):Int)from by omega) (by omega) rfl ?_))))
  refine bS (aC rfl) sc24 rfl (by assumption) (by first|exact get8 (by omega)|exact get64 (by omega)|exact get32 (by omega)) (by first|exact aN|exact bC|exact bV|exact mem3|exact mem4|exact mem5|exact mem6|exact mem7|exact mem8|exact mem9) rfl ?_
  refine aD (aC rfl) rfl rfl (op_rem (aC rfl) rfl rfl (by omega) (by omega) rfl (op_mulI (aC rfl) rfl rfl (by omega) (by omega) rfl (op_shrU (aC rfl) rfl rfl (show _=((((m- 1- k) % 8*8:Nat)):Int)from by omega) rfl ?_)))
  refine op_conv8 (aC rfl) (und_some Try.underlying24) Try.underlying5 rfl (by first|rfl|exact(Int.toNat_of_nonneg (by omega)).symm) rfl ?_
  refine op_idx1 (aC rfl) se27 rfl rfl (by assumption) (show _=(((k:Nat)):Int)from by omega) (by omega) rfl ?_
  refine op_storeE (nxl rfl) sz5 rfl rfl rfl rfl rfl rq (by simp<;>omega) (by simp) sel0 (fun Nq rq=>?_)
  simp only [setL]at rq
  have sq:=rq.rsl
  refine aA (bB (aB (s_8 (At.region (bI (aC rfl) rfl rfl (by omega) (by omega) rfl (aD (aC rfl) rfl rfl (aA (aB ?_))))))))
  refine At.back ?_ (.refl _) ⟨k+1,Nq,rfl,rfl,rfl,by omega,by rw [bytesSt_succ (by omega), ←byte_at (by omega), ←set_u8s];exact rq⟩ ?_
  ·exact .cons (by first|exact bE rfl (by omega)|rfl) (.cons (by first|exact bE rfl (by omega)|rfl) (.cons (by first|exact bE rfl (by omega)|rfl) (.cons (by first|exact bE rfl (by omega)|rfl) (.cons (by first|exact bE rfl (by omega)|rfl) .nil))))
  ·omega
 refine At.exit (aO (aO (At.inHit (aB (s_4 (At.seq fun _ s_11=>At.region (aD (aC rfl) rfl rfl (aE (aC rfl) rfl rfl (aA (aB (s_11 (At.ret ((aZ (L1:= [Nq]) rfl (.tmp rfl .nil) (.refl _) (.refl _) ?_))))))))))))))
 obtain rfl:k=m:=by omega
 rw [bytesSt_all, ←hB]at rq
 exact⟨Nq,a12,rfl,rfl,rq⟩
theorem bytesOf_le {n k:Nat} (h:n<256^k):(bytesOf n).length≤k:=by rw [length_bytesOf];exact byteLen_le.2 h
theorem head_f (b n:Nat) (hb:b≤192) (hn:n≤1099511627776):
 Fn Try.prog 131 #[.int .i64 (b:Int),.int .i64 (n:Int)] [] [] (fun v L=> ∃M a cap,v=.slice a (rlpHead b n).length cap∧L= [M]∧Row M 5 1 a (rlpHead b n).length cap (u8s (rlpHead b n))):=by
 have h8:=bytesOf_le (n:=n) (k:=8) (by omega)
 refine Fn.enter (vs:= [.int .i64 (b:Int),.int .i64 (n:Int)]) Try.func131 rfl rfl rfl ?_
 intro E R hR
 change At _ _ E [R] _
 refine At.seq fun _ s_1=>At.region (aE (aC rfl) rfl rfl (aA (aB (s_1 (At.seq fun _ s_2=>At.seq fun _ s_3=>At.region (aD (aC rfl) rfl rfl (op_leq (aC rfl) rfl rfl rfl (aA (aB (s_3 (aP rfl (fun c7=>?_) (fun c7=>?_))))))))))))
 ·refine At.seq fun _ s_4=>At.region (aD (aC rfl) rfl rfl (aD (aC rfl) rfl rfl (bI (aC rfl) rfl rfl (by omega) (by omega) rfl (op_conv8 (aC rfl) (und_some Try.underlying3) Try.underlying5 rfl (show _=(((b+n:Nat)):Int)from by omega) rfl ?_))))
  refine op_lit (aV rfl) Try.underlying27 ze5 sz5 (.cons rfl .nil) rfl rfl (by simp [Value.cells]) rfl rfl rfl (fun N12 a12 r12=>?_)
  simp only [flatV,List.flatMap_cons,List.flatMap_nil,Value.cells,List.append_nil,List.cons_append,List.nil_append]at r12
  have s12:=r12.rsl
  refine aE (aC rfl) rfl rfl (aA (aB (s_4 (At.ret (aT ((aZ (L1:= [N12]) rfl (.tmp rfl .nil) (.refl _) (.refl _) ?_)))))))
  have e:rlpHead b n= [UInt8.ofNat (b+n)]:=by rw [rlpHead,if_pos (by omega)]
  rw [e]
  exact⟨N12,a12,1,rfl,rfl,r12⟩
 refine At.skip (aB (s_2 (At.seq fun _ s_5=>At.region (aD (aC rfl) rfl rfl (op_conv64 (aC rfl) (und_some Try.underlying3) Try.underlying24 rfl (show _=(((n:Nat)):Int)from by omega) rfl ?_)))))
 refine op_lit (aV rfl) Try.underlying200 ze24 sz24 (.cons rfl .nil) rfl rfl (by simp [Value.cells]) rfl rfl rfl (fun N15 a15 r15=>?_)
 simp only [flatV,List.flatMap_cons,List.flatMap_nil,Value.cells,List.append_nil,List.cons_append,List.nil_append]at r15
 have s15:=r15.rsl
 refine aR (aV rfl) (.cons rfl .nil) (Bytes_f (l:= [UInt64.ofNat n]) s15 (by decide)) Try.func145 rfl rfl (by simp) rfl ?_
 rintro v16 L16 ⟨M16,a16,rfl,rfl,r16⟩
 change At _ _ _ [M16,N15,R] _
 rw [v64_one n (by omega)]at r16⊢
 have s16:=r16.rsl
 refine aE (aC rfl) rfl rfl (aA (aB (s_5 (At.seq fun _ s_6=>At.region (aD (aC rfl) rfl rfl (bI (aC rfl) rfl rfl (by omega) (by omega) rfl (aD (aC rfl) rfl rfl (bP (aC rfl) se27 rfl rfl (bI (aC rfl) rfl rfl (by omega) (by omega) rfl (op_conv8 (aC rfl) (und_some Try.underlying3) Try.underlying5 rfl (show _=(((b+55+(bytesOf n).length:Nat)):Int)from by omega) rfl ?_))))))))))
 refine op_lit (aV rfl) Try.underlying27 ze5 sz5 (.cons rfl .nil) rfl rfl (by simp [Value.cells]) rfl rfl rfl (fun N23 a23 r23=>?_)
 simp only [flatV,List.flatMap_cons,List.flatMap_nil,Value.cells,List.append_nil,List.cons_append,List.nil_append]at r23
 have s23:=r23.rsl
 refine aD (aC rfl) rfl rfl ?_
 refine op_append (nxl rfl) Try.underlying27 Try.underlying27 te5 rfl rfl r23 (by assumption) (by first|exact aN|exact bC|exact bV|exact mem3|exact mem4|exact mem5|exact mem6|exact mem7|exact mem8|exact mem9) (by first|exact one_u8s _|exact one_u64s _|exact one_u32s _|(intro u hu;simp at hu;subst hu;rfl)) (by omega) (by omega) sel0 rfl (fun N25 a25 p25 r25=>?_)
 have s25:=r25.rsl
 refine aE (aC rfl) rfl rfl (aA (aB (s_6 (At.ret ((At.sub (L':= [N25,R]) (.cons_cons _ (.cons _ (.cons _ (.cons_cons _ (.slnil))))) (aZ (L1:= [N25]) rfl (.tmp rfl .nil) (.refl _) (.refl _) ?_)))))))
 have e:rlpHead b n=UInt8.ofNat (b+55+(bytesOf n).length)::bytesOf n:=by rw [rlpHead,if_neg (by omega)]
 rw [e,List.length_cons,Nat.add_comm (bytesOf n).length 1]
 exact⟨N25,a25,p25,rfl,rfl,r25⟩
end Go.Proofs.Ytljacjjeinmfnaa
/- package word's From, Bits, Bytes, Short; the reference's N, Short. No condition. -/
namespace Go.Proofs.Ytljacjjeinmfnaa
open Go Go.RowKit
theorem WFrom_long {N:Heaplet} {ao:Option Addr} {n cap:Nat} {l:List UInt8} (h:RSl N 1 ao n cap (u8s l)) (hn:32<n):
 Fn Try.prog 142 #[.slice ao n cap] [] [N] (fun v L=>v=.tuple #[.agg #[.int .u64 0,.int .u64 0,.int .u64 0,.int .u64 0],.bool false]∧L= []):=by
 have hcap:=h.cap63
 refine Fn.enter (vs:= [.slice ao n cap]) Try.func142 rfl rfl rfl ?_
 intro E R hR
 change At _ _ E [R] _
 refine At.seq fun _ s_1=>At.region (aU (aV rfl) ze26 rfl (fun N2 b2 B2=>?_))
 change Blk N2 b2 _ [.int .u64 0,.int .u64 0,.int .u64 0,.int .u64 0]at B2
 refine aE (aC rfl) rfl rfl (aA (aB (s_1 (At.seq fun _ s_2=>At.seq fun _ s_3=>At.region (aD (aC rfl) rfl rfl (bP (aC rfl) se27 rfl rfl (op_gtr (aC rfl) rfl rfl rfl (aA (aB (s_3 (aP rfl (fun c10=>?_) (fun c10=>?_))))))))))))
 rotate_left
 ·exfalso;omega
 refine At.seq fun _ s_4=>At.region (op_buildA (out:= [.int .u64 0,.int .u64 0,.int .u64 0,.int .u64 0]) (aC rfl) ze26 ae26 .nil rfl rfl (aG (nxl rfl) sz26 rfl rfl rfl rfl rfl B2 (by simp) sel0 (fun N2 B2=>?_)))
 simp only [setL,List.set]at B2
 refine aE (aC rfl) rfl rfl (aA (aB (s_4 (At.ret (aT ((bF (L1:= []) rfl (.cell rfl (bH (ds:= [_,_,_,_]) ag26 B2 rfl rfl aN) (.tmp rfl .nil)) rfl (.cons _ (.refl _)) (.refl _) ?_)))))))
 exact⟨rfl,rfl⟩
theorem WFrom_f {N:Heaplet} {ao:Option Addr} {n cap:Nat} {l:List UInt8} (h:RSl N 1 ao n cap (u8s l)) (hn:n≤32):
 Fn Try.prog 142 #[.slice ao n cap] [] [N] (fun v L=> ∃a b c d:UInt64,v=.tuple #[.agg #[.int .u64 (a.toNat:Int),.int .u64 (b.toNat:Int),.int .u64 (c.toNat:Int),.int .u64 (d.toNat:Int)],.bool true]∧L= []∧v64 [a,b,c,d]=be l):=by
 have hlen:=h.len8
 have hcap:=h.cap63
 refine Fn.enter (vs:= [.slice ao n cap]) Try.func142 rfl rfl rfl ?_
 intro E R hR
 have h:=h.le (hR N (by simp))
 change At _ _ E [R] _
 refine At.seq fun _ s_1=>At.region (aU (aV rfl) ze26 rfl (fun N2 b2 B2=>?_))
 change Blk N2 b2 _ [.int .u64 0,.int .u64 0,.int .u64 0,.int .u64 0]at B2
 refine aE (aC rfl) rfl rfl (aA (aB (s_1 (At.seq fun _ s_2=>At.seq fun _ s_3=>At.region (aD (aC rfl) rfl rfl (bP (aC rfl) se27 rfl rfl (op_gtr (aC rfl) rfl rfl rfl (aA (aB (s_3 (aP rfl (fun c10=>?_) (fun c10=>?_))))))))))))
 ·exfalso;omega
 refine At.skip (aB (s_2 (At.seq fun _ s_4=>At.region (aU (aV rfl) ze26 rfl (fun N4 b4 B4=>?_)))))
 change Blk N4 b4 _ [.int .u64 0,.int .u64 0,.int .u64 0,.int .u64 0]at B4
 change Blk N4 b4 _ (u64s [0,0,0,0])at B4
 refine aA (aB (s_4 (At.seq fun _ s_5=>At.seq fun _ s_6=>At.region (aD (aC rfl) rfl rfl (bP (aC rfl) se27 rfl rfl (aD (aC rfl) rfl rfl (aA (aB (s_6 (At.block (At.perm aX (At.perm bZ (At.perm aX ?_)))))))))))))
 refine At.loop (fun fr_ hp_ ms_=> ∃(k:Nat) (m:List UInt64) (N4:Heaplet),fr_= [(0,.slice ao n cap),(2,.pointer (some ⟨b2,0,none⟩)),(4,.pointer (some ⟨b4,0,none⟩)),(12,.slice ao n cap),(13,.int .i64 (n:Int)),(14,.int .i64 (k:Int))]∧hp_= [N2,N4,R]∧n- k=ms_∧(k≤n)∧(m.length=4)∧(v64 m=be (l.take k)*256^(l.length- k))∧(Blk N4 b4 26 (u64s m))) ?_ (.refl _) ⟨0,[0,0,0,0],N4,rfl,rfl,rfl,by omega,rfl,by simp [be];rfl,B4⟩ ?_
 ·exact .cons (by first|exact bE rfl (by omega)|rfl) (.cons (by first|exact bE rfl (by omega)|rfl) (.cons (by first|exact bE rfl (by omega)|rfl) (.cons (by first|exact bE rfl (by omega)|rfl) (.cons (by first|exact bE rfl (by omega)|rfl) (.cons (by first|exact bE rfl (by omega)|rfl) .nil)))))
 rintro _ _ _ ⟨k,m,N4,rfl,rfl,rfl,hk,hm,hv,B4⟩
 refine At.seq fun _ s_7=>At.region (op_lss (aC rfl) rfl rfl rfl (aA (aB (s_7 (At.seq fun _ s_8=>aP rfl (fun c15=>?_) (fun c15=>?_))))))
 ·refine At.skip (aB (s_8 (At.seq fun _ s_9=>At.block (At.seq fun _ s_10=>At.region (aD (aC rfl) rfl rfl (op_idx1 (aC rfl) se27 rfl rfl (by assumption) (show _=(((k:Nat)):Int)from by omega) (by omega) rfl ?_))))))
  refine bS (aC rfl) sc5 rfl (by assumption) (by first|exact get8 (by omega)|exact get64 (by omega)|exact get32 (by omega)) (by first|exact aN|exact bC|exact bV|exact mem3|exact mem4|exact mem5|exact mem6|exact mem7|exact mem8|exact mem9) rfl ?_
  refine aE (aC rfl) rfl rfl (aE (aC rfl) rfl rfl (aA (aB (s_10 (At.seq fun _ s_11=>At.region (aD (aC rfl) rfl rfl (bP (aC rfl) se27 rfl rfl (op_subI (aC rfl) rfl rfl (by omega) (by omega) rfl (aD (aC rfl) rfl rfl (op_subI (aC rfl) rfl rfl (by omega) (by omega) rfl (aE (aC rfl) rfl rfl (aA (aB (s_11 (At.drawn [12] [0,1,2,3,4,5,6,7,8,9,10,11,12] (by kernel_rfl) (by kernel_rfl) (aD (aY rfl rfl rfl (by kernel_rfl)) rfl rfl (op_quoI (aY rfl rfl rfl (by kernel_rfl)) rfl rfl (by omega) (by omega) (by omega) rfl (bY (aY rfl rfl rfl (by kernel_rfl)) ae26 rfl rfl (show _=((((n- 1- k)/8:Nat)):Int)from by omega) (by omega) rfl ?_))))))))))))))))))
  refine aH (aY rfl rfl rfl (by kernel_rfl)) sc24 rfl B4 (by first|exact get64A (by omega)|rfl) bC rfl ?_
  refine aD (aY rfl rfl rfl (by kernel_rfl)) rfl rfl (op_conv64 (aY rfl rfl rfl (by kernel_rfl)) (und_some Try.underlying5) Try.underlying24 rfl (by first|rfl|exact(Int.toNat_of_nonneg (by omega)).symm) rfl ?_)
  refine aD (aY rfl rfl rfl (by kernel_rfl)) rfl rfl (op_rem (aY rfl rfl rfl (by kernel_rfl)) rfl rfl (by omega) (by omega) rfl (op_mulI (aY rfl rfl rfl (by kernel_rfl)) rfl rfl (by omega) (by omega) rfl (op_shlU (aY rfl rfl rfl (by kernel_rfl)) rfl rfl (show _=((((n- 1- k) % 8*8:Nat)):Int)from by omega) rfl ?_)))
  refine op_orU (aY rfl rfl rfl (by kernel_rfl)) rfl rfl rfl (bY (aY rfl rfl rfl (by kernel_rfl)) ae26 rfl rfl (show _=((((n- 1- k)/8:Nat)):Int)from by omega) (by omega) rfl ?_)
  refine aG (nxos rfl rfl rfl rfl) sz24 rfl rfl rfl rfl rfl B4 (by simp<;>omega) bZ (fun N4 B4=>?_)
  rw [set64A]at B4
  refine At.oneNil (bB (aB (s_9 (At.region (bI (aC rfl) rfl rfl (by omega) (by omega) rfl (aD (aC rfl) rfl rfl (aA (aB (At.perm aX (At.perm bZ (At.perm aX ?_)))))))))))
  refine At.back ?_ (.refl _) ⟨k+1,_,N4,rfl,rfl,rfl,by omega,by simpa using hm,by rw [shl64_of _ (by have:=(l.getD k 0).toNat_lt;omega), ←hlen];exact wfrom_step hm (by omega) (by omega) hv,B4⟩ ?_
  ·exact .cons (by first|exact bE rfl (by omega)|rfl) (.cons (by first|exact bE rfl (by omega)|rfl) (.cons (by first|exact bE rfl (by omega)|rfl) (.cons (by first|exact bE rfl (by omega)|rfl) (.cons (by first|exact bE rfl (by omega)|rfl) (.cons (by first|exact bE rfl (by omega)|rfl) .nil)))))
  ·omega
 refine At.exit (aO (aO (At.inHit (aB (s_5 (At.seq fun _ s_12=>At.region ?_))))))
 obtain⟨a,b,c,d,rfl⟩:=four hm
 have hfin:v64 [a,b,c,d]=be l:=by
  rw [hv,show k=l.length by omega,List.take_length,Nat.sub_self,Nat.pow_zero,Nat.mul_one]
 change Blk N4 b4 _ [.int .u64 (a.toNat:Int),.int .u64 (b.toNat:Int),.int .u64 (c.toNat:Int),.int .u64 (d.toNat:Int)]at B4
 refine aL (ds:= [_,_,_,_]) (aC rfl) ag26 rfl B4 rfl rfl bC rfl (aG (nxl rfl) sz26 rfl rfl rfl rfl rfl B2 (by simp) sel0 (fun N2 B2=>?_))
 simp only [setL,List.set]at B2
 refine aE (aC rfl) rfl rfl (aA (aB (s_12 (At.ret ((At.sub (L':= [N2,R]) (.cons_cons _ (.cons _ (.cons_cons _ (.slnil)))) (bF (L1:= []) rfl (.cell rfl (bH (ds:= [_,_,_,_]) ag26 B2 rfl rfl aN) (.tmp rfl .nil)) rfl (.cons _ (.refl _)) (.refl _) ?_)))))))
 exact⟨a,b,c,d,rfl,rfl,hfin⟩
theorem WBits_f (a b c d:UInt64):Fn Try.prog 121 #[.agg #[.int .u64 (a.toNat:Int),.int .u64 (b.toNat:Int),.int .u64 (c.toNat:Int),.int .u64 (d.toNat:Int)]] [] [] (fun v L=>v=.int .i64 (bitLen (v64 [a,b,c,d]):Nat)∧L= []):=by
 obtain⟨m,hm⟩: ∃m,m= [a,b,c,d]:=⟨_,rfl⟩
 have hm4:m.length=4:=by rw [hm];rfl
 refine Fn.enter (vs:= [.agg #[.int .u64 (a.toNat:Int),.int .u64 (b.toNat:Int),.int .u64 (c.toNat:Int),.int .u64 (d.toNat:Int)]]) Try.func121 rfl rfl rfl ?_
 intro E R hR
 change At _ _ E [R] _
 refine At.seq fun _ s_1=>At.region (op_box (aV rfl) rfl rfl rfl (fun N1 b1 B1=>?_))
 change Blk N1 b1 _ (u64s [a,b,c,d])at B1
 rw [←hm]at B1⊢
 refine aE (aC rfl) rfl rfl (aA (aB (s_1 (At.seq fun _ s_2=>At.seq fun _ s_3=>At.region (aE (aC rfl) rfl rfl (aA (aB (s_3 (At.block (At.loop (fun fr_ hp_ ms_=> ∃(j:Nat),fr_= [(1,.pointer (some ⟨b1,0,none⟩)),(3,.int .i64 ((j:Int)- 1))]∧hp_= [N1,R]∧j=ms_∧(j≤4)∧(v64 m=v64 (m.take j))) ?_ (.refl _) ⟨4,rfl,rfl,rfl,by omega,by rw [List.take_of_length_le (by omega)]⟩ ?_))))))))))
 ·exact .cons (by first|exact bE rfl (by omega)|rfl) (.cons (by first|exact bE rfl (by omega)|rfl) .nil)
 rintro _ _ _ ⟨j,rfl,rfl,rfl,hj,hv⟩
 refine At.seq fun _ s_4=>At.seq fun _ s_5=>At.region (aD (aC rfl) rfl rfl (op_geq (aC rfl) rfl rfl rfl (aA (aB (s_5 (aP rfl (fun c5=>?_) (fun c5=>?_)))))))
 ·refine At.skip (aB (s_4 (At.seq fun _ s_6=>At.block (At.seq fun _ s_7=>At.region (aD (aC rfl) rfl rfl (bY (aC rfl) ae26 rfl rfl (show _=(((j- 1:Nat)):Int)from by omega) (by omega) rfl ?_))))))
  refine aH (aC rfl) sc24 rfl B1 (by first|exact get64A (by omega)|rfl) aN rfl ?_
  refine op_neq (aC rfl) rfl rfl rfl (aA (aB (s_7 (aP rfl (fun c11=>?_) (fun c11=>?_)))))
  ·refine At.seq fun _ s_8=>At.region (aD (aC rfl) rfl rfl (op_mulI (aC rfl) rfl rfl (by omega) (by omega) rfl (aD (aC rfl) rfl rfl (bY (aC rfl) ae26 rfl rfl (show _=(((j- 1:Nat)):Int)from by omega) (by omega) rfl ?_))))
   refine aH (aC rfl) sc24 rfl B1 (by first|exact get64A (by omega)|rfl) aN rfl ?_
   refine aR (aV rfl) (.cons rfl .nil) (Len64_f (m.getD (j- 1) 0)) Try.func138 rfl rfl (by simp) rfl ?_
   rintro v17 L17 ⟨rfl,rfl⟩
   change At _ _ _ [N1,R] _
   have h64:=bitLen_le.2 (m.getD (j- 1) 0).toNat_lt
   refine bI (aC rfl) rfl rfl (by omega) (by omega) rfl (aE (aC rfl) rfl rfl (aA (aB (s_8 (At.ret (At.inRet (aT (aT (At.inRet (aT ((At.sub (L':= [R]) (.cons _ (.cons_cons _ (.slnil))) (aZ (L1:= []) rfl (.tmp rfl .nil) (.refl _) (.refl _) ?_)))))))))))))
   exact⟨by rw [←hm,bits_at (k:=j- 1) (by omega) (by omega) (by rw [show j- 1+1=j by omega];exact hv)];congr 1;omega,rfl⟩
  refine At.skip (bB (aB (s_6 (At.region (aD (aC rfl) rfl rfl (op_subI (aC rfl) rfl rfl (by omega) (by omega) rfl (aE (aC rfl) rfl rfl (aA (aB ?_)))))))))
  refine At.back ?_ (.refl _) ⟨j- 1,rfl,rfl,rfl,by omega,v64_take_zero (by omega) (by omega) (by rw [show j- 1+1=j by omega];exact hv)⟩ ?_
  ·exact .cons (by first|exact bE rfl (by omega)|rfl) (.cons (by first|exact bE rfl (by omega)|rfl) .nil)
  ·omega
 refine At.exit (aO (aO (At.inHit (aB (s_2 (At.seq fun _ s_9=>At.region (aE (aC rfl) rfl rfl (aA (aB (s_9 (At.ret ((At.sub (L':= [R]) (.cons _ (.cons_cons _ (.slnil))) (aZ (L1:= []) rfl (.tmp rfl .nil) (.refl _) (.refl _) ?_))))))))))))))
 exact⟨by rw [←hm,hv,show j=0 by omega];rfl,rfl⟩
end Go.Proofs.Ytljacjjeinmfnaa
/- package word's Bytes, Short; the reference's N, Short. No condition. -/
namespace Go.Proofs.Ytljacjjeinmfnaa
open Go Go.RowKit
end Go.Proofs.Ytljacjjeinmfnaa
/- package word's Bytes, Short. No condition. -/
namespace Go.Proofs.Ytljacjjeinmfnaa
open Go Go.RowKit
theorem setL_at (vs:List Value): ∀(p cs:List Value),cs.length=vs.length→setL (p++cs) p.length vs=p++vs:=by
 induction vs with
 |nil=>intro p cs h;rw [List.eq_nil_of_length_eq_zero h];rfl
 |cons v t ih=>
  intro p cs h
  match cs,h with
  |c::cs,h=>
   rw [setL]
   have e:(p++c::cs).set p.length v=(p++ [v])++cs:=by simp
   rw [e]
   have:=ih (p++ [v]) cs (by simpa using h)
   rw [List.length_append]at this
   simpa using this
theorem bD {cs vs:List Value} (h:cs.length=vs.length):setL cs 0 vs=vs:=by simpa using setL_at vs [] cs h
theorem wbyte {m:List UInt64} {k:Nat} (hm:m.length=4) (h:k<32):UInt8.ofNat (shr64 (m.getD ((31- k)/8) 0) ((31- k) % 8*8)).toNat=UInt8.ofNat (v64 m/256^(31- k)):=by
 have hq:(31- k)/8<m.length:=by omega
 rw [shr64,UInt64.toNat_ofNat',Nat.mod_eq_of_lt (Nat.lt_of_le_of_lt (Nat.div_le_self _ _) (UInt64.toNat_lt _)),List.getD_eq_getElem?_getD,List.getElem?_eq_getElem hq,Option.getD_some,byte_of_limb hq]
theorem RSl.arr8 {N:Heaplet} {b lo:Nat} {e:TypeId} {L:List UInt8} (h:Blk N b e (u8s L)) (hl:L.length=32) (hlo:lo≤32):RSl N 1 (some (if 32=lo then ⟨b,0,none⟩else ⟨b,0+lo*1,none⟩)) (32- lo) (32- lo) (u8s (L.drop lo)):=by
 refine⟨by simp [u8s];omega,Nat.le_refl _,Nat.le_trans (by omega:32- lo≤32) (by decide),fun h0=>⟨b,lo,by rw [if_neg (by omega),Nat.zero_add,Nat.mul_one],?_⟩⟩
 have e:=h.rng.sub (o:=lo) (ds:=u8s (L.drop lo)) fun i hi=>by
  rw [List.getElem?_eq_getElem (by simp [u8s]at hi⊢;omega)]
  simp [u8s]
 rwa [Nat.zero_add]at e
set_option maxRecDepth 100000 in
theorem WBytes_f (a b c d:UInt64):Fn Try.prog 44 #[.agg #[.int .u64 (a.toNat:Int),.int .u64 (b.toNat:Int),.int .u64 (c.toNat:Int),.int .u64 (d.toNat:Int)]] [] [] (fun v L=>v=.agg (u8s (bytesN 32 (v64 [a,b,c,d]))).toArray∧L= []):=by
 obtain⟨m,hm⟩: ∃m,m= [a,b,c,d]:=⟨_,rfl⟩
 have hm4:m.length=4:=by rw [hm];rfl
 refine Fn.enter (vs:= [.agg #[.int .u64 (a.toNat:Int),.int .u64 (b.toNat:Int),.int .u64 (c.toNat:Int),.int .u64 (d.toNat:Int)]]) Try.func44 rfl rfl rfl ?_
 intro E R hR
 change At _ _ E [R] _
 refine At.seq fun _ s_1=>At.region (op_box (aV rfl) rfl rfl rfl (fun N1 b1 B1=>?_))
 change Blk N1 b1 _ (u64s [a,b,c,d])at B1
 rw [←hm]at B1⊢
 refine aU (aV rfl) ze39 rfl (fun N2 b2 B2=>?_)
 change Blk N2 b2 _ [.int .u8 0,.int .u8 0,.int .u8 0,.int .u8 0,.int .u8 0,.int .u8 0,.int .u8 0,.int .u8 0,.int .u8 0,.int .u8 0,.int .u8 0,.int .u8 0,.int .u8 0,.int .u8 0,.int .u8 0,.int .u8 0,.int .u8 0,.int .u8 0,.int .u8 0,.int .u8 0,.int .u8 0,.int .u8 0,.int .u8 0,.int .u8 0,.int .u8 0,.int .u8 0,.int .u8 0,.int .u8 0,.int .u8 0,.int .u8 0,.int .u8 0,.int .u8 0]at B2
 refine aA (aB (s_1 (At.seq fun _ s_2=>At.region (aU (aV rfl) ze39 rfl (fun N3 b3 B3=>?_)))))
 change Blk N3 b3 _ [.int .u8 0,.int .u8 0,.int .u8 0,.int .u8 0,.int .u8 0,.int .u8 0,.int .u8 0,.int .u8 0,.int .u8 0,.int .u8 0,.int .u8 0,.int .u8 0,.int .u8 0,.int .u8 0,.int .u8 0,.int .u8 0,.int .u8 0,.int .u8 0,.int .u8 0,.int .u8 0,.int .u8 0,.int .u8 0,.int .u8 0,.int .u8 0,.int .u8 0,.int .u8 0,.int .u8 0,.int .u8 0,.int .u8 0,.int .u8 0,.int .u8 0,.int .u8 0]at B3
 change Blk N3 b3 _ (u8s (List.replicate 32 0))at B3
 rw [←bytesSt_zero 32 (v64 m)]at B3
 refine aA (aB (s_2 (At.seq fun _ s_3=>At.seq fun _ s_4=>At.region (aD (aC rfl) rfl rfl (aA (aB (s_4 (At.block (At.perm aW (At.perm bZ (At.perm aX (At.perm aW (At.loop (fun fr_ hp_ ms_=> ∃(k:Nat) (N3:Heaplet),fr_= [(1,.pointer (some ⟨b1,0,none⟩)),(2,.pointer (some ⟨b2,0,none⟩)),(3,.pointer (some ⟨b3,0,none⟩)),(6,.int .i64 (k:Int))]∧hp_= [N1,N2,N3,R]∧32- k=ms_∧(k≤32)∧(Blk N3 b3 39 (u8s (bytesSt 32 (v64 m) k)))) ?_ (.refl _) ⟨0,N3,rfl,rfl,rfl,by omega,B3⟩ ?_)))))))))))))
 ·exact .cons (by first|exact bE rfl (by omega)|rfl) (.cons (by first|exact bE rfl (by omega)|rfl) (.cons (by first|exact bE rfl (by omega)|rfl) (.cons (by first|exact bE rfl (by omega)|rfl) .nil)))
 rintro _ _ _ ⟨k,N3,rfl,rfl,rfl,hk,B3⟩
 have hbl:=length_bytesSt (m:=32) (N:=v64 m) hk
 refine At.seq fun _ s_5=>At.region (op_lss (aC rfl) rfl rfl rfl (aA (aB (s_5 (At.seq fun _ s_6=>aP rfl (fun c7=>?_) (fun c7=>?_))))))
 ·refine At.skip (aB (s_6 (At.seq fun _ s_7=>At.block (At.seq fun _ s_8=>At.region (aD (aC rfl) rfl rfl (aE (aC rfl) rfl rfl (aA (aB (s_8 (At.seq fun _ s_9=>At.region (aD (aC rfl) rfl rfl (op_subI (aC rfl) rfl rfl (by omega) (by omega) rfl (aE (aC rfl) rfl rfl (aA (aB (s_9 (At.region (aD (aC rfl) rfl rfl (aD (aC rfl) rfl rfl (op_quoI (aC rfl) rfl rfl (by omega) (by omega) (by omega) rfl ?_))))))))))))))))))))
  refine bY (aC rfl) ae26 rfl rfl (show _=((((31- k)/8:Nat)):Int)from by omega) (by omega) rfl ?_
  refine aH (aC rfl) sc24 rfl B1 (by first|exact get64A (by omega)|rfl) aN rfl ?_
  refine aD (aC rfl) rfl rfl (op_rem (aC rfl) rfl rfl (by omega) (by omega) rfl (op_mulI (aC rfl) rfl rfl (by omega) (by omega) rfl (op_shrU (aC rfl) rfl rfl (show _=((((31- k) % 8*8:Nat)):Int)from by omega) rfl ?_)))
  refine op_conv8 (aC rfl) (und_some Try.underlying24) Try.underlying5 rfl (by first|rfl|exact(Int.toNat_of_nonneg (by omega)).symm) rfl ?_
  refine bY (aC rfl) ae39 rfl rfl (show _=(((k:Nat)):Int)from by omega) (by omega) rfl ?_
  refine aG (nxl rfl) sz5 rfl rfl rfl rfl rfl B3 (by simp<;>omega) aX (fun N3 B3=>?_)
  rw [set8A]at B3
  refine aA (bB (aB (s_7 (At.region (bI (aC rfl) rfl rfl (by omega) (by omega) rfl (aD (aC rfl) rfl rfl (aA (aB (At.perm aW (At.perm bZ (At.perm aW (At.perm aW ?_))))))))))))
  refine At.back ?_ (.refl _) ⟨k+1,N3,rfl,rfl,rfl,by omega,by rw [bytesSt_succ (by omega),show 32- 1- k=31- k by omega, ←wbyte hm4 (by omega)];exact B3⟩ ?_
  ·exact .cons (by first|exact bE rfl (by omega)|rfl) (.cons (by first|exact bE rfl (by omega)|rfl) (.cons (by first|exact bE rfl (by omega)|rfl) (.cons (by first|exact bE rfl (by omega)|rfl) .nil)))
  ·omega
 refine At.exit (aO (aO (At.inHit (aB (s_3 (At.seq fun _ s_10=>At.region ?_))))))
 have hk32:k=32:=by omega
 rw [hk32,bytesSt_all]at B3
 refine aL (ds:=u8s (bytesN 32 (v64 m))) (aC rfl) ag39 rfl B3 (by first|(rw [List.drop_zero,List.take_of_length_le (by first|(simp;done)|(simp;omega))];done)|rfl) (by first|(simp;done)|(simp;omega)) bV rfl ?_
 refine aG (nxl rfl) sz39 rfl rfl rfl rfl rfl B2 (by simp) bZ (fun N2 B2=>?_)
 rw [bD (by simp)]at B2
 refine aA (aB (s_10 (At.ret ((At.sub (L':= [N2,R]) (.cons_cons _ (.cons _ (.cons _ (.cons_cons _ (.slnil))))) ?_)))))
 refine aZ (L1:= []) rfl (.cell rfl (bH (ds:=u8s (bytesN 32 (v64 m))) ag39 B2 (by first|(rw [List.drop_zero,List.take_of_length_le (by first|(simp;done)|(simp;omega))];done)|rfl) (by first|(simp;done)|(simp;omega)) aN) .nil) (.cons _ (.refl _)) (.refl _) ?_
 exact⟨by rw [←hm],rfl⟩
set_option maxRecDepth 100000 in
theorem WShort_f (a b c d:UInt64):Fn Try.prog 101 #[.agg #[.int .u64 (a.toNat:Int),.int .u64 (b.toNat:Int),.int .u64 (c.toNat:Int),.int .u64 (d.toNat:Int)]] [] [] (fun v L=> ∃M p k,v=.slice p (bytesOf (v64 [a,b,c,d])).length k∧L= [M]∧Row M 5 1 p (bytesOf (v64 [a,b,c,d])).length k (u8s (bytesOf (v64 [a,b,c,d])))):=by
 have hlt:=v64_four_lt a b c d
 have hbl:=bitLen_le.2 hlt
 have hlen:=length_bytesOf (v64 [a,b,c,d])
 have hdr:=bytes_drop32 hlt
 refine Fn.enter (vs:= [.agg #[.int .u64 (a.toNat:Int),.int .u64 (b.toNat:Int),.int .u64 (c.toNat:Int),.int .u64 (d.toNat:Int)]]) Try.func101 rfl rfl rfl ?_
 intro E R hR
 change At _ _ E [R] _
 refine At.seq fun _ s_1=>At.region (op_box (aV rfl) rfl rfl rfl (fun N1 b1 B1=>aE (aC rfl) rfl rfl (aA (aB (s_1 (At.seq fun _ s_2=>At.region (aL (ds:= [_,_,_,_]) (aC rfl) ag26 rfl B1 rfl rfl aN rfl (aR (aV rfl) (.cons rfl .nil) (WBytes_f a b c d) Try.func44 rfl rfl (by simp) rfl ?_))))))))
 rintro v6 L6 ⟨rfl,rfl⟩
 change At _ _ _ [N1,R] _
 refine aU (aV rfl) ze39 rfl (fun N3 b3 B3=>?_)
 change Blk N3 b3 _ [.int .u8 0,.int .u8 0,.int .u8 0,.int .u8 0,.int .u8 0,.int .u8 0,.int .u8 0,.int .u8 0,.int .u8 0,.int .u8 0,.int .u8 0,.int .u8 0,.int .u8 0,.int .u8 0,.int .u8 0,.int .u8 0,.int .u8 0,.int .u8 0,.int .u8 0,.int .u8 0,.int .u8 0,.int .u8 0,.int .u8 0,.int .u8 0,.int .u8 0,.int .u8 0,.int .u8 0,.int .u8 0,.int .u8 0,.int .u8 0,.int .u8 0,.int .u8 0]at B3
 refine aG (nxl rfl) sz39 rfl rfl rfl rfl rfl B3 (by simp) sel0 (fun N3 B3=>?_)
 rw [bD (by simp)]at B3
 refine aA (aB (s_2 (At.seq fun _ s_3=>At.region (aL (ds:= [_,_,_,_]) (aC rfl) ag26 rfl B1 rfl rfl bC rfl (aR (aV rfl) (.cons rfl .nil) (WBits_f a b c d) Try.func121 rfl rfl (by simp) rfl ?_)))))
 rintro v8 L8 ⟨rfl,rfl⟩
 change At _ _ _ [N3,N1,R] _
 refine bI (aC rfl) rfl rfl (by omega) (by omega) rfl (op_quoI (aC rfl) rfl rfl (by omega) (by omega) (by omega) rfl (aE (aC rfl) rfl rfl (aA (aB (s_3 (At.seq fun _ s_4=>At.region (aD (aC rfl) rfl rfl (op_subI (aC rfl) rfl rfl (by omega) (by omega) rfl (op_sliceA (aC rfl) ae39 rfl (.some rfl (show _=(((32- (bitLen (v64 [a,b,c,d])+7)/8:Nat)):Int)from by omega)) .none .none (by omega) (by omega) (by omega) (by simp) rfl ?_)))))))))
 have s13:=RSl.arr8 B3 (by simp) (show 32- (bitLen (v64 [a,b,c,d])+7)/8≤32 by omega)
 rw [hdr]at s13
 refine op_append0 (aV rfl) Try.underlying27 Try.underlying27 te5 rfl rfl (by assumption) (by first|exact aN|exact bC|exact bV|exact mem3|exact mem4|exact mem5|exact mem6|exact mem7|exact mem8|exact mem9) (by first|exact one_u8s _|exact one_u64s _|exact one_u32s _|(intro u hu;simp at hu;subst hu;rfl)) (by omega) (by omega) rfl (fun N14 a14 p14 r14=>?_)
 have s14:=r14.rsl
 refine aE (aC rfl) rfl rfl (aA (aB (s_4 (At.ret ((At.sub (L':= [N14,R]) (.cons_cons _ (.cons _ (.cons _ (.cons_cons _ (.slnil))))) (aZ (L1:= [N14]) rfl (.tmp rfl .nil) (.refl _) (.refl _) ?_)))))))
 rw [show 32- (32- (bitLen (v64 [a,b,c,d])+7)/8)=(bytesOf (v64 [a,b,c,d])).length by omega]at r14⊢
 exact⟨N14,a14,p14,rfl,rfl,r14⟩
end Go.Proofs.Ytljacjjeinmfnaa
/- Plain law: the first item of bytes. No condition. -/
namespace Go.Proofs.Ytljacjjeinmfnaa
/-- The payload of n bytes from place i on, and what is behind it. -/
def cutAt (b:List UInt8) (i n:Nat):Option (Bool×List UInt8×List UInt8):=
 if b.length- i<n then none
 else if 192≤(b.getD 0 0).toNat then some (true,(b.drop i).take n,b.drop (i+n))
 else if n=1∧(b.getD i 0).toNat<128 then none
 else some (false,(b.drop i).take n,b.drop (i+n))
/-- What the head's first byte says of the length. -/
def hdr (b:List UInt8):Nat:=((b.getD 0 0).toNat- 128) % 64
/-- The length that is written out. -/
def lng (b:List UInt8):Nat:=be ((b.drop 1).take (hdr b- 54- 1))
/-- The first item's kind and payload, and what is behind it. -/
def cutF (b:List UInt8):Option (Bool×List UInt8×List UInt8):=
 if b.length=0 then none
 else if (b.getD 0 0).toNat<128 then some (false,b.take 1,b.drop 1)
 else if hdr b≤55 then cutAt b 1 (hdr b)
 else if b.length<hdr b- 54∨(b.getD 1 0).toNat=0 then none
 else if lng b≤55∨b.length<lng b then none
 else cutAt b (hdr b- 54) (lng b)
theorem limbs_one {B:Nat} (h0:0<B) (h:B<2^64):limbsOf B= [UInt64.ofNat B]:=by
 have h1:(bitLen B+63)/64≤1:=limbLen_le.2 (by simpa using h)
 have h2:=bitLen_pos h0
 have h3:(bitLen B+63)/64=1:=by omega
 rw [limbsOf,h3];simp [limbsN]
theorem lng_pos {b:List UInt8} (h1:hdr b- 54≤b.length) (h2:56≤hdr b) (h3:(b.getD 1 0).toNat≠0):0<lng b∧lng b<2^64:=by
 have h63:hdr b<64:=Nat.mod_lt _ (by decide)
 have hl:((b.drop 1).take (hdr b- 54- 1)).length=hdr b- 55:=by rw [List.length_take,List.length_drop];omega
 constructor
 ·unfold lng
  cases hb:(b.drop 1).take (hdr b- 54- 1)with
  |nil=>rw [hb]at hl;simp at hl;omega
  |cons x t=>
   rw [be_cons]
   have hx:x=b.getD 1 0:=by
    have e1:((b.drop 1).take (hdr b- 54- 1))[0]? =some x:=by rw [hb];rfl
    rw [List.getElem?_take,if_pos (by omega),List.getElem?_drop]at e1
    rw [List.getD_eq_getElem?_getD,e1];rfl
   have hx0:0<x.toNat:=by rw [hx];omega
   have hp:0<256^t.length:=Nat.pow_pos (by decide)
   have:=Nat.mul_pos hx0 hp
   omega
 ·have:=be_lt ((b.drop 1).take (hdr b- 54- 1))
  rw [hl]at this
  unfold lng
  refine Nat.lt_of_lt_of_le this ?_
  rw [show(2:Nat)^64=256^8 from by decide]
  exact Nat.pow_le_pow_right (by decide) (by omega)
theorem getD_part {b:List UInt8} {i k:Nat} (h:0<k):((b.drop i).take k).getD 0 0=b.getD i 0:=by
 rw [List.getD_eq_getElem?_getD,List.getElem?_take,if_pos h,List.getElem?_drop,List.getD_eq_getElem?_getD,Nat.add_zero]
end Go.Proofs.Ytljacjjeinmfnaa
/- rlp.cut takes the first item's payload apart from what is behind it. No condition. -/
namespace Go.Proofs.Ytljacjjeinmfnaa
open Go Go.RowKit
/-- What rlp.cut tells. -/
def CutV (N:Heaplet) (r:Option (Bool×List UInt8×List UInt8)) (v:Value):Prop:=match r with
 |none=>v=.tuple #[.nilIface,.slice none 0 0]
 |some (isL,p,q)=> ∃a1 c1 a2 c2,v=.tuple #[.iface (if isL then 186 else 184) (.slice a1 p.length c1),.slice a2 q.length c2]∧RSl N 1 a1 p.length c1 (u8s p)∧RSl N 1 a2 q.length c2 (u8s q)
theorem cutv_mk {N:Heaplet} {isL:Bool} {p q:List UInt8} {T:TypeId} {a1 a2:Option Addr} {n1 n2 c1 c2:Nat} (hT:T=if isL then 186 else 184) (h1:RSl N 1 a1 n1 c1 (u8s p)) (h2:RSl N 1 a2 n2 c2 (u8s q)):CutV N (some (isL,p,q)) (.tuple #[.iface T (.slice a1 n1 c1),.slice a2 n2 c2]):=by
 have e1:=h1.len8
 have e2:=h2.len8
 subst e1;subst e2
 exact⟨a1,c1,a2,c2,by rw [hT],h1,h2⟩
theorem cut_f {N:Heaplet} {ao:Option Addr} {n cap:Nat} {b:List UInt8} (h:RSl N 1 ao n cap (u8s b)) (hn:n≤1099511627776):
 Fn Try.prog 124 #[.slice ao n cap] [] [N] (fun v L=>L= []∧ ∀M:Heaplet,RSl M 1 ao n cap (u8s b)→CutV M (cutF b) v):=by
 have hlen:=h.len8
 have hcap:=h.cap63
 refine Fn.enter (vs:= [.slice ao n cap]) Try.func124 rfl rfl rfl ?_
 intro E R hR
 have h:=h.le (hR N (by simp))
 have hb0:=(b.getD 0 0).toNat_lt
 have hd:hdr b=((b.getD 0 0).toNat- 128) % 64:=rfl
 have hn64:(UInt64.ofNat n).toNat=n:=by rw [UInt64.toNat_ofNat'];exact Nat.mod_eq_of_lt (by omega)
 change At _ _ E [R] _
 refine At.seq fun _ s_1=>At.region (aE (aC rfl) rfl rfl (aE (aC rfl) rfl rfl (aA (aB (s_1 (At.seq fun _ s_2=>At.seq fun _ s_3=>At.region (aD (aC rfl) rfl rfl (bP (aC rfl) se27 rfl rfl (op_eql (aC rfl) rfl rfl rfl (aA (aB (s_3 (aP rfl (fun c11=>?_) (fun c11=>?_))))))))))))))
 ·refine At.seq fun _ s_4=>At.region (aE (aC rfl) rfl rfl (aE (aC rfl) rfl rfl (aA (aB (s_4 (At.ret (aT ((bF (L1:= []) rfl (.tmp rfl (.tmp rfl .nil)) rfl (.refl _) (.refl _) ?_)))))))))
  exact⟨rfl,fun M hM=>by rw [cutF,if_pos (by omega)];rfl⟩
 refine At.skip (aB (s_2 (At.seq fun _ s_5=>At.region (aD (aC rfl) rfl rfl (op_idx1 (aC rfl) se27 rfl rfl (by assumption) (show _=((0:Nat):Int)from rfl) (by omega) rfl ?_)))))
 refine bS (aC rfl) sc5 rfl (by assumption) (by first|exact get8 (by omega)|exact get64 (by omega)|exact get32 (by omega)) (by first|exact aN|exact bC|exact bV|exact mem3|exact mem4|exact mem5|exact mem6|exact mem7|exact mem8|exact mem9) rfl ?_
 refine op_convI (aC rfl) (und_some Try.underlying5) Try.underlying3 rfl (by omega) (by omega) rfl (aE (aC rfl) rfl rfl (aA (aB (s_5 (At.seq fun _ s_6=>At.seq fun _ s_7=>At.region (aD (aC rfl) rfl rfl (op_lss (aC rfl) rfl rfl rfl (aA (aB (s_7 (aP rfl (fun c17=>?_) (fun c17=>?_))))))))))))
 ·refine At.seq fun _ s_8=>At.drawn [] [0,1,2,3,4,5,6] (by kernel_rfl) (by kernel_rfl) (aD (aY rfl rfl rfl (by kernel_rfl)) rfl rfl (op_slice0 (aY rfl rfl rfl (by kernel_rfl)) se27 rfl (.some rfl (show _=((1:Nat):Int)from rfl)) .none (by omega) (by omega) (by simp) rfl (op_mkI (aY rfl rfl rfl (by kernel_rfl)) (by kernel_rfl) rfl rfl (aD (aY rfl rfl rfl (by kernel_rfl)) rfl rfl (op_slice (aY rfl rfl rfl (by kernel_rfl)) se27 rfl (.some rfl (show _=((1:Nat):Int)from rfl)) .none .none (by omega) (by omega) (by omega) (by simp) rfl (aE (aY rfl rfl rfl (by kernel_rfl)) rfl rfl (aE (aY rfl rfl rfl (by kernel_rfl)) rfl rfl (At.oneNil (aB (s_8 (At.ret (aT ((bF (L1:= []) rfl (.tmp rfl (.tmp rfl .nil)) rfl (.refl _) (.refl _) (⟨rfl,fun M hM=>?_⟩)))))))))))))))
  rw [cutF,if_neg (by omega),if_pos (by omega)]
  exact cutv_mk rfl (hM.take8 (by omega) (by omega) (by omega)) (hM.drop8 (by omega))
 refine At.skip (aB (s_6 (At.seq fun _ s_9=>At.region (aD (aC rfl) rfl rfl (op_subI (aC rfl) rfl rfl (by omega) (by omega) rfl (op_rem (aC rfl) rfl rfl (by omega) (by omega) rfl (aE (aC rfl) rfl rfl (aE (aC rfl) rfl rfl (aA (aB (s_9 (At.seq fun _ s_10=>At.meet (fun fr_ hp_=> ∃(i m:Nat),fr_= [(0,.slice ao n cap),(4,.int .i64 ((b.getD 0 0).toNat:Int)),(5,.int .i64 (m:Int)),(6,.int .i64 (i:Int))]∧hp_= [R]∧(i≤n)∧(1≤i)∧(m≤1099511627776)∧(cutF b=cutAt b i m)) ?_ (fun K10_ jk_10=>?_)))))))))))))
 rotate_left
 ·skip
  refine At.seq fun _ s_11=>At.region (aD (aC rfl) rfl rfl (op_gtr (aC rfl) rfl rfl rfl (aA (aB (s_11 (aP rfl (fun c27=>?_) (fun c27=>?_)))))))
  ·refine At.seq fun _ s_12=>At.region (aD (aC rfl) rfl rfl (aD (aC rfl) rfl rfl (op_subI (aC rfl) rfl rfl (by omega) (by omega) rfl (bI (aC rfl) rfl rfl (by omega) (by omega) rfl (aE (aC rfl) rfl rfl (aA (aB (s_12 (At.seq fun _ s_13=>At.seq fun _ s_14=>At.region (aD (aC rfl) rfl rfl (bP (aC rfl) se27 rfl rfl (aD (aC rfl) rfl rfl (op_lss (aC rfl) rfl rfl rfl (aD (aC rfl) rfl rfl (bU (d:=36) rfl (fun g36=>?_) (fun g36=>?_))))))))))))))))
   ·refine aJ rfl rfl rfl rfl rfl rfl rfl (aJ rfl rfl rfl rfl rfl rfl rfl (aJ rfl rfl rfl rfl rfl rfl rfl (aJ rfl rfl rfl rfl rfl rfl rfl (bW (aC rfl) rfl rfl rfl (aA (aB (s_14 (At.condT rfl (At.seq fun _ s_15=>At.region (aE (aC rfl) rfl rfl (aE (aC rfl) rfl rfl (aA (aB (s_15 (At.ret (aT (aT ((bF (L1:= []) rfl (.tmp rfl (.tmp rfl .nil)) rfl (.refl _) (.refl _) ?_)))))))))))))))))))
    exact⟨rfl,fun M hM=>by rw [cutF,if_neg (by omega),if_neg (by omega),if_neg (by omega),if_pos (.inl (by omega))];rfl⟩
   refine aD (aS rfl rfl rfl rfl) rfl rfl (op_idx1 (aS rfl rfl rfl rfl) se27 rfl rfl (by assumption) (show _=((1:Nat):Int)from rfl) (by omega) rfl ?_)
   refine bS (aS rfl rfl rfl rfl) sc5 rfl (by assumption) (by first|exact get8 (by omega)|exact get64 (by omega)|exact get32 (by omega)) (by first|exact aN|exact bC|exact bV|exact mem3|exact mem4|exact mem5|exact mem6|exact mem7|exact mem8|exact mem9) rfl ?_
   refine op_eql (aS rfl rfl rfl rfl) rfl rfl rfl (bM (aC rfl) rfl rfl rfl (aA (aB (s_14 (aP rfl (fun c41=>?_) (fun c41=>?_))))))
   ·refine At.seq fun _ s_16=>At.region (aE (aC rfl) rfl rfl (aE (aC rfl) rfl rfl (aA (aB (s_16 (At.ret (aT (aT ((bF (L1:= []) rfl (.tmp rfl (.tmp rfl .nil)) rfl (.refl _) (.refl _) ?_))))))))))
    exact⟨rfl,fun M hM=>by rw [cutF,if_neg (by omega),if_neg (by omega),if_neg (by omega),if_pos (.inr (by omega))];rfl⟩
   refine At.skip (aB (s_13 (At.seq fun _ s_17=>At.region (aD (aC rfl) rfl rfl (aD (aC rfl) rfl rfl (op_slice (aC rfl) se27 rfl (.some rfl (show _=((1:Nat):Int)from rfl)) (.some rfl (show _=(((hdr b- 54:Nat)):Int)from by omega)) .none (by omega) (by omega) (by omega) (by simp) rfl ?_))))))
   refine aR (aV rfl) (.cons rfl .nil) (From_f (h.part8 (lo:=1) (hi:=hdr b- 54) (m:=cap) (by omega) (by omega) (by omega) (by omega)) (by omega)) Try.func141 rfl rfl (by simp) rfl ?_
   rintro v45 L45 ⟨M45,a45,rfl,rfl,s45⟩
   change At _ _ _ [M45,R] _
   have hl:=lng_pos (b:=b) (by omega) (by omega) (by omega)
   change RSl M45 1 a45 (limbsOf (lng b)).length (limbsOf (lng b)).length (u64s (limbsOf (lng b)))at s45
   change At _ ((45,.slice a45 (limbsOf (lng b)).length (limbsOf (lng b)).length)::_) _ [M45,R] _
   have hx:([UInt64.ofNat (lng b)].getD 0 0).toNat=lng b:=by rw [show [UInt64.ofNat (lng b)].getD 0 0=UInt64.ofNat (lng b)from rfl,UInt64.toNat_ofNat'];exact Nat.mod_eq_of_lt hl.2
   rw [limbs_one hl.1 hl.2]at s45⊢
   have hl1: [UInt64.ofNat (lng b)].length=1:=rfl
   refine aE (aC rfl) rfl rfl (aA (aB (s_17 (At.seq fun _ s_18=>At.seq fun _ s_19=>At.region (aD (aC rfl) rfl rfl (bP (aC rfl) se200 rfl rfl (op_gtr (aC rfl) rfl rfl rfl (aD (aC rfl) rfl rfl (bU (d:=49) rfl (fun g49=>?_) (fun g49=>?_))))))))))
   ·exfalso;omega
   refine aD (aS rfl rfl rfl rfl) rfl rfl (op_idx1 (aS rfl rfl rfl rfl) se200 rfl rfl (by assumption) (show _=((0:Nat):Int)from rfl) (by omega) rfl ?_)
   refine bS (aS rfl rfl rfl rfl) sc24 rfl (by assumption) (by first|exact get8 (by omega)|exact get64 (by omega)|exact get32 (by omega)) (by first|exact aN|exact bC|exact bV|exact mem3|exact mem4|exact mem5|exact mem6|exact mem7|exact mem8|exact mem9) rfl ?_
   refine op_leq (aS rfl rfl rfl rfl) rfl rfl rfl (bM (aC rfl) rfl rfl rfl (aD (aC rfl) rfl rfl (bU (d:=55) rfl (fun g55=>?_) (fun g55=>?_))))
   ·refine aJ rfl rfl rfl rfl rfl rfl rfl (aJ rfl rfl rfl rfl rfl rfl rfl (aJ rfl rfl rfl rfl rfl rfl rfl (aJ rfl rfl rfl rfl rfl rfl rfl (aJ rfl rfl rfl rfl rfl rfl rfl (aJ rfl rfl rfl rfl rfl rfl rfl (aJ rfl rfl rfl rfl rfl rfl rfl (bW (aC rfl) rfl rfl rfl (aA (aB (s_19 (At.condT rfl (At.seq fun _ s_20=>At.region (aE (aC rfl) rfl rfl (aE (aC rfl) rfl rfl (aA (aB (s_20 (At.ret (aT (aT ((At.sub (L':= [R]) (.cons _ (.cons_cons _ (.slnil))) (bF (L1:= []) rfl (.tmp rfl (.tmp rfl .nil)) rfl (.refl _) (.refl _) ?_)))))))))))))))))))))))
    exact⟨rfl,fun M hM=>by rw [cutF,if_neg (by omega),if_neg (by omega),if_neg (by omega),if_neg (by omega),if_pos (.inl (by omega))];rfl⟩
   refine aD (aS rfl rfl rfl rfl) rfl rfl (op_idx1 (aS rfl rfl rfl rfl) se200 rfl rfl (by assumption) (show _=((0:Nat):Int)from rfl) (by omega) rfl ?_)
   refine bS (aS rfl rfl rfl rfl) sc24 rfl (by assumption) (by first|exact get8 (by omega)|exact get64 (by omega)|exact get32 (by omega)) (by first|exact aN|exact bC|exact bV|exact mem3|exact mem4|exact mem5|exact mem6|exact mem7|exact mem8|exact mem9) rfl ?_
   refine aD (aS rfl rfl rfl rfl) rfl rfl (bP (aS rfl rfl rfl rfl) se27 rfl rfl (op_conv64 (aS rfl rfl rfl rfl) (und_some Try.underlying3) Try.underlying24 rfl (by first|rfl|exact(Int.toNat_of_nonneg (by omega)).symm) rfl ?_))
   refine op_gtr (aS rfl rfl rfl rfl) rfl rfl rfl (bM (aC rfl) rfl rfl rfl (aA (aB (s_19 (aP rfl (fun c63=>?_) (fun c63=>?_))))))
   ·refine At.seq fun _ s_21=>At.region (aE (aC rfl) rfl rfl (aE (aC rfl) rfl rfl (aA (aB (s_21 (At.ret (aT (aT ((At.sub (L':= [R]) (.cons _ (.cons_cons _ (.slnil))) (bF (L1:= []) rfl (.tmp rfl (.tmp rfl .nil)) rfl (.refl _) (.refl _) ?_)))))))))))
    exact⟨rfl,fun M hM=>by rw [cutF,if_neg (by omega),if_neg (by omega),if_neg (by omega),if_neg (by omega),if_pos (.inr (by omega))];rfl⟩
   refine At.skip (aB (s_18 (At.region (aD (aC rfl) rfl rfl (op_idx1 (aC rfl) se200 rfl rfl (by assumption) (show _=((0:Nat):Int)from rfl) (by omega) rfl ?_)))))
   refine bS (aC rfl) sc24 rfl (by assumption) (by first|exact get8 (by omega)|exact get64 (by omega)|exact get32 (by omega)) (by first|exact aN|exact bC|exact bV|exact mem3|exact mem4|exact mem5|exact mem6|exact mem7|exact mem8|exact mem9) rfl ?_
   refine op_convI (aC rfl) (und_some Try.underlying24) Try.underlying3 rfl (by omega) (by omega) rfl (aE (aC rfl) rfl rfl (aA (At.sub (L':= [R]) (.cons _ (.cons_cons _ (.slnil))) (aB (jk_10 ?_ (.refl _) ⟨hdr b- 54,lng b,rfl,rfl,by omega,by omega,by omega,by rw [cutF,if_neg (by omega),if_neg (by omega),if_neg (by omega),if_neg (by omega),if_neg (by omega)]⟩)))))
   exact .cons (by first|exact bE rfl (by omega)|rfl) (.cons (by first|exact bE rfl (by omega)|rfl) (.cons (by first|exact bE rfl (by omega)|rfl) (.cons (by first|exact bE rfl (by omega)|rfl) .nil)))
  refine At.skip (aB (jk_10 ?_ (.refl _) ⟨1,hdr b,rfl,rfl,by omega,by omega,by omega,by rw [cutF,if_neg (by omega),if_neg (by omega),if_pos (by omega)]⟩))
  exact .cons (by first|exact bE rfl (by omega)|rfl) (.cons (by first|exact bE rfl (by omega)|rfl) (.cons (by first|exact bE rfl (by omega)|rfl) (.cons (by first|exact bE rfl (by omega)|rfl) .nil)))
 rintro _ _ ⟨i,m,rfl,rfl,hi,hi0,hm,hc⟩
 refine s_10 (At.seq fun _ s_22=>At.seq fun _ s_23=>At.region (aD (aC rfl) rfl rfl (aD (aC rfl) rfl rfl (bP (aC rfl) se27 rfl rfl (aD (aC rfl) rfl rfl (op_subI (aC rfl) rfl rfl (by omega) (by omega) rfl (op_gtr (aC rfl) rfl rfl rfl (aA (aB (s_23 (aP rfl (fun c73=>?_) (fun c73=>?_))))))))))))
 ·refine At.seq fun _ s_24=>At.region (aE (aC rfl) rfl rfl (aE (aC rfl) rfl rfl (aA (aB (s_24 (At.ret (aT ((bF (L1:= []) rfl (.tmp rfl (.tmp rfl .nil)) rfl (.refl _) (.refl _) ?_)))))))))
  exact⟨rfl,fun M hM=>by rw [hc,cutAt,if_pos (by omega)];rfl⟩
 refine At.skip (aB (s_22 (At.seq fun _ s_25=>At.region (aD (aC rfl) rfl rfl (aD (aC rfl) rfl rfl (aD (aC rfl) rfl rfl (aD (aC rfl) rfl rfl (bI (aC rfl) rfl rfl (by omega) (by omega) rfl (op_slice (aC rfl) se27 rfl (.some rfl (show _=(((i:Nat)):Int)from by omega)) (.some rfl (show _=(((i+m:Nat)):Int)from by omega)) .none (by omega) (by omega) (by omega) (by simp) rfl ?_)))))))))
 have s79:=h.part8 (lo:=i) (hi:=i+m) (m:=cap) (by omega) (by omega) (by omega) (by omega)
 have l79:=s79.len8
 refine aE (aC rfl) rfl rfl (aA (aB (s_25 (At.seq fun _ s_26=>At.block (At.seq fun _ s_27=>At.region (aD (aC rfl) rfl rfl (op_geq (aC rfl) rfl rfl rfl (aE (aC rfl) rfl rfl (aA (aB (s_27 (aP rfl (fun c80=>?_) (fun c80=>?_)))))))))))))
 ·refine At.seq fun _ s_28=>At.drawn [] [0,1,2,3,4,5,6,7,8] (by kernel_rfl) (by kernel_rfl) (aD (aY rfl rfl rfl (by kernel_rfl)) rfl rfl (op_mkI (aY rfl rfl rfl (by kernel_rfl)) (by kernel_rfl) rfl rfl (aD (aY rfl rfl rfl (by kernel_rfl)) rfl rfl (aD (aY rfl rfl rfl (by kernel_rfl)) rfl rfl (aD (aY rfl rfl rfl (by kernel_rfl)) rfl rfl (bI (aY rfl rfl rfl (by kernel_rfl)) rfl rfl (by omega) (by omega) rfl (op_slice (aY rfl rfl rfl (by kernel_rfl)) se27 rfl (.some rfl (show _=(((i+m:Nat)):Int)from by omega)) .none .none (by omega) (by omega) (by omega) (by simp) rfl ?_)))))))
  refine aE (aY rfl rfl rfl (by kernel_rfl)) rfl rfl (aE (aY rfl rfl rfl (by kernel_rfl)) rfl rfl (At.oneNil (aB (s_28 (At.ret (At.inRet (aT ((bF (L1:= []) rfl (.tmp rfl (.tmp rfl .nil)) rfl (.refl _) (.refl _) (⟨rfl,fun M hM=>?_⟩))))))))))
  rw [hc,cutAt,if_neg (by omega),if_pos (by omega)]
  have e:=hM.part8 (lo:=i) (hi:=i+m) (m:=cap) (by omega) (by omega) (by omega) (by omega)
  rw [show i+m- i=m by omega]at e⊢
  exact cutv_mk rfl e (hM.drop8 (by omega))
 refine At.seq fun _ s_29=>At.region (aD (aC rfl) rfl rfl (op_eql (aC rfl) rfl rfl rfl (aD (aC rfl) rfl rfl (bU (d:=93) rfl (fun g93=>?_) (fun g93=>?_)))))
 ·refine aD (aS rfl rfl rfl rfl) rfl rfl (op_idx1 (aS rfl rfl rfl rfl) se27 rfl rfl (by assumption) (show _=((0:Nat):Int)from rfl) (by omega) rfl ?_)
  refine bS (aS rfl rfl rfl rfl) sc5 rfl (by assumption) (by first|exact get8 (by omega)|exact get64 (by omega)|exact get32 (by omega)) (by first|exact aN|exact bC|exact bV|exact mem3|exact mem4|exact mem5|exact mem6|exact mem7|exact mem8|exact mem9) rfl ?_
  refine op_lss (aS rfl rfl rfl rfl) rfl rfl rfl (bW (aC rfl) rfl rfl rfl (aE (aC rfl) rfl rfl (aA (aB (s_29 (aP rfl (fun c90=>?_) (fun c90=>?_)))))))
  ·refine At.seq fun _ s_30=>At.region (aE (aC rfl) rfl rfl (aE (aC rfl) rfl rfl (aA (aB (s_30 (At.ret (At.inRet (aT ((bF (L1:= []) rfl (.tmp rfl (.tmp rfl .nil)) rfl (.refl _) (.refl _) ?_))))))))))
   exact⟨rfl,fun M hM=>by rw [hc,cutAt,if_neg (by omega),if_neg (by omega),if_pos ⟨by omega,by rw [getD_part (by omega)]at c90;omega⟩];rfl⟩
  refine At.skip (bB (aB (s_26 (At.seq fun _ s_31=>At.drawn [] [0,1,2,3,4,5,6,7,8] (by kernel_rfl) (by kernel_rfl) (aD (aY rfl rfl rfl (by kernel_rfl)) rfl rfl (op_mkI (aY rfl rfl rfl (by kernel_rfl)) (by kernel_rfl) rfl rfl (aD (aY rfl rfl rfl (by kernel_rfl)) rfl rfl (aD (aY rfl rfl rfl (by kernel_rfl)) rfl rfl (aD (aY rfl rfl rfl (by kernel_rfl)) rfl rfl (bI (aY rfl rfl rfl (by kernel_rfl)) rfl rfl (by omega) (by omega) rfl (op_slice (aY rfl rfl rfl (by kernel_rfl)) se27 rfl (.some rfl (show _=(((i+m:Nat)):Int)from by omega)) .none .none (by omega) (by omega) (by omega) (by simp) rfl ?_)))))))))))
  refine aE (aY rfl rfl rfl (by kernel_rfl)) rfl rfl (aE (aY rfl rfl rfl (by kernel_rfl)) rfl rfl (At.oneNil (aB (s_31 (At.ret ((bF (L1:= []) rfl (.tmp rfl (.tmp rfl .nil)) rfl (.refl _) (.refl _) (⟨rfl,fun M hM=>?_⟩))))))))
  rw [getD_part (by omega)]at c90
  rw [hc,cutAt,if_neg (by omega),if_neg (by omega),if_neg (by omega)]
  have e:=hM.part8 (lo:=i) (hi:=i+m) (m:=cap) (by omega) (by omega) (by omega) (by omega)
  rw [show i+m- i=m by omega]at e⊢
  exact cutv_mk rfl e (hM.drop8 (by omega))
 refine aJ rfl rfl rfl rfl rfl rfl rfl (aJ rfl rfl rfl rfl rfl rfl rfl (aJ rfl rfl rfl rfl rfl rfl rfl (aJ rfl rfl rfl rfl rfl rfl rfl (bM (aC rfl) rfl rfl rfl (aE (aC rfl) rfl rfl (aA (aB (s_29 (At.condF rfl (At.skip (bB (aB (s_26 (At.seq fun _ s_32=>At.drawn [] [0,1,2,3,4,5,6,7,8] (by kernel_rfl) (by kernel_rfl) (aD (aY rfl rfl rfl (by kernel_rfl)) rfl rfl (op_mkI (aY rfl rfl rfl (by kernel_rfl)) (by kernel_rfl) rfl rfl (aD (aY rfl rfl rfl (by kernel_rfl)) rfl rfl (aD (aY rfl rfl rfl (by kernel_rfl)) rfl rfl (aD (aY rfl rfl rfl (by kernel_rfl)) rfl rfl (bI (aY rfl rfl rfl (by kernel_rfl)) rfl rfl (by omega) (by omega) rfl (op_slice (aY rfl rfl rfl (by kernel_rfl)) se27 rfl (.some rfl (show _=(((i+m:Nat)):Int)from by omega)) .none .none (by omega) (by omega) (by omega) (by simp) rfl ?_)))))))))))))))))))))
 refine aE (aY rfl rfl rfl (by kernel_rfl)) rfl rfl (aE (aY rfl rfl rfl (by kernel_rfl)) rfl rfl (At.oneNil (aB (s_32 (At.ret ((bF (L1:= []) rfl (.tmp rfl (.tmp rfl .nil)) rfl (.refl _) (.refl _) (⟨rfl,fun M hM=>?_⟩))))))))
 rw [hc,cutAt,if_neg (by omega),if_neg (by omega),if_neg (by omega)]
 have e:=hM.part8 (lo:=i) (hi:=i+m) (m:=cap) (by omega) (by omega) (by omega) (by omega)
 rw [show i+m- i=m by omega]at e⊢
 exact cutv_mk rfl e (hM.drop8 (by omega))
end Go.Proofs.Ytljacjjeinmfnaa
/- Items: trees of byte strings, their forms, and how they lie in memory. No condition. -/
namespace Go.Proofs.Ytljacjjeinmfnaa
open Go Go.RowKit
/-- An item: whether it is a list, its bytes, its items. -/
inductive It where
 |mk (list:Bool) (bytes:List UInt8) (items:List It)
mutual
def It.form:It→List UInt8
 |.mk false bs _=>match bs with
  | [x]=>if x<128 then [x]else rlpHead 128 1++ [x]
  |bs=>rlpHead 128 bs.length++bs
 |.mk true _ its=>rlpHead 192 (It.forms its).length++It.forms its
def It.forms:List It→List UInt8
 | []=> []
 |t::ts=>It.form t++It.forms ts
end
mutual
def It.depth:It→Nat
 |.mk false _ _=>0
 |.mk true _ its=>It.depths its+1
def It.depths:List It→Nat
 | []=>0
 |t::ts=>max (It.depth t) (It.depths ts)
end
mutual
theorem It.ind_it {P:It→Prop} (h: ∀l bs its,(∀t∈its,P t)→P (.mk l bs its)): ∀t,P t
 |.mk l bs its=>h l bs its (It.ind_its h its)
theorem It.ind_its {P:It→Prop} (h: ∀l bs its,(∀t∈its,P t)→P (.mk l bs its)): ∀its:List It, ∀t∈its,P t
 | [],_,ht=>by cases ht
 |x::xs,t,ht=>by
  rcases List.mem_cons.1 ht with e|ht
  ·rw [e];exact It.ind_it h x
  ·exact It.ind_its h xs t ht
end
theorem forms_append (a b:List It):It.forms (a++b)=It.forms a++It.forms b:=by
 induction a with
 |nil=>rfl
 |cons t ts ih=>simp only [List.cons_append,It.forms,ih,List.append_assoc]
theorem forms_take_succ {its:List It} {k:Nat} {t:It} (h:its[k]? =some t):It.forms (its.take (k+1))=It.forms (its.take k)++t.form:=by
 obtain⟨hlt,rfl⟩:=List.getElem?_eq_some_iff.1 h
 rw [List.take_succ_eq_append_getElem hlt,forms_append]
 simp [It.forms]
theorem forms_take_le (its:List It) (k:Nat):(It.forms (its.take k)).length≤(It.forms its).length:=by
 conv=>rhs;rw [←List.take_append_drop k its]
 rw [forms_append,List.length_append]
 omega
theorem form_le {its:List It} {t:It} (h:t∈its):t.form.length≤(It.forms its).length:=by
 obtain⟨a,b,rfl⟩:=List.append_of_mem h
 rw [forms_append,It.forms]
 simp
 omega
theorem depths_le {its:List It} {d:Nat} :It.depths its≤d↔ ∀t∈its,t.depth≤d:=by
 induction its with
 |nil=>simp [It.depths]
 |cons t ts ih=>simp [It.depths,Nat.max_le,ih]
/-- One byte below 128. -/
def small:List UInt8→Bool
 | [x]=>decide (x<128)
 |_=>false
theorem form_false (bs:List UInt8) (its:List It):(It.mk false bs its).form=if small bs then bs else rlpHead 128 bs.length++bs:=by
 cases bs with
 |nil=>simp [It.form,small]
 |cons x xs=>
  cases xs with
  |nil=>simp [It.form,small]
  |cons y ys=>simp [It.form,small]
theorem form_true (bs:List UInt8) (its:List It):(It.mk true bs its).form=rlpHead 192 (It.forms its).length++It.forms its:=by simp [It.form]
theorem small_iffI {bs:List UInt8} :small bs=true↔bs.length=1∧(bs.getD 0 0).toNat<128:=by
 cases bs with
 |nil=>simp [small]
 |cons x xs=>
  cases xs with
  |nil=>simp [small,UInt8.lt_iff_toNat_lt]
  |cons y ys=>simp [small]
theorem one_eq {bs:List UInt8} (h:bs.length=1):bs= [bs.getD 0 0]:=by
 cases bs with
 |nil=>simp at h
 |cons x xs=>cases xs with
  |nil=>rfl
  |cons y ys=>simp at h
/-- An item's three values. -/
structure IV where
 l:Bool
 ab:Option Addr
 nb:Nat
 cb:Nat
 ai:Option Addr
 ni:Nat
 ci:Nat
def IV.cells (x:IV):List Value:= [.bool x.l,.slice x.ab x.nb x.cb,.slice x.ai x.ni x.ci]
def cellsI (xs:List IV):List Value:=xs.flatMap IV.cells
theorem length_cellsI (xs:List IV):(cellsI xs).length=xs.length*3:=by
 induction xs with
 |nil=>rfl
 |cons x t ih=>simp only [cellsI,List.flatMap_cons,List.length_append,List.length_cons]at ih⊢;rw [ih];simp [IV.cells];omega
theorem cells_at {xs:List IV} {k:Nat} {x:IV} (h:xs[k]? =some x):((cellsI xs).drop (k*3)).take 3= [.bool x.l,.slice x.ab x.nb x.cb,.slice x.ai x.ni x.ci]:=by
 induction xs generalizing k with
 |nil=>simp at h
 |cons y t ih=>
  cases k with
  |zero=>simp at h;subst h;simp [cellsI,IV.cells]
  |succ k=>
   have:=ih (k:=k) (by simpa using h)
   rw [←this]
   have e:cellsI (y::t)=y.cells++cellsI t:=by simp [cellsI]
   have hl:y.cells.length=3:=rfl
   rw [e,show(k+1)*3=y.cells.length+k*3 from by rw [hl];omega,List.drop_append,List.drop_eq_nil_of_le (by omega),List.nil_append,Nat.add_sub_cancel_left]
mutual
/-- The item's values read so in N. -/
def ItN (N:Heaplet):It→IV→Prop
 |.mk l bs its,x=>x.l=l∧RSl N 1 x.ab x.nb x.cb (u8s bs)∧ ∃xs,RSl N 3 x.ai x.ni x.ci (cellsI xs)∧ItsN N its xs
def ItsN (N:Heaplet):List It→List IV→Prop
 | [],xs=>xs= []
 |t::ts,xs=> ∃x r,xs=x::r∧ItN N t x∧ItsN N ts r
end
mutual
theorem ItN.le {N M:Heaplet} (hl:N.le M): ∀ {t:It} {x:IV},ItN N t x→ItN M t x
 |.mk l bs its,x,h=>by
  simp only [ItN]at h⊢
  obtain⟨h1,h2,xs,h3,h4⟩:=h
  exact⟨h1,h2.le hl,xs,h3.le hl,ItsN.le hl h4⟩
theorem ItsN.le {N M:Heaplet} (hl:N.le M): ∀ {ts:List It} {xs:List IV},ItsN N ts xs→ItsN M ts xs
 | [],xs,h=>h
 |t::ts,xs,h=>by
  simp only [ItsN]at h⊢
  obtain⟨x,r,e,h1,h2⟩:=h
  exact⟨x,r,e,ItN.le hl h1,ItsN.le hl h2⟩
end
theorem ItsN.length {N:Heaplet} : ∀ {ts:List It} {xs:List IV},ItsN N ts xs→xs.length=ts.length
 | [],xs,h=>by simp only [ItsN]at h;subst h;rfl
 |t::ts,xs,h=>by
  simp only [ItsN]at h
  obtain⟨x,r,rfl,_,h2⟩:=h
  simp [h2.length]
theorem ItsN.get {N:Heaplet} : ∀ {ts:List It} {xs:List IV} {k:Nat} {t:It},ItsN N ts xs→ts[k]? =some t→ ∃x,xs[k]? =some x∧ItN N t x
 | [],xs,k,t,_,h=>by simp at h
 |t'::ts,xs,0,t,h,hk=>by
  simp only [ItsN]at h
  obtain⟨x,r,rfl,h1,_⟩:=h
  simp at hk;subst hk
  exact⟨x,rfl,h1⟩
 |t'::ts,xs,k+1,t,h,hk=>by
  simp only [ItsN]at h
  obtain⟨x,r,rfl,_,h2⟩:=h
  obtain⟨y,hy,hi⟩:=h2.get (k:=k) (by simpa using hk)
  exact⟨y,by simpa using hy,hi⟩
theorem ItsN.snoc {N:Heaplet} : ∀ {ts:List It} {xs:List IV} {t:It} {x:IV},ItsN N ts xs→ItN N t x→ItsN N (ts++ [t]) (xs++ [x])
 | [],xs,t,x,h,hi=>by simp only [ItsN]at h;subst h;exact⟨x,[],rfl,hi,rfl⟩
 |t'::ts,xs,t,x,h,hi=>by
  simp only [ItsN]at h
  obtain⟨y,r,rfl,h1,h2⟩:=h
  exact⟨y,r++ [x],rfl,h1,h2.snoc hi⟩
theorem ItN.mk {N:Heaplet} {l:Bool} {bs:List UInt8} {its:List It} {ab ai:Option Addr} {nb cb ni ci:Nat} {xs:List IV} (h1:RSl N 1 ab nb cb (u8s bs)) (h2:RSl N 3 ai ni ci (cellsI xs)) (h3:ItsN N its xs):ItN N (.mk l bs its) ⟨l,ab,nb,cb,ai,ni,ci⟩:=⟨rfl,h1,xs,h2,h3⟩
end Go.Proofs.Ytljacjjeinmfnaa
/- Plain law: the item that bytes tell. No condition. -/
namespace Go.Proofs.Ytljacjjeinmfnaa
def exMap {α:Type} (f:List α→List α):Except Nat (List α)→Except Nat (List α)
 |.ok l=>.ok (f l)
 |.error e=>.error e
/-- Items one behind the other. -/
def itemsF (dec:List UInt8→Except Nat (It×List UInt8)):Nat→List UInt8→Except Nat (List It)
 |_,[]=>.ok []
 |0,_::_=>.error 2
 |f+1,c::b=>match dec (c::b)with
  |.error e=>.error e
  |.ok (t,q)=>exMap (t:: ·) (itemsF dec f q)
def itF (dec:List UInt8→Except Nat (It×List UInt8)) (b:List UInt8):Except Nat (List It):=itemsF dec b.length b
/-- The first item and what is behind it, or the error's number; k more lists may be nested. -/
def decF:Nat→List UInt8→Except Nat (It×List UInt8)
 |0,b=>match cutF b with
  |none=>.error 2
  |some (false,p,r)=>.ok (.mk false p [],r)
  |some (true,_,_)=>.error 7
 |k+1,b=>match cutF b with
  |none=>.error 2
  |some (false,p,r)=>.ok (.mk false p [],r)
  |some (true,p,r)=>match itF (decF k) p with
   |.error e=>.error e
   |.ok its=>.ok (.mk true [] its,r)
theorem cutAt_len {b:List UInt8} {i n:Nat} (hi:i≤b.length) {l:Bool} {p r:List UInt8} (h:cutAt b i n=some (l,p,r)):i+p.length+r.length=b.length:=by
 unfold cutAt at h
 split at h
 ·cases h
 ·rename_i h1
  split at h
  ·cases h;rw [List.length_take,List.length_drop,List.length_drop];omega
  ·split at h
   ·cases h
   ·cases h;rw [List.length_take,List.length_drop,List.length_drop];omega
theorem cutF_len {b:List UInt8} {l:Bool} {p r:List UInt8} (h:cutF b=some (l,p,r)):p.length≤b.length∧r.length<b.length:=by
 unfold cutF at h
 split at h
 ·cases h
 ·rename_i h0
  split at h
  ·cases h;rw [List.length_take,List.length_drop];omega
  ·split at h
   ·have:=cutAt_len (by omega) h;omega
   ·rename_i h55
    split at h
    ·cases h
    ·rename_i h2
     split at h
     ·cases h
     ·have:=cutAt_len (by omega) h;omega
theorem decF_lt {k:Nat} {b q:List UInt8} {t:It} (h:decF k b=.ok (t,q)):q.length<b.length:=by
 cases k with
 |zero=>
  unfold decF at h
  split at h
  ·cases h
  ·rename_i hc;cases h;exact(cutF_len hc).2
  ·cases h
 |succ k=>
  unfold decF at h
  split at h
  ·cases h
  ·rename_i hc;cases h;exact(cutF_len hc).2
  ·rename_i hc
   split at h
   ·cases h
   ·cases h;exact(cutF_len hc).2
theorem itemsF_fuel {dec:List UInt8→Except Nat (It×List UInt8)} (hd: ∀b t q,dec b=.ok (t,q)→q.length<b.length): ∀(f g:Nat) (b:List UInt8),b.length≤f→b.length≤g→itemsF dec f b=itemsF dec g b:=by
 intro f
 induction f with
 |zero=>
  intro g b hf hg
  cases b with
  |nil=>cases g<;>rfl
  |cons c b=>simp at hf
 |succ f ih=>
  intro g b hf hg
  cases b with
  |nil=>cases g<;>rfl
  |cons c b=>
   cases g with
   |zero=>simp at hg
   |succ g=>
    simp only [itemsF]
    cases hc:dec (c::b)with
    |error e=>rfl
    |ok tq=>
     obtain⟨t,q⟩:=tq
     have:=hd _ _ _ hc
     simp only [List.length_cons]at this hf hg
     simp only
     rw [ih g q (by omega) (by omega)]
theorem itF_nil (dec:List UInt8→Except Nat (It×List UInt8)):itF dec []=.ok []:=rfl
theorem itF_error {dec:List UInt8→Except Nat (It×List UInt8)} {b:List UInt8} {e:Nat} (h0:0<b.length) (h:dec b=.error e):itF dec b=.error e:=by
 cases b with
 |nil=>simp at h0
 |cons c b=>unfold itF;simp only [List.length_cons,itemsF,h]
theorem itF_ok {dec:List UInt8→Except Nat (It×List UInt8)} (hd: ∀b t q,dec b=.ok (t,q)→q.length<b.length) {b q:List UInt8} {t:It} (h0:0<b.length) (h:dec b=.ok (t,q)):itF dec b=exMap (t:: ·) (itF dec q):=by
 cases b with
 |nil=>simp at h0
 |cons c b=>
  have:=hd _ _ _ h
  simp only [List.length_cons]at this
  unfold itF
  simp only [List.length_cons,itemsF,h]
  rw [itemsF_fuel hd b.length q.length q (by omega) (Nat.le_refl _)]
theorem exMap_map {α:Type} (f g:List α→List α) (r:Except Nat (List α)):exMap f (exMap g r)=exMap (fun l=>f (g l)) r:=by cases r<;>rfl
end Go.Proofs.Ytljacjjeinmfnaa
/- rlp.decode, rlp.Decode read the item that bytes tell. No condition but that they are not longer than a machine holds. -/
namespace Go.Proofs.Ytljacjjeinmfnaa
open Go Go.RowKit
set_option maxRecDepth 100000
/-- What decode tells. -/
def DecP (ao:Option Addr) (n cap:Nat) (b:List UInt8) (r:Except Nat (It×List UInt8)) (v:Value) (L:List Heaplet):Prop:=
 (∃t q M, ∃x:IV, ∃aq cq,r=.ok (t,q)∧v=.tuple #[.agg #[.bool x.l,.slice x.ab x.nb x.cb,.slice x.ai x.ni x.ci],.slice aq q.length cq,.int .i64 0]∧L= [M]∧ItN M t x∧ ∀N,RSl N 1 ao n cap (u8s b)→RSl N 1 aq q.length cq (u8s q))∨
 (∃e:Nat,r=.error e∧v=.tuple #[.agg #[.bool false,.slice none 0 0,.slice none 0 0],.slice none 0 0,.int .i64 (e:Int)]∧L= []∧e≠0)
theorem cut_none {N:Heaplet} {ao:Option Addr} {n cap:Nat} {b:List UInt8} (h:RSl N 1 ao n cap (u8s b)) (hn:n≤1099511627776) (hc:cutF b=none):
 Fn Try.prog 124 #[.slice ao n cap] [] [N] (fun v L=>v=.tuple #[.nilIface,.slice none 0 0]∧L= []):=
 (cut_f h hn).mono fun v L ⟨h1,h2⟩=>⟨by have:=h2 N h;rw [hc]at this;exact this,h1⟩
theorem cut_some {N:Heaplet} {ao:Option Addr} {n cap:Nat} {b p q:List UInt8} {l:Bool} (h:RSl N 1 ao n cap (u8s b)) (hn:n≤1099511627776) (hc:cutF b=some (l,p,q)):
 Fn Try.prog 124 #[.slice ao n cap] [] [N] (fun v L=> ∃a1 c1 a2 c2,v=.tuple #[.iface (if l then 186 else 184) (.slice a1 p.length c1),.slice a2 q.length c2]∧L= []∧RSl N 1 a1 p.length c1 (u8s p)∧ ∀M,RSl M 1 ao n cap (u8s b)→RSl M 1 a2 q.length c2 (u8s q)):=
 (cut_f h hn).mono fun v L ⟨h1,h2⟩=>by
  have h3:=h2 N h
  rw [hc]at h3
  obtain⟨a1,c1,a2,c2,rfl,h4,h5⟩:=h3
  refine⟨a1,c1,a2,c2,rfl,h1,h4,fun M hM=>?_⟩
  have h6:=h2 M hM
  rw [hc]at h6
  obtain⟨_,_,a2',c2',e,_,h7⟩:=h6
  simp only [Value.tuple.injEq,List.toArray_inj,Array.mk.injEq,List.cons.injEq,Value.iface.injEq,Value.slice.injEq,true_and,and_true]at e
  obtain⟨_,rfl,rfl⟩:=e
  exact h7
end Go.Proofs.Ytljacjjeinmfnaa
