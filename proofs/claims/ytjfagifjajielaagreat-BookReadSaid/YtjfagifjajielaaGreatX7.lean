/- Several texts in one: see the remarks ahead of each part. No condition but those told there. -/
import Derived.Test.YtjfagifjajielaaGreatX1
import Derived.Test.YtjfagifjajielaaGreatX5
import Derived.Test.YtjfagifjajielaaGreatLen64
import Derived.Test.YtjfagifjajielaaGreatX6
import Derived.Test.YtjfagifjajielaaGreatX2
import Derived.Test.YtjfagifjajielaaGreatX4
set_option linter.unusedSimpArgs false
set_option linter.unusedVariables false
namespace Go.Proofs.YtjfagifjajielaaGreat
open Go Go.RowKit
theorem Fn.of_same {P:Program} {f:FuncId} {args:Array Value} {v:Value} (h: ∀w,Calls P f args w fun e w'=>e=.returned v∧w'=w):Fn P f args [] [] (fun u L=>u=v∧L= []):=fun E w R hw _=>
 (h w).mono fun _ _ ⟨he,hw'⟩=>⟨v,[],he,⟨rfl,rfl⟩,by rw [hw'];exact hw⟩
theorem Len64_f (x:UInt64):Fn Tryz.prog 183 #[.int .u64 (x.toNat:Int)] [] [] (fun u L=>u=.int .i64 (bitLen x.toNat:Nat)∧L= []):=by
 have h:=x.toNat_lt
 have e:Lib.bitLen x.toNat=bitLen x.toNat:=libBitLen_eq (by omega)
 refine Fn.of_same fun w=>(Len64_i (x.toNat:Int) w (by omega) (by omega)).mono ?_
 rintro e1 w' ⟨rfl,rfl⟩
 rw [Int.toNat_natCast,e]
 exact⟨rfl,rfl⟩
theorem bitLen64 (x:UInt64):bitLen x.toNat≤64:=bitLen_le.2 x.toNat_lt
theorem Bits_f {N:Heaplet} {ao:Option Addr} {n cap:Nat} {l:List UInt64} (h:RSl N 1 ao n cap (u64s l)) (hn:n≤17592186044416):
 Fn Tryz.prog 167 #[.slice ao n cap] [] [N] (fun v L=>v=.int .i64 (bitLen (v64 l):Nat)∧L= []):=by
 have hlen:=h.len64
 have hcap:=h.cap63
 refine Fn.enter (vs:= [.slice ao n cap]) Tryz.func167 U U U ?_
 intro E R hR
 have h:=h.le (hR N (by simp))
 have e0:(limbsOf (v64 l)).length=(bitLen (v64 l)+63)/64:=length_limbsOf _
 change At _ _ E [R] _
 refine aC fun _ s_1=>aA (aR U U (aB (s_1 (aC fun _ s_2=>aA (aH U U (bD bU (.cons U .nil) (Trim_f h) Tryz.func139 U U (by simp) U ?_))))))
 rintro _ _ ⟨rfl,rfl,e1,e2⟩
 show At _ _ _ [R] _
 have h2:=h.take (Nat.le_refl _) (Nat.le_trans e2 hcap.1) e2
 rw [Nat.mul_one,u64s_takeR,e1]at h2
 have hl2:=h2.len64
 refine aR U U (aB (s_2 (aC fun _ s_3=>aC fun _ s_4=>aA (aH U U (cF aE se200 U U (dF aE U U U (aB (s_4 (aQ U (fun c7=>?_) (fun c7=>?_))))))))))
 ·refine aC fun _ s_5=>aA (aR U U (aB (s_5 (a0 (aS ((cI (L1:= []) U (.tmp U .nil) (.refl _) aJ ?_)))))))
  exact⟨by rw [show bitLen (v64 l)=0 by omega];rfl,rfl⟩
 refine aT (aI (s_3 (aC fun _ s_6=>aA (aH U U (cF aE se200 U U (op_subI aE U U (by omega) (by omega) U (op_mulI aE U U (by omega) (by omega) U (aH U U (aH U U (cF aE se200 U U (op_subI aE U U (by omega) (by omega) U (cZ aE se200 U U (by assumption) (show _=((((limbsOf (v64 l)).length- 1:Nat)):Int)from by omega) (by omega) U ?_))))))))))))
 refine cO aE sc24 U (by assumption) (by first|exact get8 (by omega)|exact get64 (by omega)|exact get32 (by omega)) (by simp) U ?_
 refine bD bU (.cons U .nil) (Len64_f _) Tryz.func183 U U (by simp) U ?_
 rintro _ _ ⟨rfl,rfl⟩
 show At _ _ _ [R] _
 have hb:=bitLen64 ((limbsOf (v64 l)).getD ((limbsOf (v64 l)).length- 1) 0)
 refine cU aE U U (by omega) (by omega) U (aR U U (aB (s_6 (a0 ((cI (L1:= []) U (.tmp U .nil) (.refl _) aJ ?_))))))
 have ht:=limbsOf_top' (getD_some (l:=limbsOf (v64 l)) (j:=(limbsOf (v64 l)).length- 1) (z:=0) (by omega))
 exact⟨congrArg (Value.int .i64) (by omega),rfl⟩
theorem byte_at {l:List UInt64} {i:Nat} (h:i/8<l.length):UInt8.ofNat (shr64 (l.getD (i/8) 0) (i % 8*8)).toNat=UInt8.ofNat (v64 l/256^i):=by
 rw [←byte_of_limb h,shr64,UInt64.toNat_ofNat',Nat.mod_eq_of_lt (Nat.lt_of_le_of_lt (Nat.div_le_self _ _) (UInt64.toNat_lt _)),List.getD_eq_getElem?_getD,List.getElem?_eq_getElem h]
 rfl
theorem Bytes_f {N:Heaplet} {ao:Option Addr} {n cap:Nat} {l:List UInt64} (h:RSl N 1 ao n cap (u64s l)) (hn:n≤17592186044416):
 Fn Tryz.prog 174 #[.slice ao n cap] [] [N] (fun v L=> ∃M a,v=.slice a (bytesOf (v64 l)).length (bytesOf (v64 l)).length∧L= [M]∧Row M 5 1 a (bytesOf (v64 l)).length (bytesOf (v64 l)).length (u8s (bytesOf (v64 l)))):=by
 have hlen:=h.len64
 have hcap:=h.cap63
 have hb:bitLen (v64 l)≤64*n:=bitLen_le.2 (by rw [←hlen];exact v64_lt l)
 have hm:(bytesOf (v64 l)).length=(bitLen (v64 l)+7)/8:=length_bytesOf _
 have hB:bytesOf (v64 l)=bytesN (bytesOf (v64 l)).length (v64 l):=by rw [hm];rfl
 generalize (bytesOf (v64 l)).length=m at hm hB⊢
 refine Fn.enter (vs:= [.slice ao n cap]) Tryz.func174 U U U ?_
 intro E R hR
 have h:=h.le (hR N (by simp))
 change At _ _ E [R] _
 refine aC fun _ s_1=>aA (aR U U (aB (s_1 (aC fun _ s_2=>aA (aH U U (bD bU (.cons U .nil) (Bits_f h hn) Tryz.func167 U U (by simp) U ?_))))))
 rintro _ _ ⟨rfl,rfl⟩
 show At _ _ _ [R] _
 refine cU aE U U (by omega) (by omega) U (op_quoI aE U U (by omega) (by omega) (by omega) U (aR U U (aB (s_2 (aC fun _ s_3=>aA (aH U U ?_))))))
 refine op_make bU Tryz.underlying22 te5 U U (show _=(((m:Nat)):Int)from by omega) (show _=(((m:Nat)):Int)from by omega) (by omega) (by unfold maxLen;omega) U (fun N12 a12 r12=>?_)
 rw [made_one _ _ rfl,zero_u8s]at r12
 have s12:=r12.rsl
 refine aR U U (aB (s_3 (aC fun _ s_4=>aC fun _ s_5=>aA (aH U U (cF aE se22 U U (aH U U (aB (s_5 (bZ ?_)))))))))
 refine At.loop (fun fr_ hp_ ms_=> ∃(k:Nat) (Nq:Heaplet),fr_= [(0,.slice ao n cap),(3,.int .i64 (m:Int)),(4,.slice a12 m m),(14,.int .i64 (m:Int)),(15,.int .i64 (k:Int))]∧hp_= [Nq,R]∧m- k=ms_∧(k≤m)∧(Row Nq 5 1 a12 m m (u8s (bytesSt m (v64 l) k)))) ?_ aJ ⟨0,N12,rfl,rfl,rfl,by omega,by rw [bytesSt_zero];exact r12⟩ ?_
 ·repeat first|apply cW|exact .nil|exact lkI rfl (by omega)|rfl
 rintro _ _ _ ⟨k,Nq,rfl,rfl,rfl,hk,rq⟩
 have sq:=rq.rsl
 have hlq:=sq.len8
 refine aC fun _ s_6=>aA (op_lss aE U U U (aB (s_6 (aC fun _ s_7=>aQ U (fun c16=>?_) (fun c16=>?_)))))
 ·refine aT (aI (s_7 (aC fun _ s_8=>bZ (aC fun _ s_9=>aA (aH U U (aR U U (aB (s_9 (aC fun _ s_10=>aA (aH U U (op_subI aE U U (by omega) (by omega) U (aH U U (op_subI aE U U (by omega) (by omega) U (aR U U (aB (s_10 (aA (aH U U (aH U U (aH U U (aH U U (op_quoI aE U U (by omega) (by omega) (by omega) U (cZ aE se200 U U (by assumption) (show _=((((m- 1- k)/8:Nat)):Int)from by omega) (by omega) U ?_)))))))))))))))))))))))
  refine cO aE sc24 U (by assumption) (by first|exact get8 (by omega)|exact get64 (by omega)|exact get32 (by omega)) (by simp) U ?_
  refine aH U U (op_rem aE U U (by omega) (by omega) U (op_mulI aE U U (by omega) (by omega) U (op_shrU aE U U (show _=((((m- 1- k) % 8*8:Nat)):Int)from by omega) U ?_)))
  refine op_conv8 aE (und_some Tryz.underlying24) Tryz.underlying5 U (by first|rfl|exact(Int.toNat_of_nonneg (by omega)).symm) U ?_
  refine cZ aE se22 U U (by assumption) (show _=(((k:Nat)):Int)from by omega) (by omega) U ?_
  refine op_storeE cL sz5 U U U U U rq (by simp<;>omega) (by simp) dB (fun Nq rq=>?_)
  simp only [setL]at rq
  have sq:=rq.rsl
  refine cX (cS (aI (s_8 (aA (cU aE U U (by omega) (by omega) U (aH U U (aB ?_)))))))
  refine At.back ?_ aJ ⟨k+1,Nq,rfl,rfl,rfl,by omega,by rw [bytesSt_succ (by omega), ←byte_at (by omega), ←set_u8s];exact rq⟩ ?_
  ·repeat first|apply cW|exact .nil|exact lkI rfl (by omega)|rfl
  ·omega
 refine At.exit (bB (bB (dE (aI (s_4 (aC fun _ s_11=>aA (aH U U (aR U U (aB (s_11 (a0 ((cI (L1:= [Nq]) U (.tmp U .nil) (.refl _) aJ ?_)))))))))))))
 obtain rfl:k=m:=by omega
 rw [bytesSt_all, ←hB]at rq
 exact⟨Nq,a12,rfl,rfl,rq⟩
theorem bytesOf_le {n k:Nat} (h:n<256^k):(bytesOf n).length≤k:=by rw [length_bytesOf];exact byteLen_le.2 h
theorem head_f (b n:Nat) (hb:b≤192) (hn:n≤1099511627776):
 Fn Tryz.prog 153 #[.int .i64 (b:Int),.int .i64 (n:Int)] [] [] (fun v L=> ∃M a cap,v=.slice a (rlpHead b n).length cap∧L= [M]∧Row M 5 1 a (rlpHead b n).length cap (u8s (rlpHead b n))):=by
 have h8:=bytesOf_le (n:=n) (k:=8) (by omega)
 refine Fn.enter (vs:= [.int .i64 (b:Int),.int .i64 (n:Int)]) Tryz.func153 U U U ?_
 intro E R hR
 change At _ _ E [R] _
 refine aC fun _ s_1=>aA (aR U U (aB (s_1 (aC fun _ s_2=>aC fun _ s_3=>aA (aH U U (op_leq aE U U U (aB (s_3 (aQ U (fun c7=>?_) (fun c7=>?_))))))))))
 ·refine aC fun _ s_4=>aA (aH U U (aH U U (cU aE U U (by omega) (by omega) U (op_conv8 aE (und_some Tryz.underlying3) Tryz.underlying5 U (show _=(((b+n:Nat)):Int)from by omega) U ?_))))
  refine op_lit bU Tryz.underlying22 ze5 sz5 (.cons U .nil) U U (by simp [Value.cells]) U U U (fun N12 a12 r12=>?_)
  simp only [flatV,List.flatMap_cons,List.flatMap_nil,Value.cells,List.append_nil,List.cons_append,List.nil_append]at r12
  have s12:=r12.rsl
  refine aR U U (aB (s_4 (a0 (aS ((cI (L1:= [N12]) U (.tmp U .nil) (.refl _) aJ ?_))))))
  have e:rlpHead b n= [UInt8.ofNat (b+n)]:=by rw [rlpHead,if_pos (by omega)]
  rw [e]
  exact⟨N12,a12,1,rfl,rfl,r12⟩
 refine aT (aI (s_2 (aC fun _ s_5=>aA (aH U U (op_conv64 aE (und_some Tryz.underlying3) Tryz.underlying24 U (show _=(((n:Nat)):Int)from by omega) U ?_)))))
 refine op_lit bU Tryz.underlying200 ze24 sz24 (.cons U .nil) U U (by simp [Value.cells]) U U U (fun N15 a15 r15=>?_)
 simp only [flatV,List.flatMap_cons,List.flatMap_nil,Value.cells,List.append_nil,List.cons_append,List.nil_append]at r15
 have s15:=r15.rsl
 refine bD bU (.cons U .nil) (Bytes_f (l:= [UInt64.ofNat n]) s15 (by decide)) Tryz.func174 U U (by simp) U ?_
 rintro _ _ ⟨M16,a16,rfl,rfl,r16⟩
 show At _ _ _ [M16,N15,R] _
 rw [v64_one n (by omega)]at r16⊢
 have s16:=r16.rsl
 refine aR U U (aB (s_5 (aC fun _ s_6=>aA (aH U U (cU aE U U (by omega) (by omega) U (aH U U (cF aE se22 U U (cU aE U U (by omega) (by omega) U (op_conv8 aE (und_some Tryz.underlying3) Tryz.underlying5 U (show _=(((b+55+(bytesOf n).length:Nat)):Int)from by omega) U ?_)))))))))
 refine op_lit bU Tryz.underlying22 ze5 sz5 (.cons U .nil) U U (by simp [Value.cells]) U U U (fun N23 a23 r23=>?_)
 simp only [flatV,List.flatMap_cons,List.flatMap_nil,Value.cells,List.append_nil,List.cons_append,List.nil_append]at r23
 have s23:=r23.rsl
 refine aH U U ?_
 refine op_append cL Tryz.underlying22 Tryz.underlying22 te5 rfl rfl r23 (by assumption) (by simp) (by first|exact one_u8s _|exact one_u64s _|exact one_u32s _|(intro u hu;simp at hu;subst hu;rfl)) (by omega) (by omega) dB rfl (fun N25 a25 p25 r25=>?_)
 have s25:=r25.rsl
 refine aR U U (aB (s_6 (a0 ((bJ (bH (cI (L1:= [N25]) U (.tmp U .nil) (.refl _) aJ ?_)))))))
 have e:rlpHead b n=UInt8.ofNat (b+55+(bytesOf n).length)::bytesOf n:=by rw [rlpHead,if_neg (by omega)]
 rw [e,List.length_cons,Nat.add_comm (bytesOf n).length 1]
 exact⟨N25,a25,p25,rfl,rfl,r25⟩
theorem WFrom_long {N:Heaplet} {ao:Option Addr} {n cap:Nat} {l:List UInt8} (h:RSl N 1 ao n cap (u8s l)) (hn:32<n):
 Fn Tryz.prog 169 #[.slice ao n cap] [] [N] (fun v L=>v=.tuple #[.agg #[.int .u64 0,.int .u64 0,.int .u64 0,.int .u64 0],.bool false]∧L= []):=by
 have hcap:=h.cap63
 refine Fn.enter (vs:= [.slice ao n cap]) Tryz.func169 U U U ?_
 intro E R hR
 change At _ _ E [R] _
 refine aC fun _ s_1=>aA (bK bU ze26 U (fun N2 b2 B2=>?_))
 change Blk N2 b2 _ [.int .u64 0,.int .u64 0,.int .u64 0,.int .u64 0]at B2
 refine aR U U (aB (s_1 (aC fun _ s_2=>aC fun _ s_3=>aA (aH U U (cF aE se22 U U (op_gtr aE U U U (aB (s_3 (aQ U (fun c10=>?_) (fun c10=>?_))))))))))
 rotate_left
 ·exfalso;omega
 refine aC fun _ s_4=>aA (op_buildA (out:= [.int .u64 0,.int .u64 0,.int .u64 0,.int .u64 0]) aE ze26 ae26 .nil U U (aF cL sz26 U U U U U B2 (by simp) dB (fun N2 B2=>?_)))
 simp only [setL,List.set]at B2
 refine aR U U (aB (s_4 (a0 (aS ((bE (L1:= []) U (.cell U (bQ (ds:= [_,_,_,_]) ag26 B2 U U bI) (.tmp U .nil)) U (.cons _ (.refl _)) aJ ?_))))))
 exact⟨rfl,rfl⟩
theorem WFrom_f {N:Heaplet} {ao:Option Addr} {n cap:Nat} {l:List UInt8} (h:RSl N 1 ao n cap (u8s l)) (hn:n≤32):
 Fn Tryz.prog 169 #[.slice ao n cap] [] [N] (fun v L=> ∃a b c d:UInt64,v=.tuple #[.agg #[.int .u64 (a.toNat:Int),.int .u64 (b.toNat:Int),.int .u64 (c.toNat:Int),.int .u64 (d.toNat:Int)],.bool true]∧L= []∧v64 [a,b,c,d]=be l):=by
 have hlen:=h.len8
 have hcap:=h.cap63
 refine Fn.enter (vs:= [.slice ao n cap]) Tryz.func169 U U U ?_
 intro E R hR
 have h:=h.le (hR N (by simp))
 change At _ _ E [R] _
 refine aC fun _ s_1=>aA (bK bU ze26 U (fun N2 b2 B2=>?_))
 change Blk N2 b2 _ [.int .u64 0,.int .u64 0,.int .u64 0,.int .u64 0]at B2
 refine aR U U (aB (s_1 (aC fun _ s_2=>aC fun _ s_3=>aA (aH U U (cF aE se22 U U (op_gtr aE U U U (aB (s_3 (aQ U (fun c10=>?_) (fun c10=>?_))))))))))
 ·exfalso;omega
 refine aT (aI (s_2 (aC fun _ s_4=>aA (bK bU ze26 U (fun N4 b4 B4=>?_)))))
 change Blk N4 b4 _ [.int .u64 0,.int .u64 0,.int .u64 0,.int .u64 0]at B4
 change Blk N4 b4 _ (u64s [0,0,0,0])at B4
 refine aB (s_4 (aC fun _ s_5=>aC fun _ s_6=>aA (aH U U (cF aE se22 U U (aH U U (aB (s_6 (bZ (aM (bO (aM ?_)))))))))))
 refine At.loop (fun fr_ hp_ ms_=> ∃(k:Nat) (m:List UInt64) (N4:Heaplet),fr_= [(0,.slice ao n cap),(2,.pointer (some ⟨b2,0,none⟩)),(4,.pointer (some ⟨b4,0,none⟩)),(12,.slice ao n cap),(13,.int .i64 (n:Int)),(14,.int .i64 (k:Int))]∧hp_= [N2,N4,R]∧n- k=ms_∧(k≤n)∧(m.length=4)∧(v64 m=be (l.take k)*256^(l.length- k))∧(Blk N4 b4 26 (u64s m))) ?_ aJ ⟨0,[0,0,0,0],N4,rfl,rfl,rfl,by omega,rfl,by simp [be];rfl,B4⟩ ?_
 ·repeat first|apply cW|exact .nil|exact lkI rfl (by omega)|rfl
 rintro _ _ _ ⟨k,m,N4,rfl,rfl,rfl,hk,hm,hv,B4⟩
 refine aC fun _ s_7=>aA (op_lss aE U U U (aB (s_7 (aC fun _ s_8=>aQ U (fun c15=>?_) (fun c15=>?_)))))
 ·refine aT (aI (s_8 (aC fun _ s_9=>bZ (aC fun _ s_10=>aA (aH U U (cZ aE se22 U U (by assumption) (show _=(((k:Nat)):Int)from by omega) (by omega) U ?_))))))
  refine cO aE sc5 U (by assumption) (by first|exact get8 (by omega)|exact get64 (by omega)|exact get32 (by omega)) (by simp) U ?_
  refine aR U U (aR U U (aB (s_10 (aC fun _ s_11=>aA (aH U U (cF aE se22 U U (op_subI aE U U (by omega) (by omega) U (aH U U (op_subI aE U U (by omega) (by omega) U (aR U U (aB (s_11 (At.drawn [12] [0,1,2,3,4,5,6,7,8,9,10,11,12] (by kernel_rfl) (by kernel_rfl) (aP (bP U U U (by kernel_rfl)) U U (op_quoI (bP U U U (by kernel_rfl)) U U (by omega) (by omega) (by omega) U (dD (bP U U U (by kernel_rfl)) ae26 U U (show _=((((n- 1- k)/8:Nat)):Int)from by omega) (by omega) U ?_))))))))))))))))
  refine aK (bP U U U (by kernel_rfl)) sc24 U B4 (by first|exact get64A (by omega)|rfl) mem1 U ?_
  refine aP (bP U U U (by kernel_rfl)) U U (op_conv64 (bP U U U (by kernel_rfl)) (und_some Tryz.underlying5) Tryz.underlying24 U (by first|rfl|exact(Int.toNat_of_nonneg (by omega)).symm) U ?_)
  refine aP (bP U U U (by kernel_rfl)) U U (op_rem (bP U U U (by kernel_rfl)) U U (by omega) (by omega) U (op_mulI (bP U U U (by kernel_rfl)) U U (by omega) (by omega) U (op_shlU (bP U U U (by kernel_rfl)) U U (show _=((((n- 1- k) % 8*8:Nat)):Int)from by omega) U ?_)))
  refine op_orU (bP U U U (by kernel_rfl)) U U U (dD (bP U U U (by kernel_rfl)) ae26 U U (show _=((((n- 1- k)/8:Nat)):Int)from by omega) (by omega) U ?_)
  refine aF (nxos U U U U) sz24 U U U U U B4 (by simp<;>omega) sel1 (fun N4 B4=>?_)
  rw [set64A]at B4
  refine dK (cS (aI (s_9 (aA (cU aE U U (by omega) (by omega) U (aH U U (aB (aM (bO (aM ?_))))))))))
  refine At.back ?_ aJ ⟨k+1,_,N4,rfl,rfl,rfl,by omega,by simpa using hm,by rw [shl64_of _ (by have:=(l.getD k 0).toNat_lt;omega), ←hlen];exact wfrom_step hm (by omega) (by omega) hv,B4⟩ ?_
  ·repeat first|apply cW|exact .nil|exact lkI rfl (by omega)|rfl
  ·omega
 refine At.exit (bB (bB (dE (aI (s_5 (aC fun _ s_12=>aA ?_))))))
 obtain⟨a,b,c,d,rfl⟩:=four hm
 have hfin:v64 [a,b,c,d]=be l:=by
  rw [hv,show k=l.length by omega,List.take_length,Nat.sub_self,Nat.pow_zero,Nat.mul_one]
 change Blk N4 b4 _ [.int .u64 (a.toNat:Int),.int .u64 (b.toNat:Int),.int .u64 (c.toNat:Int),.int .u64 (d.toNat:Int)]at B4
 refine aV (ds:= [_,_,_,_]) aE ag26 U B4 U U mem1 U (aF cL sz26 U U U U U B2 (by simp) dB (fun N2 B2=>?_))
 simp only [setL,List.set]at B2
 refine aR U U (aB (s_12 (a0 ((bH (bE (L1:= []) U (.cell U (bQ (ds:= [_,_,_,_]) ag26 B2 U U bI) (.tmp U .nil)) U (.cons _ (.refl _)) aJ ?_))))))
 exact⟨a,b,c,d,rfl,rfl,hfin⟩
theorem WBits_f (a b c d:UInt64):Fn Tryz.prog 173 #[.agg #[.int .u64 (a.toNat:Int),.int .u64 (b.toNat:Int),.int .u64 (c.toNat:Int),.int .u64 (d.toNat:Int)]] [] [] (fun v L=>v=.int .i64 (bitLen (v64 [a,b,c,d]):Nat)∧L= []):=by
 obtain⟨m,hm⟩: ∃m,m= [a,b,c,d]:=⟨_,rfl⟩
 have hm4:m.length=4:=by rw [hm];rfl
 refine Fn.enter (vs:= [.agg #[.int .u64 (a.toNat:Int),.int .u64 (b.toNat:Int),.int .u64 (c.toNat:Int),.int .u64 (d.toNat:Int)]]) Tryz.func173 U U U ?_
 intro E R hR
 change At _ _ E [R] _
 refine aC fun _ s_1=>aA (op_box bU U U U (fun N1 b1 B1=>?_))
 change Blk N1 b1 _ (u64s [a,b,c,d])at B1
 rw [←hm]at B1⊢
 refine aR U U (aB (s_1 (aC fun _ s_2=>aC fun _ s_3=>aA (aR U U (aB (s_3 (bZ (At.loop (fun fr_ hp_ ms_=> ∃(j:Nat),fr_= [(1,.pointer (some ⟨b1,0,none⟩)),(3,.int .i64 ((j:Int)- 1))]∧hp_= [N1,R]∧j=ms_∧(j≤4)∧(v64 m=v64 (m.take j))) ?_ aJ ⟨4,rfl,rfl,rfl,by omega,by rw [List.take_of_length_le (by omega)]⟩ ?_))))))))
 ·repeat first|apply cW|exact .nil|exact lkI rfl (by omega)|rfl
 rintro _ _ _ ⟨j,rfl,rfl,rfl,hj,hv⟩
 refine aC fun _ s_4=>aC fun _ s_5=>aA (aH U U (op_geq aE U U U (aB (s_5 (aQ U (fun c5=>?_) (fun c5=>?_))))))
 ·refine aT (aI (s_4 (aC fun _ s_6=>bZ (aC fun _ s_7=>aA (aH U U (dD aE ae26 U U (show _=(((j- 1:Nat)):Int)from by omega) (by omega) U ?_))))))
  refine aK aE sc24 U B1 (by first|exact get64A (by omega)|rfl) bI U ?_
  refine dG aE U U U (aB (s_7 (aQ U (fun c11=>?_) (fun c11=>?_))))
  ·refine aC fun _ s_8=>aA (aH U U (op_mulI aE U U (by omega) (by omega) U (aH U U (dD aE ae26 U U (show _=(((j- 1:Nat)):Int)from by omega) (by omega) U ?_))))
   refine aK aE sc24 U B1 (by first|exact get64A (by omega)|rfl) bI U ?_
   refine bD bU (.cons U .nil) (Len64_f (m.getD (j- 1) 0)) Tryz.func183 U U (by simp) U ?_
   rintro _ _ ⟨rfl,rfl⟩
   show At _ _ _ [N1,R] _
   have h64:=bitLen_le.2 (m.getD (j- 1) 0).toNat_lt
   refine cU aE U U (by omega) (by omega) U (aR U U (aB (s_8 (a0 (At.inRet (aS (aS (At.inRet (aS ((cK (cI (L1:= []) U (.tmp U .nil) (.refl _) aJ ?_))))))))))))
   exact⟨by rw [←hm,bits_at (k:=j- 1) (by omega) (by omega) (by rw [show j- 1+1=j by omega];exact hv)];congr 1;omega,rfl⟩
  refine aT (cS (aI (s_6 (aA (aH U U (op_subI aE U U (by omega) (by omega) U (aR U U (aB ?_))))))))
  refine At.back ?_ aJ ⟨j- 1,rfl,rfl,rfl,by omega,v64_take_zero (by omega) (by omega) (by rw [show j- 1+1=j by omega];exact hv)⟩ ?_
  ·repeat first|apply cW|exact .nil|exact lkI rfl (by omega)|rfl
  ·omega
 refine At.exit (bB (bB (dE (aI (s_2 (aC fun _ s_9=>aA (aR U U (aB (s_9 (a0 ((cK (cI (L1:= []) U (.tmp U .nil) (.refl _) aJ ?_)))))))))))))
 exact⟨by rw [←hm,hv,show j=0 by omega];rfl,rfl⟩
theorem nbyte {m:List UInt64} {I K:Nat} (hm:m.length=4) (h1:1≤I) (h2:I≤4) (h3:1≤K) (h4:K≤8):UInt8.ofNat (shr64 (m.getD (I- 1) 0) (8*(K- 1))).toNat=UInt8.ofNat (v64 m/256^(31- (8*(4- I)+(8- K)))):=by
 have hq:(8*(I- 1)+(K- 1))/8<m.length:=by omega
 have e:=byte_of_limb (l:=m) (at_:=8*(I- 1)+(K- 1)) hq
 have e1:(8*(I- 1)+(K- 1))/8=I- 1:=by omega
 have e2:(8*(I- 1)+(K- 1)) % 8*8=8*(K- 1):=by omega
 simp only [e1,e2]at e
 rw [shr64,UInt64.toNat_ofNat',Nat.mod_eq_of_lt (Nat.lt_of_le_of_lt (Nat.div_le_self _ _) (UInt64.toNat_lt _)),List.getD_eq_getElem?_getD,List.getElem?_eq_getElem (by omega),Option.getD_some,e]
 congr 3
 omega
theorem rN_f (a b c d:UInt64):Fn Tryz.prog 98 #[.agg #[.int .u64 (a.toNat:Int),.int .u64 (b.toNat:Int),.int .u64 (c.toNat:Int),.int .u64 (d.toNat:Int)]] [] [] (fun v L=> ∃M p k,v=.slice p (digsOf (v64 [a,b,c,d])).length k∧L= [M]∧RSl M 1 p (digsOf (v64 [a,b,c,d])).length k (u32s (digsOf (v64 [a,b,c,d])))):=by
 obtain⟨m,hm⟩: ∃m,m= [a,b,c,d]:=⟨_,rfl⟩
 have hm4:m.length=4:=by rw [hm];rfl
 have hlt:v64 m<2^256:=by rw [hm];exact v64_four_lt a b c d
 refine Fn.enter (vs:= [.agg #[.int .u64 (a.toNat:Int),.int .u64 (b.toNat:Int),.int .u64 (c.toNat:Int),.int .u64 (d.toNat:Int)]]) Tryz.func98 U U U ?_
 intro E R hR
 change At _ _ E [R] _
 refine aC fun _ s_1=>aA (op_box bU U U U (fun N1 b1 B1=>?_))
 change Blk N1 b1 _ (u64s [a,b,c,d])at B1
 rw [←hm]at B1⊢
 refine aR U U (aB (s_1 (aC fun _ s_2=>aA (aR U U (aB (s_2 (aC fun _ s_3=>aC fun _ s_4=>aA (aR U U (aB (s_4 (bZ (cV (aM (bO (aM (At.loop (fun fr_ hp_ ms_=> ∃(I:Nat) (ap:Option Addr) (np cp:Nat) (Np:Heaplet),fr_= [(1,.pointer (some ⟨b1,0,none⟩)),(3,.slice ap np cp),(4,.int .i64 ((I:Int)- 1))]∧hp_= [N1,Np,R]∧I=ms_∧(I≤4)∧(np=8*(4- I))∧(Row Np 5 1 ap np cp (u8s ((bytesN 32 (v64 m)).take (8*(4- I)))))) ?_ aJ ⟨4,none,0,0,nilH,rfl,rfl,rfl,by omega,by omega,Row.nil _ _ _⟩ ?_))))))))))))))))
 ·repeat first|apply cW|exact .nil|exact lkI rfl (by omega)|rfl
 rintro _ _ _ ⟨I,ap,np,cp,Np,rfl,rfl,rfl,hI,hnp,rp⟩
 refine aC fun _ s_5=>aC fun _ s_6=>aA (aH U U (op_geq aE U U U (aB (s_6 (aQ U (fun c7=>?_) (fun c7=>?_))))))
 ·refine aT (aI (s_5 (aC fun _ s_7=>bZ (aC fun _ s_8=>aA (aR U U (aB (s_8 (bZ ?_))))))))
  refine At.loop (fun fr_ hp_ ms_=> ∃(K:Nat) (aq:Option Addr) (nq cq:Nat) (Nq:Heaplet),fr_= [(1,.pointer (some ⟨b1,0,none⟩)),(3,.slice aq nq cq),(4,.int .i64 ((I:Int)- 1)),(5,.int .i64 ((K:Int)- 1))]∧hp_= [N1,Nq,R]∧K=ms_∧(K≤8)∧(nq=8*(4- I)+(8- K))∧(Row Nq 5 1 aq nq cq (u8s ((bytesN 32 (v64 m)).take (8*(4- I)+(8- K)))))) ?_ aJ ⟨8,ap,np,cp,Np,rfl,rfl,rfl,by omega,by omega,by rw [Nat.sub_self,Nat.add_zero];exact rp⟩ ?_
  ·repeat first|apply cW|exact .nil|exact lkI rfl (by omega)|rfl
  rintro _ _ _ ⟨K,aq,nq,cq,Nq,rfl,rfl,rfl,hK,hnq,rq⟩
  refine aC fun _ s_9=>aC fun _ s_10=>aA (aH U U (op_geq aE U U U (aB (s_10 (aQ U (fun c11=>?_) (fun c11=>?_))))))
  ·refine aT (aI (s_9 (aC fun _ s_11=>bZ (aA (aH U U (aH U U (dD aE ae26 U U (show _=(((I- 1:Nat)):Int)from by omega) (by omega) U ?_)))))))
   refine aK aE sc24 U B1 (by first|exact get64A (by omega)|rfl) bI U ?_
   refine aH U U (op_mulI aE U U (by omega) (by omega) U (op_shrU aE U U (show _=(((8*(K- 1):Nat)):Int)from by omega) U ?_))
   refine op_conv8 aE (und_some Tryz.underlying24) Tryz.underlying5 U (by first|rfl|exact(Int.toNat_of_nonneg (by omega)).symm) U ?_
   refine op_lit bU Tryz.underlying22 ze5 sz5 (.cons U .nil) U U (by simp [Value.cells]) U U U (fun N22 a22 r22=>?_)
   simp only [flatV,List.flatMap_cons,List.flatMap_nil,Value.cells,List.append_nil,List.cons_append,List.nil_append]at r22
   have s22:=r22.rsl
   refine op_append cL Tryz.underlying22 Tryz.underlying22 te5 rfl rfl rq (by assumption) (by simp) (by first|exact one_u8s _|exact one_u64s _|exact one_u32s _|(intro u hu;simp at hu;subst hu;rfl)) (by omega) (by omega) sel2 rfl (fun N23 a23 p23 r23=>?_)
   have s23:=r23.rsl
   refine aR U U (cX (cS (aI (s_11 (aA (aH U U (op_subI aE U U (by omega) (by omega) U (aR U U (aB (bH (aM (bO (aM ?_)))))))))))))
   refine At.back ?_ aJ ⟨K- 1,a23,nq+1,p23,N23,rfl,rfl,rfl,by omega,by omega,by rw [show 8*(4- I)+(8- (K- 1))=(8*(4- I)+(8- K))+1 by omega,bytesN_take_succ (by omega),u8s,List.map_append, ←nbyte hm4 (by omega) (by omega) (by omega) (by omega)];exact r23⟩ ?_
   ·repeat first|apply cW|exact .nil|exact lkI rfl (by omega)|rfl
   ·omega
  refine At.exit (bB (bB (dE (cS (aI (s_7 (aA (aH U U (op_subI aE U U (by omega) (by omega) U (aR U U (aB ?_)))))))))))
  refine At.back ?_ aJ ⟨I- 1,aq,nq,cq,Nq,rfl,rfl,rfl,by omega,by omega,by rw [show 8*(4- (I- 1))=8*(4- I)+(8- K) by omega];exact rq⟩ ?_
  ·repeat first|apply cW|exact .nil|exact lkI rfl (by omega)|rfl
  ·omega
 refine At.exit (bB (bB (dE (aI (s_3 (aC fun _ s_12=>aA (aH U U ?_)))))))
 have sp:RSl Np 1 ap np cp (u8s (bytesN 32 (v64 m))):=by
  have e:=rp.rsl
  rwa [show I=0 by omega,List.take_of_length_le (by simp)]at e
 refine bD bU (.cons U .nil) (rFrom_f sp (by omega)) Tryz.func149 U U (by simp) U ?_
 rintro _ _ ⟨M25,a25,c25,rfl,rfl,s25⟩
 show At _ _ _ [M25,N1,Np,R] _
 refine aR U U (aB (s_12 (a0 ((bJ (bH (cI (L1:= [M25]) U (.tmp U .nil) (.refl _) aJ ?_)))))))
 rw [be_bytes32 hlt]at s25⊢
 rw [←hm]
 exact⟨M25,a25,c25,rfl,rfl,s25⟩
theorem setL_at (vs:List Value): ∀(p cs:List Value),cs.length=vs.length→setL (p++cs) p.length vs=p++vs:=by
 induction vs with
 |nil=>intro p cs h;rw [List.eq_nil_of_length_eq_zero h];rfl
 |cons v t ih=>
  intro p cs h
  match cs,h with
  |c::cs,h=>
   rw [setL]
   have e:(p++c::cs).set p.length v=(p++ [v])++cs:=by simp
   rw [e]
   have:=ih (p++ [v]) cs (by simpa using h)
   rw [List.length_append]at this
   simpa using this
theorem bG {cs vs:List Value} (h:cs.length=vs.length):setL cs 0 vs=vs:=by simpa using setL_at vs [] cs h
theorem wbyte {m:List UInt64} {k:Nat} (hm:m.length=4) (h:k<32):UInt8.ofNat (shr64 (m.getD ((31- k)/8) 0) ((31- k) % 8*8)).toNat=UInt8.ofNat (v64 m/256^(31- k)):=by
 have hq:(31- k)/8<m.length:=by omega
 rw [shr64,UInt64.toNat_ofNat',Nat.mod_eq_of_lt (Nat.lt_of_le_of_lt (Nat.div_le_self _ _) (UInt64.toNat_lt _)),List.getD_eq_getElem?_getD,List.getElem?_eq_getElem hq,Option.getD_some,byte_of_limb hq]
theorem RSl.arr8 {N:Heaplet} {b lo:Nat} {e:TypeId} {L:List UInt8} (h:Blk N b e (u8s L)) (hl:L.length=32) (hlo:lo≤32):RSl N 1 (some (if 32=lo then ⟨b,0,none⟩else ⟨b,0+lo*1,none⟩)) (32- lo) (32- lo) (u8s (L.drop lo)):=by
 refine⟨by simp [u8s];omega,Nat.le_refl _,Nat.le_trans (by omega:32- lo≤32) (by decide),fun h0=>⟨b,lo,by rw [if_neg (by omega),Nat.zero_add,Nat.mul_one],?_⟩⟩
 have e:=h.rng.sub (o:=lo) (ds:=u8s (L.drop lo)) fun i hi=>by
  rw [List.getElem?_eq_getElem (by simp [u8s]at hi⊢;omega)]
  simp [u8s]
 rwa [Nat.zero_add]at e
set_option maxRecDepth 100000 in
theorem WBytes_f (a b c d:UInt64):Fn Tryz.prog 172 #[.agg #[.int .u64 (a.toNat:Int),.int .u64 (b.toNat:Int),.int .u64 (c.toNat:Int),.int .u64 (d.toNat:Int)]] [] [] (fun v L=>v=.agg (u8s (bytesN 32 (v64 [a,b,c,d]))).toArray∧L= []):=by
 obtain⟨m,hm⟩: ∃m,m= [a,b,c,d]:=⟨_,rfl⟩
 have hm4:m.length=4:=by rw [hm];rfl
 refine Fn.enter (vs:= [.agg #[.int .u64 (a.toNat:Int),.int .u64 (b.toNat:Int),.int .u64 (c.toNat:Int),.int .u64 (d.toNat:Int)]]) Tryz.func172 U U U ?_
 intro E R hR
 change At _ _ E [R] _
 refine aC fun _ s_1=>aA (op_box bU U U U (fun N1 b1 B1=>?_))
 change Blk N1 b1 _ (u64s [a,b,c,d])at B1
 rw [←hm]at B1⊢
 refine bK bU ze39 U (fun N2 b2 B2=>?_)
 change Blk N2 b2 _ [.int .u8 0,.int .u8 0,.int .u8 0,.int .u8 0,.int .u8 0,.int .u8 0,.int .u8 0,.int .u8 0,.int .u8 0,.int .u8 0,.int .u8 0,.int .u8 0,.int .u8 0,.int .u8 0,.int .u8 0,.int .u8 0,.int .u8 0,.int .u8 0,.int .u8 0,.int .u8 0,.int .u8 0,.int .u8 0,.int .u8 0,.int .u8 0,.int .u8 0,.int .u8 0,.int .u8 0,.int .u8 0,.int .u8 0,.int .u8 0,.int .u8 0,.int .u8 0]at B2
 refine aB (s_1 (aC fun _ s_2=>aA (bK bU ze39 U (fun N3 b3 B3=>?_))))
 change Blk N3 b3 _ [.int .u8 0,.int .u8 0,.int .u8 0,.int .u8 0,.int .u8 0,.int .u8 0,.int .u8 0,.int .u8 0,.int .u8 0,.int .u8 0,.int .u8 0,.int .u8 0,.int .u8 0,.int .u8 0,.int .u8 0,.int .u8 0,.int .u8 0,.int .u8 0,.int .u8 0,.int .u8 0,.int .u8 0,.int .u8 0,.int .u8 0,.int .u8 0,.int .u8 0,.int .u8 0,.int .u8 0,.int .u8 0,.int .u8 0,.int .u8 0,.int .u8 0,.int .u8 0]at B3
 change Blk N3 b3 _ (u8s (List.replicate 32 0))at B3
 rw [←bytesSt_zero 32 (v64 m)]at B3
 refine aB (s_2 (aC fun _ s_3=>aC fun _ s_4=>aA (aH U U (aB (s_4 (bZ (aN (bO (aM (aN (At.loop (fun fr_ hp_ ms_=> ∃(k:Nat) (N3:Heaplet),fr_= [(1,.pointer (some ⟨b1,0,none⟩)),(2,.pointer (some ⟨b2,0,none⟩)),(3,.pointer (some ⟨b3,0,none⟩)),(6,.int .i64 (k:Int))]∧hp_= [N1,N2,N3,R]∧32- k=ms_∧(k≤32)∧(Blk N3 b3 39 (u8s (bytesSt 32 (v64 m) k)))) ?_ aJ ⟨0,N3,rfl,rfl,rfl,by omega,B3⟩ ?_)))))))))))
 ·repeat first|apply cW|exact .nil|exact lkI rfl (by omega)|rfl
 rintro _ _ _ ⟨k,N3,rfl,rfl,rfl,hk,B3⟩
 have hbl:=length_bytesSt (m:=32) (N:=v64 m) hk
 refine aC fun _ s_5=>aA (op_lss aE U U U (aB (s_5 (aC fun _ s_6=>aQ U (fun c7=>?_) (fun c7=>?_)))))
 ·refine aT (aI (s_6 (aC fun _ s_7=>bZ (aC fun _ s_8=>aA (aH U U (aR U U (aB (s_8 (aC fun _ s_9=>aA (aH U U (op_subI aE U U (by omega) (by omega) U (aR U U (aB (s_9 (aA (aH U U (aH U U (op_quoI aE U U (by omega) (by omega) (by omega) U (dD aE ae26 U U (show _=((((31- k)/8:Nat)):Int)from by omega) (by omega) U ?_)))))))))))))))))))
  refine aK aE sc24 U B1 (by first|exact get64A (by omega)|rfl) bI U ?_
  refine aH U U (op_rem aE U U (by omega) (by omega) U (op_mulI aE U U (by omega) (by omega) U (op_shrU aE U U (show _=((((31- k) % 8*8:Nat)):Int)from by omega) U ?_)))
  refine op_conv8 aE (und_some Tryz.underlying24) Tryz.underlying5 U (by first|rfl|exact(Int.toNat_of_nonneg (by omega)).symm) U ?_
  refine dD aE ae39 U U (show _=(((k:Nat)):Int)from by omega) (by omega) U ?_
  refine aF cL sz5 U U U U U B3 (by simp<;>omega) sel2 (fun N3 B3=>?_)
  rw [set8A]at B3
  refine cX (cS (aI (s_7 (aA (cU aE U U (by omega) (by omega) U (aH U U (aB (aN (bO (aN (aN ?_)))))))))))
  refine At.back ?_ aJ ⟨k+1,N3,rfl,rfl,rfl,by omega,by rw [bytesSt_succ (by omega),show 32- 1- k=31- k by omega, ←wbyte hm4 (by omega)];exact B3⟩ ?_
  ·repeat first|apply cW|exact .nil|exact lkI rfl (by omega)|rfl
  ·omega
 refine At.exit (bB (bB (dE (aI (s_3 (aC fun _ s_10=>aA ?_))))))
 have hk32:k=32:=by omega
 rw [hk32,bytesSt_all]at B3
 refine aV (ds:=u8s (bytesN 32 (v64 m))) aE ag39 U B3 (by first|(rw [List.drop_zero,List.take_of_length_le (by first|(simp;done)|(simp;omega))];done)|rfl) (by first|(simp;done)|(simp;omega)) mem2 U ?_
 refine aF cL sz39 U U U U U B2 (by simp) sel1 (fun N2 B2=>?_)
 rw [bG (by simp)]at B2
 refine aB (s_10 (a0 ((bJ (bH ?_)))))
 refine cI (L1:= []) U (.cell U (bQ (ds:=u8s (bytesN 32 (v64 m))) ag39 B2 (by first|(rw [List.drop_zero,List.take_of_length_le (by first|(simp;done)|(simp;omega))];done)|rfl) (by first|(simp;done)|(simp;omega)) bI) .nil) (.cons _ (.refl _)) aJ ?_
 exact⟨by rw [←hm],rfl⟩
set_option maxRecDepth 100000 in
theorem WShort_f (a b c d:UInt64):Fn Tryz.prog 152 #[.agg #[.int .u64 (a.toNat:Int),.int .u64 (b.toNat:Int),.int .u64 (c.toNat:Int),.int .u64 (d.toNat:Int)]] [] [] (fun v L=> ∃M p k,v=.slice p (bytesOf (v64 [a,b,c,d])).length k∧L= [M]∧Row M 5 1 p (bytesOf (v64 [a,b,c,d])).length k (u8s (bytesOf (v64 [a,b,c,d])))):=by
 have hlt:=v64_four_lt a b c d
 have hbl:=bitLen_le.2 hlt
 have hlen:=length_bytesOf (v64 [a,b,c,d])
 have hdr:=bytes_drop32 hlt
 refine Fn.enter (vs:= [.agg #[.int .u64 (a.toNat:Int),.int .u64 (b.toNat:Int),.int .u64 (c.toNat:Int),.int .u64 (d.toNat:Int)]]) Tryz.func152 U U U ?_
 intro E R hR
 change At _ _ E [R] _
 refine aC fun _ s_1=>aA (op_box bU U U U (fun N1 b1 B1=>aR U U (aB (s_1 (aC fun _ s_2=>aA (aV (ds:= [_,_,_,_]) aE ag26 U B1 U U bI U (bD bU (.cons U .nil) (WBytes_f a b c d) Tryz.func172 U U (by simp) U ?_)))))))
 rintro _ _ ⟨rfl,rfl⟩
 show At _ _ _ [N1,R] _
 refine bK bU ze39 U (fun N3 b3 B3=>?_)
 change Blk N3 b3 _ [.int .u8 0,.int .u8 0,.int .u8 0,.int .u8 0,.int .u8 0,.int .u8 0,.int .u8 0,.int .u8 0,.int .u8 0,.int .u8 0,.int .u8 0,.int .u8 0,.int .u8 0,.int .u8 0,.int .u8 0,.int .u8 0,.int .u8 0,.int .u8 0,.int .u8 0,.int .u8 0,.int .u8 0,.int .u8 0,.int .u8 0,.int .u8 0,.int .u8 0,.int .u8 0,.int .u8 0,.int .u8 0,.int .u8 0,.int .u8 0,.int .u8 0,.int .u8 0]at B3
 refine aF cL sz39 U U U U U B3 (by simp) dB (fun N3 B3=>?_)
 rw [bG (by simp)]at B3
 refine aB (s_2 (aC fun _ s_3=>aA (aV (ds:= [_,_,_,_]) aE ag26 U B1 U U mem1 U (bD bU (.cons U .nil) (WBits_f a b c d) Tryz.func173 U U (by simp) U ?_))))
 rintro _ _ ⟨rfl,rfl⟩
 show At _ _ _ [N3,N1,R] _
 refine cU aE U U (by omega) (by omega) U (op_quoI aE U U (by omega) (by omega) (by omega) U (aR U U (aB (s_3 (aC fun _ s_4=>aA (aH U U (op_subI aE U U (by omega) (by omega) U (op_sliceA aE ae39 U (.some U (show _=(((32- (bitLen (v64 [a,b,c,d])+7)/8:Nat)):Int)from by omega)) .none .none (by omega) (by omega) (by omega) (by simp) U ?_))))))))
 have s13:=RSl.arr8 B3 (by simp) (show 32- (bitLen (v64 [a,b,c,d])+7)/8≤32 by omega)
 rw [hdr]at s13
 refine op_append0 bU Tryz.underlying22 Tryz.underlying22 te5 rfl rfl (by assumption) (by simp) (by first|exact one_u8s _|exact one_u64s _|exact one_u32s _|(intro u hu;simp at hu;subst hu;rfl)) (by omega) (by omega) rfl (fun N14 a14 p14 r14=>?_)
 have s14:=r14.rsl
 refine aR U U (aB (s_4 (a0 ((bJ (bH (cI (L1:= [N14]) U (.tmp U .nil) (.refl _) aJ ?_)))))))
 rw [show 32- (32- (bitLen (v64 [a,b,c,d])+7)/8)=(bytesOf (v64 [a,b,c,d])).length by omega]at r14⊢
 exact⟨N14,a14,p14,rfl,rfl,r14⟩
def cutAt (b:List UInt8) (i n:Nat):Option (Bool×List UInt8×List UInt8):=
 if b.length- i<n then none
 else if 192≤(b.getD 0 0).toNat then some (true,(b.drop i).take n,b.drop (i+n))
 else if n=1∧(b.getD i 0).toNat<128 then none
 else some (false,(b.drop i).take n,b.drop (i+n))
def hdr (b:List UInt8):Nat:=((b.getD 0 0).toNat- 128) % 64
def lng (b:List UInt8):Nat:=be ((b.drop 1).take (hdr b- 54- 1))
def cutF (b:List UInt8):Option (Bool×List UInt8×List UInt8):=
 if b.length=0 then none
 else if (b.getD 0 0).toNat<128 then some (false,b.take 1,b.drop 1)
 else if hdr b≤55 then cutAt b 1 (hdr b)
 else if b.length<hdr b- 54∨(b.getD 1 0).toNat=0 then none
 else if lng b≤55∨b.length<lng b then none
 else cutAt b (hdr b- 54) (lng b)
theorem limbs_one {B:Nat} (h0:0<B) (h:B<2^64):limbsOf B= [UInt64.ofNat B]:=by
 have h1:(bitLen B+63)/64≤1:=limbLen_le.2 (by simpa using h)
 have h2:=bitLen_pos h0
 have h3:(bitLen B+63)/64=1:=by omega
 rw [limbsOf,h3];simp [limbsN]
theorem lng_pos {b:List UInt8} (h1:hdr b- 54≤b.length) (h2:56≤hdr b) (h3:(b.getD 1 0).toNat≠0):0<lng b∧lng b<2^64:=by
 have h63:hdr b<64:=Nat.mod_lt _ (by decide)
 have hl:((b.drop 1).take (hdr b- 54- 1)).length=hdr b- 55:=by rw [List.length_take,List.length_drop];omega
 constructor
 ·unfold lng
  cases hb:(b.drop 1).take (hdr b- 54- 1)with
  |nil=>rw [hb]at hl;simp at hl;omega
  |cons x t=>
   rw [be_cons]
   have hx:x=b.getD 1 0:=by
    have e1:((b.drop 1).take (hdr b- 54- 1))[0]? =some x:=by rw [hb];rfl
    rw [List.getElem?_take,if_pos (by omega),List.getElem?_drop]at e1
    rw [List.getD_eq_getElem?_getD,e1];rfl
   have hx0:0<x.toNat:=by rw [hx];omega
   have hp:0<256^t.length:=Nat.pow_pos (by decide)
   have:=Nat.mul_pos hx0 hp
   omega
 ·have:=be_lt ((b.drop 1).take (hdr b- 54- 1))
  rw [hl]at this
  unfold lng
  refine Nat.lt_of_lt_of_le this ?_
  rw [show(2:Nat)^64=256^8 from by decide]
  exact Nat.pow_le_pow_right (by decide) (by omega)
theorem getD_part {b:List UInt8} {i k:Nat} (h:0<k):((b.drop i).take k).getD 0 0=b.getD i 0:=by
 rw [List.getD_eq_getElem?_getD,List.getElem?_take,if_pos h,List.getElem?_drop,List.getD_eq_getElem?_getD,Nat.add_zero]
def CutV (N:Heaplet) (r:Option (Bool×List UInt8×List UInt8)) (v:Value):Prop:=match r with
 |none=>v=.tuple #[.nilIface,.slice none 0 0]
 |some (isL,p,q)=> ∃a1 c1 a2 c2,v=.tuple #[.iface (if isL then 213 else 211) (.slice a1 p.length c1),.slice a2 q.length c2]∧RSl N 1 a1 p.length c1 (u8s p)∧RSl N 1 a2 q.length c2 (u8s q)
theorem cutv_mk {N:Heaplet} {isL:Bool} {p q:List UInt8} {T:TypeId} {a1 a2:Option Addr} {n1 n2 c1 c2:Nat} (hT:T=if isL then 213 else 211) (h1:RSl N 1 a1 n1 c1 (u8s p)) (h2:RSl N 1 a2 n2 c2 (u8s q)):CutV N (some (isL,p,q)) (.tuple #[.iface T (.slice a1 n1 c1),.slice a2 n2 c2]):=by
 have e1:=h1.len8
 have e2:=h2.len8
 subst e1;subst e2
 exact⟨a1,c1,a2,c2,by rw [hT],h1,h2⟩
theorem cut_f {N:Heaplet} {ao:Option Addr} {n cap:Nat} {b:List UInt8} (h:RSl N 1 ao n cap (u8s b)) (hn:n≤1099511627776):
 Fn Tryz.prog 140 #[.slice ao n cap] [] [N] (fun v L=>L= []∧ ∀M:Heaplet,RSl M 1 ao n cap (u8s b)→CutV M (cutF b) v):=by
 have hlen:=h.len8
 have hcap:=h.cap63
 refine Fn.enter (vs:= [.slice ao n cap]) Tryz.func140 U U U ?_
 intro E R hR
 have h:=h.le (hR N (by simp))
 have hb0:=(b.getD 0 0).toNat_lt
 have hd:hdr b=((b.getD 0 0).toNat- 128) % 64:=rfl
 have hn64:(UInt64.ofNat n).toNat=n:=by rw [UInt64.toNat_ofNat'];exact Nat.mod_eq_of_lt (by omega)
 change At _ _ E [R] _
 refine aC fun _ s_1=>aA (aR U U (aR U U (aB (s_1 (aC fun _ s_2=>aC fun _ s_3=>aA (aH U U (cF aE se22 U U (dF aE U U U (aB (s_3 (aQ U (fun c11=>?_) (fun c11=>?_))))))))))))
 ·refine aC fun _ s_4=>aA (aR U U (aR U U (aB (s_4 (a0 (aS ((bE (L1:= []) U (.tmp U (.tmp U .nil)) U (.refl _) aJ ?_))))))))
  exact⟨rfl,fun M hM=>by rw [cutF,if_pos (by omega)];rfl⟩
 refine aT (aI (s_2 (aC fun _ s_5=>aA (aH U U (cZ aE se22 U U (by assumption) (show _=((0:Nat):Int)from U) (by omega) U ?_)))))
 refine cO aE sc5 U (by assumption) (by first|exact get8 (by omega)|exact get64 (by omega)|exact get32 (by omega)) (by simp) U ?_
 refine op_convI aE (und_some Tryz.underlying5) Tryz.underlying3 U (by omega) (by omega) U (aR U U (aB (s_5 (aC fun _ s_6=>aC fun _ s_7=>aA (aH U U (op_lss aE U U U (aB (s_7 (aQ U (fun c17=>?_) (fun c17=>?_))))))))))
 ·refine aC fun _ s_8=>At.drawn [] [0,1,2,3,4,5,6] (by kernel_rfl) (by kernel_rfl) (aP (bP U U U (by kernel_rfl)) U U (op_slice0 (bP U U U (by kernel_rfl)) se22 U (.some U (show _=((1:Nat):Int)from U)) .none (by omega) (by omega) (by simp) U (op_mkI (bP U U U (by kernel_rfl)) (by kernel_rfl) U U (aP (bP U U U (by kernel_rfl)) U U (op_slice (bP U U U (by kernel_rfl)) se22 U (.some U (show _=((1:Nat):Int)from U)) .none .none (by omega) (by omega) (by omega) (by simp) U (cJ (bP U U U (by kernel_rfl)) U U (cJ (bP U U U (by kernel_rfl)) U U (dK (aI (s_8 (a0 (aS ((bE (L1:= []) U (.tmp U (.tmp U .nil)) U (.refl _) aJ (⟨rfl,fun M hM=>?_⟩)))))))))))))))
  rw [cutF,if_neg (by omega),if_pos (by omega)]
  exact cutv_mk U (hM.take8 (by omega) (by omega) (by omega)) (hM.drop8 (by omega))
 refine aT (aI (s_6 (aC fun _ s_9=>aA (aH U U (op_subI aE U U (by omega) (by omega) U (op_rem aE U U (by omega) (by omega) U (aR U U (aR U U (aB (s_9 (aC fun _ s_10=>At.meet (fun fr_ hp_=> ∃(i m:Nat),fr_= [(0,.slice ao n cap),(4,.int .i64 ((b.getD 0 0).toNat:Int)),(5,.int .i64 (m:Int)),(6,.int .i64 (i:Int))]∧hp_= [R]∧(i≤n)∧(1≤i)∧(m≤1099511627776)∧(cutF b=cutAt b i m)) ?_ (fun K10_ jk_10=>?_))))))))))))
 rotate_left
 ·skip
  refine aC fun _ s_11=>aA (aH U U (op_gtr aE U U U (aB (s_11 (aQ U (fun c27=>?_) (fun c27=>?_))))))
  ·refine aC fun _ s_12=>aA (aH U U (aH U U (op_subI aE U U (by omega) (by omega) U (cU aE U U (by omega) (by omega) U (aR U U (aB (s_12 (aC fun _ s_13=>aC fun _ s_14=>aA (aH U U (cF aE se22 U U (aH U U (op_lss aE U U U (aH U U (cB (d:=36) U (fun g36=>?_) (fun g36=>?_)))))))))))))))
   ·refine aU U U U U U U U (aU U U U U U U U (aU U U U U U U U (aU U U U U U U U (cH aE U U U (aB (s_14 (At.condT U (aC fun _ s_15=>aA (aR U U (aR U U (aB (s_15 (a0 (aS (aS ((bE (L1:= []) U (.tmp U (.tmp U .nil)) U (.refl _) aJ ?_)))))))))))))))))
    exact⟨rfl,fun M hM=>by rw [cutF,if_neg (by omega),if_neg (by omega),if_neg (by omega),if_pos (.inl (by omega))];rfl⟩
   refine aP (bF U U U U) U U (cZ (bF U U U U) se22 U U (by assumption) (show _=((1:Nat):Int)from U) (by omega) U ?_)
   refine cO (bF U U U U) sc5 U (by assumption) (by first|exact get8 (by omega)|exact get64 (by omega)|exact get32 (by omega)) (by simp) U ?_
   refine dF (bF U U U U) U U U (cE aE U U U (aB (s_14 (aQ U (fun c41=>?_) (fun c41=>?_)))))
   ·refine aC fun _ s_16=>aA (aR U U (aR U U (aB (s_16 (a0 (aS (aS ((bE (L1:= []) U (.tmp U (.tmp U .nil)) U (.refl _) aJ ?_)))))))))
    exact⟨rfl,fun M hM=>by rw [cutF,if_neg (by omega),if_neg (by omega),if_neg (by omega),if_pos (.inr (by omega))];rfl⟩
   refine aT (aI (s_13 (aC fun _ s_17=>aA (aH U U (aH U U (op_slice aE se22 U (.some U (show _=((1:Nat):Int)from U)) (.some U (show _=(((hdr b- 54:Nat)):Int)from by omega)) .none (by omega) (by omega) (by omega) (by simp) U ?_))))))
   refine bD bU (.cons U .nil) (From_f (h.part8 (lo:=1) (hi:=hdr b- 54) (m:=cap) (by omega) (by omega) (by omega) (by omega)) (by omega)) Tryz.func168 U U (by simp) U ?_
   rintro _ _ ⟨M45,a45,rfl,rfl,s45⟩
   show At _ _ _ [M45,R] _
   have hl:=lng_pos (b:=b) (by omega) (by omega) (by omega)
   change RSl M45 1 a45 (limbsOf (lng b)).length (limbsOf (lng b)).length (u64s (limbsOf (lng b)))at s45
   change At _ ((45,.slice a45 (limbsOf (lng b)).length (limbsOf (lng b)).length)::_) _ [M45,R] _
   have hx:([UInt64.ofNat (lng b)].getD 0 0).toNat=lng b:=by rw [show [UInt64.ofNat (lng b)].getD 0 0=UInt64.ofNat (lng b)from rfl,UInt64.toNat_ofNat'];exact Nat.mod_eq_of_lt hl.2
   rw [limbs_one hl.1 hl.2]at s45⊢
   have hl1: [UInt64.ofNat (lng b)].length=1:=rfl
   refine aR U U (aB (s_17 (aC fun _ s_18=>aC fun _ s_19=>aA (aH U U (cF aE se200 U U (op_gtr aE U U U (aH U U (cB (d:=49) U (fun g49=>?_) (fun g49=>?_)))))))))
   ·exfalso;omega
   refine aP (bF U U U U) U U (cZ (bF U U U U) se200 U U (by assumption) (show _=((0:Nat):Int)from U) (by omega) U ?_)
   refine cO (bF U U U U) sc24 U (by assumption) (by first|exact get8 (by omega)|exact get64 (by omega)|exact get32 (by omega)) (by simp) U ?_
   refine op_leq (bF U U U U) U U U (cE aE U U U (aH U U (cB (d:=55) U (fun g55=>?_) (fun g55=>?_))))
   ·refine aU U U U U U U U (aU U U U U U U U (aU U U U U U U U (aU U U U U U U U (aU U U U U U U U (aU U U U U U U U (aU U U U U U U U (cH aE U U U (aB (s_19 (At.condT U (aC fun _ s_20=>aA (aR U U (aR U U (aB (s_20 (a0 (aS (aS ((cK (bE (L1:= []) U (.tmp U (.tmp U .nil)) U (.refl _) aJ ?_)))))))))))))))))))))
    exact⟨rfl,fun M hM=>by rw [cutF,if_neg (by omega),if_neg (by omega),if_neg (by omega),if_neg (by omega),if_pos (.inl (by omega))];rfl⟩
   refine aP (bF U U U U) U U (cZ (bF U U U U) se200 U U (by assumption) (show _=((0:Nat):Int)from U) (by omega) U ?_)
   refine cO (bF U U U U) sc24 U (by assumption) (by first|exact get8 (by omega)|exact get64 (by omega)|exact get32 (by omega)) (by simp) U ?_
   refine aP (bF U U U U) U U (cF (bF U U U U) se22 U U (op_conv64 (bF U U U U) (und_some Tryz.underlying3) Tryz.underlying24 U (by first|rfl|exact(Int.toNat_of_nonneg (by omega)).symm) U ?_))
   refine op_gtr (bF U U U U) U U U (cE aE U U U (aB (s_19 (aQ U (fun c63=>?_) (fun c63=>?_)))))
   ·refine aC fun _ s_21=>aA (aR U U (aR U U (aB (s_21 (a0 (aS (aS ((cK (bE (L1:= []) U (.tmp U (.tmp U .nil)) U (.refl _) aJ ?_))))))))))
    exact⟨rfl,fun M hM=>by rw [cutF,if_neg (by omega),if_neg (by omega),if_neg (by omega),if_neg (by omega),if_pos (.inr (by omega))];rfl⟩
   refine aT (aI (s_18 (aA (aH U U (cZ aE se200 U U (by assumption) (show _=((0:Nat):Int)from U) (by omega) U ?_)))))
   refine cO aE sc24 U (by assumption) (by first|exact get8 (by omega)|exact get64 (by omega)|exact get32 (by omega)) (by simp) U ?_
   refine op_convI aE (und_some Tryz.underlying24) Tryz.underlying3 U (by omega) (by omega) U (aR U U (cX (cK (aI (jk_10 ?_ aJ ⟨hdr b- 54,lng b,rfl,rfl,by omega,by omega,by omega,by rw [cutF,if_neg (by omega),if_neg (by omega),if_neg (by omega),if_neg (by omega),if_neg (by omega)]⟩)))))
   repeat first|apply cW|exact .nil|exact lkI rfl (by omega)|rfl
  refine aT (aI (jk_10 ?_ aJ ⟨1,hdr b,rfl,rfl,by omega,by omega,by omega,by rw [cutF,if_neg (by omega),if_neg (by omega),if_pos (by omega)]⟩))
  repeat first|apply cW|exact .nil|exact lkI rfl (by omega)|rfl
 rintro _ _ ⟨i,m,rfl,rfl,hi,hi0,hm,hc⟩
 refine s_10 (aC fun _ s_22=>aC fun _ s_23=>aA (aH U U (aH U U (cF aE se22 U U (aH U U (op_subI aE U U (by omega) (by omega) U (op_gtr aE U U U (aB (s_23 (aQ U (fun c73=>?_) (fun c73=>?_)))))))))))
 ·refine aC fun _ s_24=>aA (aR U U (aR U U (aB (s_24 (a0 (aS ((bE (L1:= []) U (.tmp U (.tmp U .nil)) U (.refl _) aJ ?_))))))))
  exact⟨rfl,fun M hM=>by rw [hc,cutAt,if_pos (by omega)];rfl⟩
 refine aT (aI (s_22 (aC fun _ s_25=>aA (aH U U (aH U U (aH U U (aH U U (cU aE U U (by omega) (by omega) U (op_slice aE se22 U (.some U (show _=(((i:Nat)):Int)from by omega)) (.some U (show _=(((i+m:Nat)):Int)from by omega)) .none (by omega) (by omega) (by omega) (by simp) U ?_)))))))))
 have s79:=h.part8 (lo:=i) (hi:=i+m) (m:=cap) (by omega) (by omega) (by omega) (by omega)
 have l79:=s79.len8
 refine aR U U (aB (s_25 (aC fun _ s_26=>bZ (aC fun _ s_27=>aA (aH U U (op_geq aE U U U (aR U U (aB (s_27 (aQ U (fun c80=>?_) (fun c80=>?_)))))))))))
 ·refine aC fun _ s_28=>At.drawn [] [0,1,2,3,4,5,6,7,8] (by kernel_rfl) (by kernel_rfl) (aP (bP U U U (by kernel_rfl)) U U (op_mkI (bP U U U (by kernel_rfl)) (by kernel_rfl) U U (aP (bP U U U (by kernel_rfl)) U U (aP (bP U U U (by kernel_rfl)) U U (aP (bP U U U (by kernel_rfl)) U U (cU (bP U U U (by kernel_rfl)) U U (by omega) (by omega) U (op_slice (bP U U U (by kernel_rfl)) se22 U (.some U (show _=(((i+m:Nat)):Int)from by omega)) .none .none (by omega) (by omega) (by omega) (by simp) U ?_)))))))
  refine cJ (bP U U U (by kernel_rfl)) U U (cJ (bP U U U (by kernel_rfl)) U U (dK (aI (s_28 (a0 (At.inRet (aS ((bE (L1:= []) U (.tmp U (.tmp U .nil)) U (.refl _) aJ (⟨rfl,fun M hM=>?_⟩))))))))))
  rw [hc,cutAt,if_neg (by omega),if_pos (by omega)]
  have e:=hM.part8 (lo:=i) (hi:=i+m) (m:=cap) (by omega) (by omega) (by omega) (by omega)
  rw [show i+m- i=m by omega]at e⊢
  exact cutv_mk U e (hM.drop8 (by omega))
 refine aC fun _ s_29=>aA (aH U U (dF aE U U U (aH U U (cB (d:=93) U (fun g93=>?_) (fun g93=>?_)))))
 ·refine aP (bF U U U U) U U (cZ (bF U U U U) se22 U U (by assumption) (show _=((0:Nat):Int)from U) (by omega) U ?_)
  refine cO (bF U U U U) sc5 U (by assumption) (by first|exact get8 (by omega)|exact get64 (by omega)|exact get32 (by omega)) (by simp) U ?_
  refine op_lss (bF U U U U) U U U (cH aE U U U (aR U U (aB (s_29 (aQ U (fun c90=>?_) (fun c90=>?_))))))
  ·refine aC fun _ s_30=>aA (aR U U (aR U U (aB (s_30 (a0 (At.inRet (aS ((bE (L1:= []) U (.tmp U (.tmp U .nil)) U (.refl _) aJ ?_)))))))))
   exact⟨rfl,fun M hM=>by rw [hc,cutAt,if_neg (by omega),if_neg (by omega),if_pos ⟨by omega,by rw [getD_part (by omega)]at c90;omega⟩];rfl⟩
  refine aT (cS (aI (s_26 (aC fun _ s_31=>At.drawn [] [0,1,2,3,4,5,6,7,8] (by kernel_rfl) (by kernel_rfl) (aP (bP U U U (by kernel_rfl)) U U (op_mkI (bP U U U (by kernel_rfl)) (by kernel_rfl) U U (aP (bP U U U (by kernel_rfl)) U U (aP (bP U U U (by kernel_rfl)) U U (aP (bP U U U (by kernel_rfl)) U U (cU (bP U U U (by kernel_rfl)) U U (by omega) (by omega) U (op_slice (bP U U U (by kernel_rfl)) se22 U (.some U (show _=(((i+m:Nat)):Int)from by omega)) .none .none (by omega) (by omega) (by omega) (by simp) U ?_)))))))))))
  refine cJ (bP U U U (by kernel_rfl)) U U (cJ (bP U U U (by kernel_rfl)) U U (dK (aI (s_31 (a0 ((bE (L1:= []) U (.tmp U (.tmp U .nil)) U (.refl _) aJ (⟨rfl,fun M hM=>?_⟩))))))))
  rw [getD_part (by omega)]at c90
  rw [hc,cutAt,if_neg (by omega),if_neg (by omega),if_neg (by omega)]
  have e:=hM.part8 (lo:=i) (hi:=i+m) (m:=cap) (by omega) (by omega) (by omega) (by omega)
  rw [show i+m- i=m by omega]at e⊢
  exact cutv_mk U e (hM.drop8 (by omega))
 refine aU U U U U U U U (aU U U U U U U U (aU U U U U U U U (aU U U U U U U U (cE aE U U U (aR U U (aB (s_29 (dA U (aT (cS (aI (s_26 (aC fun _ s_32=>At.drawn [] [0,1,2,3,4,5,6,7,8] (by kernel_rfl) (by kernel_rfl) (aP (bP U U U (by kernel_rfl)) U U (op_mkI (bP U U U (by kernel_rfl)) (by kernel_rfl) U U (aP (bP U U U (by kernel_rfl)) U U (aP (bP U U U (by kernel_rfl)) U U (aP (bP U U U (by kernel_rfl)) U U (cU (bP U U U (by kernel_rfl)) U U (by omega) (by omega) U (op_slice (bP U U U (by kernel_rfl)) se22 U (.some U (show _=(((i+m:Nat)):Int)from by omega)) .none .none (by omega) (by omega) (by omega) (by simp) U ?_))))))))))))))))))))
 refine cJ (bP U U U (by kernel_rfl)) U U (cJ (bP U U U (by kernel_rfl)) U U (dK (aI (s_32 (a0 ((bE (L1:= []) U (.tmp U (.tmp U .nil)) U (.refl _) aJ (⟨rfl,fun M hM=>?_⟩))))))))
 rw [hc,cutAt,if_neg (by omega),if_neg (by omega),if_neg (by omega)]
 have e:=hM.part8 (lo:=i) (hi:=i+m) (m:=cap) (by omega) (by omega) (by omega) (by omega)
 rw [show i+m- i=m by omega]at e⊢
 exact cutv_mk U e (hM.drop8 (by omega))
inductive It where
 |mk (list:Bool) (bytes:List UInt8) (items:List It)
mutual
def It.form:It→List UInt8
 |.mk false bs _=>match bs with
  | [x]=>if x<128 then [x]else rlpHead 128 1++ [x]
  |bs=>rlpHead 128 bs.length++bs
 |.mk true _ its=>rlpHead 192 (It.forms its).length++It.forms its
def It.forms:List It→List UInt8
 | []=> []
 |t::ts=>It.form t++It.forms ts
end
mutual
def It.depth:It→Nat
 |.mk false _ _=>0
 |.mk true _ its=>It.depths its+1
def It.depths:List It→Nat
 | []=>0
 |t::ts=>max (It.depth t) (It.depths ts)
end
mutual
theorem It.ind_it {P:It→Prop} (h: ∀l bs its,(∀t∈its,P t)→P (.mk l bs its)): ∀t,P t
 |.mk l bs its=>h l bs its (It.ind_its h its)
theorem It.ind_its {P:It→Prop} (h: ∀l bs its,(∀t∈its,P t)→P (.mk l bs its)): ∀its:List It, ∀t∈its,P t
 | [],_,ht=>by cases ht
 |x::xs,t,ht=>by
  rcases List.mem_cons.1 ht with e|ht
  ·rw [e];exact It.ind_it h x
  ·exact It.ind_its h xs t ht
end
theorem forms_append (a b:List It):It.forms (a++b)=It.forms a++It.forms b:=by
 induction a with
 |nil=>rfl
 |cons t ts ih=>simp only [List.cons_append,It.forms,ih,List.append_assoc]
theorem forms_take_succ {its:List It} {k:Nat} {t:It} (h:its[k]? =some t):It.forms (its.take (k+1))=It.forms (its.take k)++t.form:=by
 obtain⟨hlt,rfl⟩:=List.getElem?_eq_some_iff.1 h
 rw [List.take_succ_eq_append_getElem hlt,forms_append]
 simp [It.forms]
theorem forms_take_le (its:List It) (k:Nat):(It.forms (its.take k)).length≤(It.forms its).length:=by
 conv=>rhs;rw [←List.take_append_drop k its]
 rw [forms_append,List.length_append]
 omega
theorem form_le {its:List It} {t:It} (h:t∈its):t.form.length≤(It.forms its).length:=by
 obtain⟨a,b,rfl⟩:=List.append_of_mem h
 rw [forms_append,It.forms]
 simp
 omega
theorem depths_le {its:List It} {d:Nat} :It.depths its≤d↔ ∀t∈its,t.depth≤d:=by
 induction its with
 |nil=>simp [It.depths]
 |cons t ts ih=>simp [It.depths,Nat.max_le,ih]
def small:List UInt8→Bool
 | [x]=>decide (x<128)
 |_=>false
theorem form_false (bs:List UInt8) (its:List It):(It.mk false bs its).form=if small bs then bs else rlpHead 128 bs.length++bs:=by
 cases bs with
 |nil=>simp [It.form,small]
 |cons x xs=>
  cases xs with
  |nil=>simp [It.form,small]
  |cons y ys=>simp [It.form,small]
theorem form_true (bs:List UInt8) (its:List It):(It.mk true bs its).form=rlpHead 192 (It.forms its).length++It.forms its:=by simp [It.form]
theorem small_iffI {bs:List UInt8} :small bs=true↔bs.length=1∧(bs.getD 0 0).toNat<128:=by
 cases bs with
 |nil=>simp [small]
 |cons x xs=>
  cases xs with
  |nil=>simp [small,UInt8.lt_iff_toNat_lt]
  |cons y ys=>simp [small]
theorem one_eq {bs:List UInt8} (h:bs.length=1):bs= [bs.getD 0 0]:=by
 cases bs with
 |nil=>simp at h
 |cons x xs=>cases xs with
  |nil=>rfl
  |cons y ys=>simp at h
structure IV where
 l:Bool
 ab:Option Addr
 nb:Nat
 cb:Nat
 ai:Option Addr
 ni:Nat
 ci:Nat
def IV.cells (x:IV):List Value:= [.bool x.l,.slice x.ab x.nb x.cb,.slice x.ai x.ni x.ci]
def cellsI (xs:List IV):List Value:=xs.flatMap IV.cells
theorem length_cellsI (xs:List IV):(cellsI xs).length=xs.length*3:=by
 induction xs with
 |nil=>rfl
 |cons x t ih=>simp only [cellsI,List.flatMap_cons,List.length_append,List.length_cons]at ih⊢;rw [ih];simp [IV.cells];omega
theorem cells_at {xs:List IV} {k:Nat} {x:IV} (h:xs[k]? =some x):((cellsI xs).drop (k*3)).take 3= [.bool x.l,.slice x.ab x.nb x.cb,.slice x.ai x.ni x.ci]:=by
 induction xs generalizing k with
 |nil=>simp at h
 |cons y t ih=>
  cases k with
  |zero=>simp at h;subst h;simp [cellsI,IV.cells]
  |succ k=>
   have:=ih (k:=k) (by simpa using h)
   rw [←this]
   have e:cellsI (y::t)=y.cells++cellsI t:=by simp [cellsI]
   have hl:y.cells.length=3:=rfl
   rw [e,show(k+1)*3=y.cells.length+k*3 from by rw [hl];omega,List.drop_append,List.drop_eq_nil_of_le (by omega),List.nil_append,Nat.add_sub_cancel_left]
mutual
def ItN (N:Heaplet):It→IV→Prop
 |.mk l bs its,x=>x.l=l∧RSl N 1 x.ab x.nb x.cb (u8s bs)∧ ∃xs,RSl N 3 x.ai x.ni x.ci (cellsI xs)∧ItsN N its xs
def ItsN (N:Heaplet):List It→List IV→Prop
 | [],xs=>xs= []
 |t::ts,xs=> ∃x r,xs=x::r∧ItN N t x∧ItsN N ts r
end
mutual
theorem ItN.le {N M:Heaplet} (hl:N.le M): ∀ {t:It} {x:IV},ItN N t x→ItN M t x
 |.mk l bs its,x,h=>by
  simp only [ItN]at h⊢
  obtain⟨h1,h2,xs,h3,h4⟩:=h
  exact⟨h1,h2.le hl,xs,h3.le hl,ItsN.le hl h4⟩
theorem ItsN.le {N M:Heaplet} (hl:N.le M): ∀ {ts:List It} {xs:List IV},ItsN N ts xs→ItsN M ts xs
 | [],xs,h=>h
 |t::ts,xs,h=>by
  simp only [ItsN]at h⊢
  obtain⟨x,r,e,h1,h2⟩:=h
  exact⟨x,r,e,ItN.le hl h1,ItsN.le hl h2⟩
end
theorem ItsN.length {N:Heaplet} : ∀ {ts:List It} {xs:List IV},ItsN N ts xs→xs.length=ts.length
 | [],xs,h=>by simp only [ItsN]at h;subst h;rfl
 |t::ts,xs,h=>by
  simp only [ItsN]at h
  obtain⟨x,r,rfl,_,h2⟩:=h
  simp [h2.length]
theorem ItsN.get {N:Heaplet} : ∀ {ts:List It} {xs:List IV} {k:Nat} {t:It},ItsN N ts xs→ts[k]? =some t→ ∃x,xs[k]? =some x∧ItN N t x
 | [],xs,k,t,_,h=>by simp at h
 |t'::ts,xs,0,t,h,hk=>by
  simp only [ItsN]at h
  obtain⟨x,r,rfl,h1,_⟩:=h
  simp at hk;subst hk
  exact⟨x,rfl,h1⟩
 |t'::ts,xs,k+1,t,h,hk=>by
  simp only [ItsN]at h
  obtain⟨x,r,rfl,_,h2⟩:=h
  obtain⟨y,hy,hi⟩:=h2.get (k:=k) (by simpa using hk)
  exact⟨y,by simpa using hy,hi⟩
theorem ItsN.snoc {N:Heaplet} : ∀ {ts:List It} {xs:List IV} {t:It} {x:IV},ItsN N ts xs→ItN N t x→ItsN N (ts++ [t]) (xs++ [x])
 | [],xs,t,x,h,hi=>by simp only [ItsN]at h;subst h;exact⟨x,[],rfl,hi,rfl⟩
 |t'::ts,xs,t,x,h,hi=>by
  simp only [ItsN]at h
  obtain⟨y,r,rfl,h1,h2⟩:=h
  exact⟨y,r++ [x],rfl,h1,h2.snoc hi⟩
theorem ItN.mk {N:Heaplet} {l:Bool} {bs:List UInt8} {its:List It} {ab ai:Option Addr} {nb cb ni ci:Nat} {xs:List IV} (h1:RSl N 1 ab nb cb (u8s bs)) (h2:RSl N 3 ai ni ci (cellsI xs)) (h3:ItsN N its xs):ItN N (.mk l bs its) ⟨l,ab,nb,cb,ai,ni,ci⟩:=⟨rfl,h1,xs,h2,h3⟩
def exMap {α:Type} (f:List α→List α):Except Nat (List α)→Except Nat (List α)
 |.ok l=>.ok (f l)
 |.error e=>.error e
def itemsF (dec:List UInt8→Except Nat (It×List UInt8)):Nat→List UInt8→Except Nat (List It)
 |_,[]=>.ok []
 |0,_::_=>.error 2
 |f+1,c::b=>match dec (c::b)with
  |.error e=>.error e
  |.ok (t,q)=>exMap (t:: ·) (itemsF dec f q)
def itF (dec:List UInt8→Except Nat (It×List UInt8)) (b:List UInt8):Except Nat (List It):=itemsF dec b.length b
def decF:Nat→List UInt8→Except Nat (It×List UInt8)
 |0,b=>match cutF b with
  |none=>.error 2
  |some (false,p,r)=>.ok (.mk false p [],r)
  |some (true,_,_)=>.error 7
 |k+1,b=>match cutF b with
  |none=>.error 2
  |some (false,p,r)=>.ok (.mk false p [],r)
  |some (true,p,r)=>match itF (decF k) p with
   |.error e=>.error e
   |.ok its=>.ok (.mk true [] its,r)
theorem cutAt_len {b:List UInt8} {i n:Nat} (hi:i≤b.length) {l:Bool} {p r:List UInt8} (h:cutAt b i n=some (l,p,r)):i+p.length+r.length=b.length:=by
 unfold cutAt at h
 split at h
 ·cases h
 ·rename_i h1
  split at h
  ·cases h;rw [List.length_take,List.length_drop,List.length_drop];omega
  ·split at h
   ·cases h
   ·cases h;rw [List.length_take,List.length_drop,List.length_drop];omega
theorem cutF_len {b:List UInt8} {l:Bool} {p r:List UInt8} (h:cutF b=some (l,p,r)):p.length≤b.length∧r.length<b.length:=by
 unfold cutF at h
 split at h
 ·cases h
 ·rename_i h0
  split at h
  ·cases h;rw [List.length_take,List.length_drop];omega
  ·split at h
   ·have:=cutAt_len (by omega) h;omega
   ·rename_i h55
    split at h
    ·cases h
    ·rename_i h2
     split at h
     ·cases h
     ·have:=cutAt_len (by omega) h;omega
theorem decF_lt {k:Nat} {b q:List UInt8} {t:It} (h:decF k b=.ok (t,q)):q.length<b.length:=by
 cases k with
 |zero=>
  unfold decF at h
  split at h
  ·cases h
  ·rename_i hc;cases h;exact(cutF_len hc).2
  ·cases h
 |succ k=>
  unfold decF at h
  split at h
  ·cases h
  ·rename_i hc;cases h;exact(cutF_len hc).2
  ·rename_i hc
   split at h
   ·cases h
   ·cases h;exact(cutF_len hc).2
theorem itemsF_fuel {dec:List UInt8→Except Nat (It×List UInt8)} (hd: ∀b t q,dec b=.ok (t,q)→q.length<b.length): ∀(f g:Nat) (b:List UInt8),b.length≤f→b.length≤g→itemsF dec f b=itemsF dec g b:=by
 intro f
 induction f with
 |zero=>
  intro g b hf hg
  cases b with
  |nil=>cases g<;>rfl
  |cons c b=>simp at hf
 |succ f ih=>
  intro g b hf hg
  cases b with
  |nil=>cases g<;>rfl
  |cons c b=>
   cases g with
   |zero=>simp at hg
   |succ g=>
    simp only [itemsF]
    cases hc:dec (c::b)with
    |error e=>rfl
    |ok tq=>
     obtain⟨t,q⟩:=tq
     have:=hd _ _ _ hc
     simp only [List.length_cons]at this hf hg
     simp only
     rw [ih g q (by omega) (by omega)]
theorem itF_nil (dec:List UInt8→Except Nat (It×List UInt8)):itF dec []=.ok []:=rfl
theorem itF_error {dec:List UInt8→Except Nat (It×List UInt8)} {b:List UInt8} {e:Nat} (h0:0<b.length) (h:dec b=.error e):itF dec b=.error e:=by
 cases b with
 |nil=>simp at h0
 |cons c b=>unfold itF;simp only [List.length_cons,itemsF,h]
theorem itF_ok {dec:List UInt8→Except Nat (It×List UInt8)} (hd: ∀b t q,dec b=.ok (t,q)→q.length<b.length) {b q:List UInt8} {t:It} (h0:0<b.length) (h:dec b=.ok (t,q)):itF dec b=exMap (t:: ·) (itF dec q):=by
 cases b with
 |nil=>simp at h0
 |cons c b=>
  have:=hd _ _ _ h
  simp only [List.length_cons]at this
  unfold itF
  simp only [List.length_cons,itemsF,h]
  rw [itemsF_fuel hd b.length q.length q (by omega) (Nat.le_refl _)]
theorem exMap_map {α:Type} (f g:List α→List α) (r:Except Nat (List α)):exMap f (exMap g r)=exMap (fun l=>f (g l)) r:=by cases r<;>rfl
end Go.Proofs.YtjfagifjajielaaGreat
