/- Several texts in one: see the remarks ahead of each part. No condition but those told there. -/
import Derived.Test.YtjfagifjajielaaGreatU11
import Derived.Test.YtjfagifjajielaaGreatU8
import Derived.Test.YtjfagifjajielaaGreatU5
import Derived.Stop.BytesEq
set_option linter.unusedSimpArgs false
set_option linter.unusedVariables false
/- Package hash: Keccak-256 of any bytes. Condition: at most 2^40 bytes. -/
namespace Go.Proofs.YtjfagifjajielaaGreat
open Go Go.RowKit
theorem or128 (x:UInt8):bits .or .u8 (x.toNat:Int) 128=((x |||128).toNat:Int):=by
 have h: ∀i:Fin 256,bits .or .u8 (i.1:Int) 128=(((UInt8.ofNat i.1)|||128).toNat:Int):=by decide+kernel
 have e:UInt8.ofNat x.toNat=x:=by
  apply UInt8.toNat_inj.1
  rw [UInt8.toNat_ofNat'];exact Nat.mod_eq_of_lt x.toNat_lt
 have:=h ⟨x.toNat,x.toNat_lt⟩
 simp only [e]at this
 exact this
theorem all8 (l:List UInt8):(u8s l).all (·.oneCell')=true:=List.all_eq_true.2 (one_u8s l)
theorem blk8 {N:Heaplet} {b:Nat} {e:TypeId} {L:List UInt8} {k:Nat} (h:Blk N b e (u8s L)) (hk:L.length=k) (hm:k≤9223372036854775807):RSl N 1 (some ⟨b,0+0*1,none⟩) (k- 0) (k- 0) (u8s L):=by
 refine⟨by simp [u8s,hk],Nat.le_refl _,by unfold maxLen;omega,fun h0=>⟨b,0,rfl,h.rng⟩⟩
set_option maxRecDepth 100000 in
set_option maxHeartbeats 1000000 in
theorem FAbsorb_f {N M:Heaplet} {b0:Nat} {e0:TypeId} {a:List UInt64} {T:List Value} {ao:Option Addr} {n cap:Nat} {l:List UInt8} (ha:a.length=25) (B0:Blk N b0 e0 (u64s a++T)) (hb:RSl M 1 ao n cap (u8s l)) (hn:n=136):Fn Tryz.prog 121 #[.pointer (some ⟨b0,0,none⟩),.slice ao n cap] [N] [M] (fun v L=> ∃M,v=.tuple #[]∧L= [M]∧Blk M b0 e0 (u64s (absorb a l)++T)):=by
 obtain⟨N0,h0⟩: ∃N0,N0=N:=⟨_,rfl⟩
 rw [←h0]at B0⊢
 have hlen:=hb.len8
 have hcap:=hb.cap63
 refine Fn.enter (vs:= [.pointer (some ⟨b0,0,none⟩),.slice ao n cap]) Tryz.func121 rfl rfl rfl ?_
 intro E R hR
 have hb:=hb.le (hR M (by simp))
 change At _ _ E [N0,R] _
 refine At.seq fun _ s_1=>At.seq fun _ s_2=>At.region (aE (aC rfl) rfl rfl (a7 (aC rfl) se22 rfl rfl (aE (aC rfl) rfl rfl (aA (aB (s_2 (At.block ?_)))))))
 change Blk N0 b0 _ (u64s (abI a l 0)++T)at B0
 refine At.loop (fun fr_ hp_ ms_=> ∃(i:Nat) (N0:Heaplet),fr_= [(0,.pointer (some ⟨b0,0,none⟩)),(6,.slice ao n cap),(7,.int .i64 (n:Int)),(8,.int .i64 (i:Int))]∧hp_= [N0,R]∧136- i=ms_∧(i≤136)∧(Blk N0 b0 e0 (u64s (abI a l i)++T))) ?_ (.refl _) ⟨0,N0,rfl,rfl,rfl,by omega,B0⟩ ?_
 ·exact .cons (by first|exact a6 rfl (by omega)|rfl) (.cons (by first|exact a6 rfl (by omega)|rfl) (.cons (by first|exact a6 rfl (by omega)|rfl) (.cons (by first|exact a6 rfl (by omega)|rfl) .nil)))
 rintro _ _ _ ⟨i,N0,rfl,rfl,rfl,hi,B0⟩
 have hal:=(abI_len a l i).trans ha
 refine At.seq fun _ s_3=>At.region (op_lss (aC rfl) rfl rfl rfl (aA (aB (s_3 (At.seq fun _ s_4=>aO rfl (fun c9=>?_) (fun c9=>?_))))))
 ·refine At.skip (aB (s_4 (At.seq fun _ s_5=>At.block (At.seq fun _ s_6=>At.region (aE (aC rfl) rfl rfl (op_idx1 (aC rfl) se22 rfl rfl hb (show _=(((i:Nat)):Int)from by omega) (by omega) rfl ?_))))))
  refine bK (aC rfl) sc5 rfl hb (by first|exact get8 (by omega)|exact get64 (by omega)|exact get32 (by omega)) (by first|exact aP|exact bM|exact mem2|exact mem3|exact mem4|exact mem5|exact mem6|exact mem7|exact mem8|exact mem9) rfl ?_
  refine aD (aC rfl) rfl rfl (aD (aC rfl) rfl rfl (aA (aB (s_6 (At.drawn [15] [0,1,2,3,4,5,6,7,8,9,10,11,12,13,14,15] (by kernel_rfl) (by kernel_rfl) (aE (aR rfl rfl rfl (by kernel_rfl)) rfl rfl (aE (aR rfl rfl rfl (by kernel_rfl)) rfl rfl (op_quoI (aR rfl rfl rfl (by kernel_rfl)) rfl rfl (by omega) (by omega) (by omega) rfl (op_nilChk (aR rfl rfl rfl (by kernel_rfl)) rfl rfl (op_idxA (aR rfl rfl rfl (by kernel_rfl)) ae187 rfl rfl (show _=(((i/8:Nat)):Int)from by omega) (by omega) rfl ?_))))))))))
  refine aL (aR rfl rfl rfl (by kernel_rfl)) sc24 rfl B0 (by first|exact get64A (by omega)|rfl|exact getT (by omega)) aP rfl ?_
  refine aE (aR rfl rfl rfl (by kernel_rfl)) rfl rfl (op_conv64 (aR rfl rfl rfl (by kernel_rfl)) (und_some Tryz.underlying5) Tryz.underlying24 rfl (show _=((((l.getD i 0).toNat:Nat)):Int)from by omega) rfl ?_)
  refine aE (aR rfl rfl rfl (by kernel_rfl)) rfl rfl (op_rem (aR rfl rfl rfl (by kernel_rfl)) rfl rfl (by omega) (by omega) rfl (op_mulI (aR rfl rfl rfl (by kernel_rfl)) rfl rfl (by omega) (by omega) rfl (op_shlU (aR rfl rfl rfl (by kernel_rfl)) rfl rfl (show _=(((i % 8*8:Nat)):Int)from by omega) rfl ?_)))
  refine op_xorU (aR rfl rfl rfl (by kernel_rfl)) rfl rfl rfl (op_nilChk (aR rfl rfl rfl (by kernel_rfl)) rfl rfl (op_idxA (aR rfl rfl rfl (by kernel_rfl)) ae187 rfl rfl (show _=(((i/8:Nat)):Int)from by omega) (by omega) rfl ?_))
  refine aI (nxos rfl rfl rfl rfl) sz24 rfl rfl rfl rfl rfl B0 (by rw [lenT];simp;omega) sel0 (fun N0 B0=>?_)
  rw [setT (by omega)]at B0
  refine At.oneNil (bC (aB (s_5 (At.region (bI (aC rfl) rfl rfl (by omega) (by omega) rfl (aE (aC rfl) rfl rfl (aA (aB (At.back ?_ (.refl _) ⟨i+1,N0,rfl,rfl,rfl,by omega,B0⟩ ?_)))))))))
  ·exact .cons (by first|exact a6 rfl (by omega)|rfl) (.cons (by first|exact a6 rfl (by omega)|rfl) (.cons (by first|exact a6 rfl (by omega)|rfl) (.cons (by first|exact a6 rfl (by omega)|rfl) .nil)))
  ·omega
 refine At.exit (aM (aM (At.inHit (aB (s_1 (At.region ?_))))))
 obtain rfl:i=136:=by omega
 refine aE (aC rfl) rfl rfl (op_call (nxl rfl) (.cons rfl .nil) (FPermute_f hal B0) (F:= [R]) Tryz.func157 rfl rfl (.refl _) (by simp) rfl ?_)
 rintro v30 L30 ⟨N0,rfl,rfl,B0⟩
 change At _ _ _ [N0,R] _
 refine aA (At.retNE (L1:= [N0]) rfl .nil rfl (.refl _) (.refl _) ?_)
 exact⟨N0,rfl,rfl,B0⟩
set_option maxRecDepth 100000 in
theorem FNew_f:Fn Tryz.prog 120 #[] [] [] (fun v L=> ∃M b e,v=.pointer (some ⟨b,0,none⟩)∧L= [M]∧Blk M b e (u64s (List.replicate 25 0)++ [.slice none 0 0])):=by
 refine Fn.enter (vs:= []) Tryz.func120 rfl rfl rfl ?_
 intro E R hR
 change At _ _ E [R] _
 refine At.seq fun _ s_1=>At.region (aD (aC rfl) rfl rfl (aA (aB (s_1 (At.seq fun _ s_2=>At.region (op_build (out:= [.int .u64 0,.int .u64 0,.int .u64 0,.int .u64 0,.int .u64 0,.int .u64 0,.int .u64 0,.int .u64 0,.int .u64 0,.int .u64 0,.int .u64 0,.int .u64 0,.int .u64 0,.int .u64 0,.int .u64 0,.int .u64 0,.int .u64 0,.int .u64 0,.int .u64 0,.int .u64 0,.int .u64 0,.int .u64 0,.int .u64 0,.int .u64 0,.int .u64 0,.slice none 0 0]) (aC rfl) ze189 pl189 .nil rfl rfl (op_box (aT rfl) rfl rfl rfl (fun N2 b2 B2=>aD (aC rfl) rfl rfl (aA (aB (s_2 (At.ret ((aW (L1:= [N2]) rfl (.tmp rfl .nil) (.refl _) (.refl _) ?_))))))))))))))
 exact⟨N2,b2,_,rfl,rfl,B2⟩
theorem copy_last {r:List UInt8} {o k:Nat} (ho:o=0) (hk:k=r.length) (hr:r.length≤136):(u8s (List.replicate 136 0)).take o++(u8s r).take k++(u8s (List.replicate 136 0)).drop (o+k)=u8s (r++List.replicate (136- r.length) 0):=by
 subst ho;subst hk
 rw [List.take_zero,List.nil_append,Nat.zero_add,List.take_of_length_le (by simp [u8s]),show u8s (List.replicate 136 0)=List.replicate 136 (vb 0)from List.map_replicate,List.drop_replicate,u8s,u8s,List.map_append,List.map_replicate]
theorem padZ_len {r:List UInt8} (hr:r.length<136):(r++List.replicate (136- r.length) 0).length=136:=by
 rw [List.length_append,List.length_replicate];omega
theorem padL_len {r:List UInt8} (hr:r.length<136):(padL r).length=136:=by
 unfold padL
 simp only [List.length_set]
 exact padZ_len hr
theorem zeBlk:zer Tryz.prog 229=some (.agg (u8s (List.replicate 136 0)).toArray):=by kernel_rfl
set_option maxRecDepth 100000 in
set_option maxHeartbeats 2000000 in
theorem FSum_f {N M:Heaplet} {b0:Nat} {e0:TypeId} {a:List UInt64} {ao:Option Addr} {n cap:Nat} {r:List UInt8} (ha:a.length=25) (B0:Blk N b0 e0 (u64s a++ [.slice ao n cap])) (hb:RSl M 1 ao n cap (u8s r)) (hn:n<136):Fn Tryz.prog 122 #[.pointer (some ⟨b0,0,none⟩)] [N] [M] (fun v L=>v=.agg (u8s (ouI (absorb a (padL r)) 32)).toArray∧L= []):=by
 obtain⟨N0,h0⟩: ∃N0,N0=N:=⟨_,rfl⟩
 rw [←h0]at B0⊢
 have hlen:=hb.len8
 have hcap:=hb.cap63
 have hrest:(u64s a++ [Value.slice ao n cap])[0+25]? =some (.slice ao n cap):=by
  rw [List.getElem?_append_right (by simp [u64s,ha]),show 0+25- (u64s a).length=0 by simp [u64s,ha]];rfl
 have hlan:((u64s a++ [Value.slice ao n cap]).drop (0+0)).take 25=u64s a:=by
  rw [List.drop_zero,List.take_append_of_le_length (by simp [u64s,ha]),List.take_of_length_le (by simp [u64s,ha])]
 have hpz:=padZ_len (r:=r) (by omega)
 have hpl:=padL_len (r:=r) (by omega)
 obtain⟨A,hA⟩: ∃A,absorb a (padL r)=A:=⟨_,rfl⟩
 have hAl:A.length=25:=by rw [←hA,absorb_len];exact ha
 refine Fn.enter (vs:= [.pointer (some ⟨b0,0,none⟩)]) Tryz.func122 rfl rfl rfl ?_
 intro E R hR
 have hb:=hb.le (hR M (by simp))
 change At _ _ E [N0,R] _
 refine At.seq fun _ s_1=>At.region (aS (aT rfl) ze39 rfl (fun N2 b2 B2=>?_))
 change Blk N2 b2 _ [.int .u8 0,.int .u8 0,.int .u8 0,.int .u8 0,.int .u8 0,.int .u8 0,.int .u8 0,.int .u8 0,.int .u8 0,.int .u8 0,.int .u8 0,.int .u8 0,.int .u8 0,.int .u8 0,.int .u8 0,.int .u8 0,.int .u8 0,.int .u8 0,.int .u8 0,.int .u8 0,.int .u8 0,.int .u8 0,.int .u8 0,.int .u8 0,.int .u8 0,.int .u8 0,.int .u8 0,.int .u8 0,.int .u8 0,.int .u8 0,.int .u8 0,.int .u8 0]at B2
 refine aA (aB (s_1 (At.seq fun _ s_2=>At.region (aS (aT rfl) zeBlk rfl (fun N3 b3 B3=>?_)))))
 change Blk N3 b3 _ (u8s (List.replicate 136 0))at B3
 refine aA (aB (s_2 (At.seq fun _ s_3=>At.drawn [5] [0,1,2,3,4,5] (by kernel_rfl) (by kernel_rfl) (op_sliceA (aR rfl rfl rfl (by kernel_rfl)) ae229 rfl .none .none .none (by omega) (by omega) (by omega) (by simp) rfl (aE (aR rfl rfl rfl (by kernel_rfl)) rfl rfl (op_nilChk (aR rfl rfl rfl (by kernel_rfl)) rfl rfl (aF (aR rfl rfl rfl (by kernel_rfl)) fl189_1 rfl rfl (aL (aR rfl rfl rfl (by kernel_rfl)) sc22 rfl B0 (by first|rfl|exact hrest) mem2 rfl ?_))))))))
 refine op_copyB (nxos rfl rfl rfl rfl) se22 rfl rfl B3 hb (by first|exact aP|exact bM|exact mem2|exact mem3|exact mem4|exact mem5|exact mem6|exact mem7|exact mem8|exact mem9) (by first|exact one_u8s _|exact one_u64s _|exact one_u32s _|(intro u hu;simp at hu;subst hu;rfl)) (by simp [u8s];omega) sel0 rfl (fun N3 B3=>?_)
 rw [copy_last rfl (by omega) (by omega)]at B3
 refine At.oneNil (aB (s_3 (At.seq fun _ s_4=>At.region (aE (aC rfl) rfl rfl (op_nilChk (aC rfl) rfl rfl (aF (aC rfl) fl189_1 rfl rfl (aL (aC rfl) sc22 rfl B0 (by first|rfl|exact hrest) mem2 rfl ?_)))))))
 refine a7 (aC rfl) se22 rfl rfl (op_idxA (aC rfl) ae229 rfl rfl (show _=(((n:Nat)):Int)from by omega) (by omega) rfl ?_)
 refine aI (nxl rfl) sz5 rfl rfl rfl rfl rfl B3 (by simp [u8s];omega) sel0 (fun N3 B3=>?_)
 rw [show Value.int .u8 1=.int .u8 ((1:UInt8).toNat:Int)from rfl,set8A]at B3
 obtain⟨z,hz⟩: ∃z,(r++List.replicate (136- r.length) 0).set n 1=z:=⟨_,rfl⟩
 have hzl:z.length=136:=by rw [←hz,List.length_set];exact hpz
 have hpad:padL r=z.set 135 (z.getD 135 0 |||128):=by rw [←hz,padL,hlen]
 rw [hz]at B3
 refine aA (aB (s_4 (At.seq fun _ s_5=>At.region (op_idxA (aC rfl) ae229 rfl rfl (show _=(((135:Nat)):Int)from by omega) (by omega) rfl ?_))))
 refine aL (aC rfl) sc5 rfl B3 (get8A (by omega)) (by first|exact aP|exact bM|exact mem2) rfl (op_bits (by simp) (aC rfl) rfl rfl rfl ?_)
 rw [or128]
 refine op_idxA (aC rfl) ae229 rfl rfl (show _=(((135:Nat)):Int)from by omega) (by omega) rfl ?_
 refine aI (nxl rfl) sz5 rfl rfl rfl rfl rfl B3 (by simp [u8s];omega) sel0 (fun N3 B3=>?_)
 rw [set8A, ←hpad]at B3
 refine aA (aB (s_5 (At.seq fun _ s_6=>At.region (aE (aC rfl) rfl rfl (op_nilChk (aC rfl) rfl rfl (aF (aC rfl) fl189_0 rfl rfl (aQ (ds:=u64s a) (aC rfl) ag187 rfl B0 hlan (by simp [u64s,ha]) (by first|exact aP|exact bM|exact mem2) rfl ?_)))))))
 refine aS (aT rfl) ze187 rfl (fun N4 b4 B4=>?_)
 change Blk N4 b4 _ [.int .u64 0,.int .u64 0,.int .u64 0,.int .u64 0,.int .u64 0,.int .u64 0,.int .u64 0,.int .u64 0,.int .u64 0,.int .u64 0,.int .u64 0,.int .u64 0,.int .u64 0,.int .u64 0,.int .u64 0,.int .u64 0,.int .u64 0,.int .u64 0,.int .u64 0,.int .u64 0,.int .u64 0,.int .u64 0,.int .u64 0,.int .u64 0,.int .u64 0]at B4
 refine aI (nxl rfl) sz187 rfl rfl rfl (by simp [u64s,ha]) (all64 _) B4 (by simp [u64s,ha]) sel0 (fun N4 B4=>?_)
 rw [setL_whole (by simp [u64s,ha]), ←List.append_nil (u64s a)]at B4
 refine aA (aB (s_6 (At.seq fun _ s_7=>At.region (op_sliceA (aC rfl) ae229 rfl .none .none .none (by omega) (by omega) (by omega) (by simp) rfl ?_))))
 have sL:=blk8 B3 hpl (by omega)
 refine op_call (nxl rfl) (.cons rfl (.cons rfl .nil)) (FAbsorb_f ha B4 sL rfl) (F:= [N3,N2,N0,R]) Tryz.func121 rfl rfl (.refl _) (by simp) rfl ?_
 rintro v28 L28 ⟨N4,rfl,rfl,B4⟩
 change At _ _ _ [N4,N3,N2,N0,R] _
 rw [List.append_nil,hA]at B4
 refine aA (aB (s_7 (At.seq fun _ s_8=>At.region (aS (aT rfl) ze39 rfl (fun N5 b5 B5=>?_)))))
 change Blk N5 b5 _ [.int .u8 0,.int .u8 0,.int .u8 0,.int .u8 0,.int .u8 0,.int .u8 0,.int .u8 0,.int .u8 0,.int .u8 0,.int .u8 0,.int .u8 0,.int .u8 0,.int .u8 0,.int .u8 0,.int .u8 0,.int .u8 0,.int .u8 0,.int .u8 0,.int .u8 0,.int .u8 0,.int .u8 0,.int .u8 0,.int .u8 0,.int .u8 0,.int .u8 0,.int .u8 0,.int .u8 0,.int .u8 0,.int .u8 0,.int .u8 0,.int .u8 0,.int .u8 0]at B5
 change Blk N5 b5 _ (u8s (ouI A 0))at B5
 refine aA (aB (s_8 (At.seq fun _ s_9=>At.seq fun _ s_10=>At.region (aE (aC rfl) rfl rfl (aA (aB (s_10 (At.block (At.sub (L':= [N5,N4,N2,R]) (.cons_cons _ (.cons_cons _ (.cons _ (.cons_cons _ (.cons _ (.cons_cons _ (.slnil))))))) (At.loop (fun fr_ hp_ ms_=> ∃(i:Nat) (N5:Heaplet),fr_= [(2,.pointer (some ⟨b2,0,none⟩)),(4,.pointer (some ⟨b4,0,none⟩)),(5,.pointer (some ⟨b5,0,none⟩)),(29,.int .i64 (i:Int))]∧hp_= [N5,N4,N2,R]∧32- i=ms_∧(i≤32)∧(Blk N5 b5 39 (u8s (ouI A i)))) ?_ (.refl _) ⟨0,N5,rfl,rfl,rfl,by omega,B5⟩ ?_))))))))))
 ·exact .cons (by first|exact a6 rfl (by omega)|rfl) (.cons (by first|exact a6 rfl (by omega)|rfl) (.cons (by first|exact a6 rfl (by omega)|rfl) (.cons (by first|exact a6 rfl (by omega)|rfl) .nil)))
 rintro _ _ _ ⟨i,N5,rfl,rfl,rfl,hi,B5⟩
 have hol:=ouI_len A i
 refine At.seq fun _ s_11=>At.region (op_lss (aC rfl) rfl rfl rfl (aA (aB (s_11 (At.seq fun _ s_12=>aO rfl (fun c30=>?_) (fun c30=>?_))))))
 ·refine At.skip (aB (s_12 (At.seq fun _ s_13=>At.block (At.seq fun _ s_14=>At.region (aE (aC rfl) rfl rfl (aD (aC rfl) rfl rfl (aA (aB (s_14 (At.region (aE (aC rfl) rfl rfl (aE (aC rfl) rfl rfl (op_quoI (aC rfl) rfl rfl (by omega) (by omega) (by omega) rfl (op_idxA (aC rfl) ae187 rfl rfl (show _=(((i/8:Nat)):Int)from by omega) (by omega) rfl ?_))))))))))))))
  refine aL (aC rfl) sc24 rfl B4 (get64A (by omega)) (by first|exact aP|exact bM|exact mem2) rfl (aE (aC rfl) rfl rfl (op_rem (aC rfl) rfl rfl (by omega) (by omega) rfl (op_mulI (aC rfl) rfl rfl (by omega) (by omega) rfl (op_shrU (aC rfl) rfl rfl (show _=(((i % 8*8:Nat)):Int)from by omega) rfl ?_))))
  refine op_conv8 (aC rfl) (und_some Tryz.underlying24) Tryz.underlying5 rfl (show _=((((shr64 (A.getD (i/8) 0) (i % 8*8)).toNat:Nat)):Int)from by omega) rfl ?_
  refine op_idxA (aC rfl) ae39 rfl rfl (show _=(((i:Nat)):Int)from by omega) (by omega) rfl ?_
  refine aI (nxl rfl) sz5 rfl rfl rfl rfl rfl B5 (by simp<;>omega) sel0 (fun N5 B5=>?_)
  rw [set8A]at B5
  refine aA (bC (aB (s_13 (At.region (bI (aC rfl) rfl rfl (by omega) (by omega) rfl (aE (aC rfl) rfl rfl (aA (aB (At.back ?_ (.refl _) ⟨i+1,N5,rfl,rfl,rfl,by omega,B5⟩ ?_)))))))))
  ·exact .cons (by first|exact a6 rfl (by omega)|rfl) (.cons (by first|exact a6 rfl (by omega)|rfl) (.cons (by first|exact a6 rfl (by omega)|rfl) (.cons (by first|exact a6 rfl (by omega)|rfl) .nil)))
  ·omega
 refine At.exit (aM (aM (At.inHit (aB (s_9 (At.seq fun _ s_15=>At.region ?_))))))
 obtain rfl:i=32:=by omega
 obtain⟨o,ho⟩: ∃o,ouI A 32=o:=⟨_,rfl⟩
 rw [ho]at B5 hol
 refine aQ (ds:=u8s o) (aC rfl) ag39 rfl B5 (by rw [List.drop_zero,List.take_of_length_le (by simp [u8s,hol])]) (by simp [u8s,hol]) (by first|exact aP|exact bM|exact mem2) rfl ?_
 refine aI (nxl rfl) sz39 rfl rfl rfl (by simp [u8s,hol]) (all8 _) B2 (by simp [u8s,hol]) sel2 (fun N2 B2=>?_)
 rw [setL_whole (by simp [u8s,hol])]at B2
 refine aA (aB (s_15 (At.ret ((At.sub (L':= [N2,R]) (.cons_cons _ (.cons _ (.cons _ (.cons_cons _ (.slnil))))) (aW (L1:= []) rfl (.cell rfl (aZ (ds:=u8s o) ag39 B2 (by rw [List.drop_zero,List.take_of_length_le (by simp [u8s,hol])]) (by simp [u8s,hol]) aP) .nil) (.cons _ (.refl _)) (.refl _) ?_))))))
 exact⟨by rw [hA,ho],rfl⟩
end Go.Proofs.YtjfagifjajielaaGreat
/- The reference's Keccak: turning, constants, permutation. No condition. -/
namespace Go.Proofs.YtjfagifjajielaaGreat
open Go Go.RowKit
end Go.Proofs.YtjfagifjajielaaGreat
/- The reference's permutation. No condition. -/
namespace Go.Proofs.YtjfagifjajielaaGreat
open Go Go.RowKit
theorem all_take {xs:List Value} {k:Nat} (h:xs.length=k):(xs.drop 0).take k=xs:=by rw [List.drop_zero,List.take_of_length_le (by omega)]
theorem len64s {l:List UInt64} {k:Nat} (h:l.length=k):(u64s l).length=k:=by simp [u64s,h]
end Go.Proofs.YtjfagifjajielaaGreat
/- Keccak-256 in the program and in the reference. Condition: at most 2^40 bytes. -/
namespace Go.Proofs.YtjfagifjajielaaGreat
open Go Go.RowKit
/-- What the reference pads. -/
def refX (l:List UInt8) (j:Nat):List UInt8:=l++1::List.replicate j 0
def refB (l:List UInt8) (j:Nat):List UInt8:=(refX l j).set (l.length+j) ((refX l j).getD (l.length+j) 0 |||128)
theorem len8s {l:List UInt8} {k:Nat} (h:l.length=k):(u8s l).length=k:=by simp [u8s,h]
set_option maxRecDepth 100000 in
set_option maxHeartbeats 4000000 in
theorem FKeccak_f {N:Heaplet} {ao:Option Addr} {n cap:Nat} {l:List UInt8} (hb:RSl N 1 ao n cap (u8s l)) (hn:n≤1099511627776):Fn Tryz.prog 78 #[.slice ao n cap] [] [N] (fun v L=>v=.agg (u8s (kec l)).toArray∧L= []):=by
 have hlen:=hb.len8
 have hcap:=hb.cap63
 refine Fn.enter (vs:= [.slice ao n cap]) Tryz.func78 rfl rfl rfl ?_
 intro E R hR
 have hb:=hb.le (hR N (by simp))
 change At _ _ E [R] _
 refine At.seq fun _ s_1=>At.region (aS (aT rfl) ze39 rfl (fun N2 b2 B2=>?_))
 change Blk N2 b2 _ [.int .u8 0,.int .u8 0,.int .u8 0,.int .u8 0,.int .u8 0,.int .u8 0,.int .u8 0,.int .u8 0,.int .u8 0,.int .u8 0,.int .u8 0,.int .u8 0,.int .u8 0,.int .u8 0,.int .u8 0,.int .u8 0,.int .u8 0,.int .u8 0,.int .u8 0,.int .u8 0,.int .u8 0,.int .u8 0,.int .u8 0,.int .u8 0,.int .u8 0,.int .u8 0,.int .u8 0,.int .u8 0,.int .u8 0,.int .u8 0,.int .u8 0,.int .u8 0]at B2
 refine aA (aB (s_1 (At.seq fun _ s_2=>At.region (aG (aT rfl) .nil (FNew_f) Tryz.func120 rfl rfl (by simp) rfl ?_))))
 rintro v4 L4 ⟨N4,b4,e4,rfl,rfl,B4⟩
 change At _ _ _ [N4,N2,R] _
 refine aD (aC rfl) rfl rfl (aA (aB (s_2 (At.seq fun _ s_3=>At.block (At.loop (fun fr_ hp_ ms_=> ∃(k:Nat) (po:Option Addr) (pn pc:Nat) (N4:Heaplet),fr_= [(0,.slice po pn pc),(2,.pointer (some ⟨b2,0,none⟩)),(3,.pointer (some ⟨b4,0,none⟩))]∧hp_= [N4,N2,R]∧n- 136*k=ms_∧(136*k≤n)∧(pn=n- 136*k)∧(RSl R 1 po pn pc (u8s (l.drop (136*k))))∧(Blk N4 b4 e4 (u64s (absN l k)++ [.slice none 0 0]))) ?_ (.refl _) ⟨0,ao,n,cap,N4,rfl,rfl,rfl,by omega,by omega,hb,B4⟩ ?_)))))
 ·exact .cons (by first|exact a6 rfl (by omega)|rfl) (.cons (by first|exact a6 rfl (by omega)|rfl) (.cons (by first|exact a6 rfl (by omega)|rfl) .nil))
 rintro _ _ _ ⟨k,po,pn,pc,N4,rfl,rfl,rfl,hk,hpn,hp,B4⟩
 have hal:=absN_len l k
 have hpc:=hp.cap63
 refine At.seq fun _ s_4=>At.seq fun _ s_5=>At.region (aE (aC rfl) rfl rfl (a7 (aC rfl) se22 rfl rfl (op_geq (aC rfl) rfl rfl rfl (aA (aB (s_5 (aO rfl (fun c7=>?_) (fun c7=>?_))))))))
 ·refine At.skip (aB (s_4 (At.seq fun _ s_6=>At.block (At.drawn [5] [0,1,2,3,4,5] (by kernel_rfl) (by kernel_rfl) (aE (aR rfl rfl rfl (by kernel_rfl)) rfl rfl (op_nilChk (aR rfl rfl rfl (by kernel_rfl)) rfl rfl (aF (aR rfl rfl rfl (by kernel_rfl)) fl189_0 rfl rfl (aE (aR rfl rfl rfl (by kernel_rfl)) rfl rfl (op_slice0 (aR rfl rfl rfl (by kernel_rfl)) se22 rfl (.some rfl (show _=(((136:Nat)):Int)from by omega)) .none (by omega) (by omega) (by simp) rfl ?_)))))))))
  have s14:=hp.take8 (hi:=136) (m:=pc) (by omega) (Nat.le_refl _) (by omega)
  refine op_call (nxos rfl rfl rfl rfl) (.cons rfl (.cons rfl .nil)) (FAbsorb_f hal B4 s14 rfl) (F:= [N2,R]) Tryz.func121 rfl rfl (.refl _) (by simp) rfl ?_
  rintro v15 L15 ⟨N4,rfl,rfl,B4⟩
  change At _ _ _ [N4,N2,R] _
  refine At.oneNil (bC (aB (s_6 (At.region (aE (aC rfl) rfl rfl (op_slice (aC rfl) se22 rfl (.some rfl (show _=(((136:Nat)):Int)from by omega)) .none .none (by omega) (by omega) (by omega) (by simp) rfl ?_))))))
  refine aD (aC rfl) rfl rfl (aA (aB ?_))
  refine At.back ?_ (.refl _) ⟨k+1,sadr po 136 pc 1,pn- 136,pc- 136,N4,rfl,rfl,rfl,by omega,by omega,by rw [show 136*(k+1)=136*k+136 by omega, ←List.drop_drop];exact hp.drop8 (lo:=136) (by omega),B4⟩ ?_
  ·exact .cons (by first|exact a6 rfl (by omega)|rfl) (.cons (by first|exact a6 rfl (by omega)|rfl) (.cons (by first|exact a6 rfl (by omega)|rfl) .nil))
  ·omega
 refine At.exit (aM (aM (At.inHit (aB (s_3 (At.seq fun _ s_7=>At.region (aE (aC rfl) rfl rfl (aE (aC rfl) rfl rfl (op_nilChk (aC rfl) rfl rfl (aF (aC rfl) fl189_1 rfl rfl ?_))))))))))
 refine aL (aC rfl) sc22 rfl B4 (by first|rfl|(rw [List.getElem?_append_right (by rw [len64s hal];decide),len64s hal];rfl)) aP rfl ?_
 refine aE (aC rfl) rfl rfl ?_
 refine op_append0 (aT rfl) Tryz.underlying22 Tryz.underlying22 te5 rfl rfl hp (by first|exact aP|exact bM|exact mem2|exact mem3|exact mem4|exact mem5|exact mem6|exact mem7|exact mem8|exact mem9) (by first|exact one_u8s _|exact one_u64s _|exact one_u32s _|(intro u hu;simp at hu;subst hu;rfl)) (by omega) (by omega) rfl (fun N22 a22 p22 r22=>?_)
 have s22:=r22.rsl
 refine op_nilChk (aC rfl) rfl rfl (aF (aC rfl) fl189_1 rfl rfl (aI (nxl rfl) sz22 rfl rfl rfl rfl rfl B4 (by simp [u64s,hal]) sel1 (fun N4 B4=>?_)))
 have B4:Blk N4 b4 e4 (u64s (absN l k)++ [.slice a22 pn p22]):=by
  rw [setL,setL,List.set_append_right _ _ (by rw [len64s hal];decide),len64s hal]at B4
  exact B4
 refine aA (aB (s_7 (At.seq fun _ s_8=>At.region (aE (aC rfl) rfl rfl ?_))))
 have hkm:k=n/136:=by omega
 have hkec:ouI (absorb (absN l k) (padL (l.drop (136*k)))) 32=kec l:=by rw [kec,hlen, ←hkm]
 have hol:=kec_len l
 refine op_call (nxl rfl) (.cons rfl .nil) (FSum_f hal B4 s22 (by omega)) (F:= [N22,N2,R]) Tryz.func122 rfl rfl (.refl _) (by simp) rfl ?_
 rintro v26 L26 ⟨rfl,rfl⟩
 change At _ _ _ [N22,N2,R] _
 rw [hkec]
 refine aI (nxl rfl) sz39 rfl rfl rfl (len8s hol) (all8 _) B2 (by rw [len8s hol];simp) sel1 (fun N2 B2=>?_)
 rw [setL_whole (by rw [len8s hol];simp)]at B2
 refine aA (aB (s_8 (At.ret ((At.sub (L':= [N2,R]) (.cons_cons _ (.cons _ (.cons_cons _ (.slnil)))) (aW (L1:= []) rfl (.cell rfl (aZ (ds:=u8s (kec l)) ag39 B2 (all_take (len8s hol)) (len8s hol) aP) .nil) (.cons _ (.refl _)) (.refl _) ?_))))))
 exact⟨rfl,rfl⟩
end Go.Proofs.YtjfagifjajielaaGreat
/- The reference's Keccak-256. Condition: at most 2^40 bytes. -/
namespace Go.Proofs.YtjfagifjajielaaGreat
open Go Go.RowKit
end Go.Proofs.YtjfagifjajielaaGreat
/- Package word: Of, Small, sums, differences, products. No condition. -/
namespace Go.Proofs.YtjfagifjajielaaGreat
open Go Go.RowKit
theorem WOf_f (n:UInt64):Fn Tryz.prog 145 #[.int .u64 (n.toNat:Int)] [] [] (fun v L=>v=wo n.toNat∧L= []):=by
 refine Fn.enter (vs:= [.int .u64 (n.toNat:Int)]) Tryz.func145 rfl rfl rfl ?_
 intro E R hR
 change At _ _ E [R] _
 refine At.seq fun _ s_1=>At.region (aS (aT rfl) ze26 rfl (fun N2 b2 B2=>?_))
 change Blk N2 b2 _ [.int .u64 0,.int .u64 0,.int .u64 0,.int .u64 0]at B2
 refine aA (aB (s_1 (At.seq fun _ s_2=>At.region (aE (aC rfl) rfl rfl (op_buildA (out:= [_,.int .u64 0,.int .u64 0,.int .u64 0]) (aC rfl) ze26 ae26 (.cons rfl .nil) rfl rfl (aI (nxl rfl) sz26 rfl rfl rfl rfl rfl B2 (by simp) sel0 (fun N2 B2=>?_)))))))
 simp only [setL,List.set]at B2
 refine aA (aB (s_2 (At.ret ((aW (L1:= []) rfl (.cell rfl (aZ (ds:= [_,_,_,_]) ag26 B2 rfl rfl aP) .nil) (.cons _ (.refl _)) (.refl _) ?_)))))
 exact⟨(wo_small n).symm,rfl⟩
theorem WSmall_no {x:Nat} (hx:x<WW) (h: ¬x<2^64):Fn Tryz.prog 108 #[wo x] [] [] (fun v L=>v=.tuple #[.int .u64 0,.bool false]∧L= []):=by
 have hl:=length_wl x
 have hs:=small_iff hx
 refine Fn.enter (vs:= [wo x]) Tryz.func108 rfl rfl rfl ?_
 intro E R hR
 change At _ _ E [R] _
 refine At.seq fun _ s_1=>At.region (op_box (aT rfl) rfl rfl rfl (fun N1 b1 B1=>?_))
 change Blk N1 b1 _ (u64s (wl x))at B1
 refine aD (aC rfl) rfl rfl (aD (aC rfl) rfl rfl (aA (aB (s_1 (At.seq fun _ s_2=>At.seq fun _ s_3=>At.region (op_idxA (aC rfl) ae26 rfl rfl (show _=((1:Nat):Int)from rfl) (by omega) rfl (aL (aC rfl) sc24 rfl B1 (by first|exact get64A (by omega)|rfl) aP rfl ?_)))))))
 refine op_idxA (aC rfl) ae26 rfl rfl (show _=((2:Nat):Int)from rfl) (by omega) rfl (aL (aC rfl) sc24 rfl B1 (by first|exact get64A (by omega)|rfl) aP rfl ?_)
 refine op_orU (aC rfl) rfl rfl rfl (op_idxA (aC rfl) ae26 rfl rfl (show _=((3:Nat):Int)from rfl) (by omega) rfl (aL (aC rfl) sc24 rfl B1 (by first|exact get64A (by omega)|rfl) aP rfl ?_))
 refine op_orU (aC rfl) rfl rfl rfl (op_neq (aC rfl) rfl rfl rfl (aA (aB (s_3 (aO rfl (fun c12=>?_) (fun c12=>?_))))))
 rotate_left
 ·exact absurd (hs.1 (by apply UInt64.toNat_inj.1;show _=0;omega)) h
 refine At.seq fun _ s_4=>At.region (aD (aC rfl) rfl rfl (aD (aC rfl) rfl rfl (aA (aB (s_4 (At.ret (aJ ((At.sub (L':= [R]) (.cons _ (.cons_cons _ (.slnil))) (aU (L1:= []) rfl (.tmp rfl (.tmp rfl .nil)) rfl (.refl _) (.refl _) ?_))))))))))
 exact⟨rfl,rfl⟩
theorem WSmall_f {x:Nat} (hx:x<WW) (h:x<2^64):Fn Tryz.prog 108 #[wo x] [] [] (fun v L=>v=.tuple #[.int .u64 (x:Int),.bool true]∧L= []):=by
 have hl:=length_wl x
 have hs:=(small_iff hx).2 h
 have hv:=small_val h
 refine Fn.enter (vs:= [wo x]) Tryz.func108 rfl rfl rfl ?_
 intro E R hR
 change At _ _ E [R] _
 refine At.seq fun _ s_1=>At.region (op_box (aT rfl) rfl rfl rfl (fun N1 b1 B1=>?_))
 change Blk N1 b1 _ (u64s (wl x))at B1
 refine aD (aC rfl) rfl rfl (aD (aC rfl) rfl rfl (aA (aB (s_1 (At.seq fun _ s_2=>At.seq fun _ s_3=>At.region (op_idxA (aC rfl) ae26 rfl rfl (show _=((1:Nat):Int)from rfl) (by omega) rfl (aL (aC rfl) sc24 rfl B1 (by first|exact get64A (by omega)|rfl) aP rfl ?_)))))))
 refine op_idxA (aC rfl) ae26 rfl rfl (show _=((2:Nat):Int)from rfl) (by omega) rfl (aL (aC rfl) sc24 rfl B1 (by first|exact get64A (by omega)|rfl) aP rfl ?_)
 refine op_orU (aC rfl) rfl rfl rfl (op_idxA (aC rfl) ae26 rfl rfl (show _=((3:Nat):Int)from rfl) (by omega) rfl (aL (aC rfl) sc24 rfl B1 (by first|exact get64A (by omega)|rfl) aP rfl ?_))
 refine op_orU (aC rfl) rfl rfl rfl (op_neq (aC rfl) rfl rfl rfl (aA (aB (s_3 (aO rfl (fun c12=>?_) (fun c12=>?_))))))
 ·exfalso;apply c12;rw [hs];rfl
 refine At.skip (aB (s_2 (At.seq fun _ s_4=>At.region (op_idxA (aC rfl) ae26 rfl rfl (show _=((0:Nat):Int)from rfl) (by omega) rfl (aL (aC rfl) sc24 rfl B1 (by first|exact get64A (by omega)|rfl) aP rfl ?_)))))
 rw [hv]
 refine aD (aC rfl) rfl rfl (aD (aC rfl) rfl rfl (aA (aB (s_4 (At.ret ((At.sub (L':= [R]) (.cons _ (.cons_cons _ (.slnil))) (aU (L1:= []) rfl (.tmp rfl (.tmp rfl .nil)) rfl (.refl _) (.refl _) ?_))))))))
 exact⟨rfl,rfl⟩
end Go.Proofs.YtjfagifjajielaaGreat
/- The engine, words compared. For whatever program. No condition. -/
namespace Go.Proofs.YtjfagifjajielaaGreat
open Go Go.RowKit
section
variable {P : Program}
variable {n : Nat} {l : List (Nat × Value)} {E : World} {L Ls : List Heaplet} {X Y : Act → World → Prop} {d : Nat} {t t' ty e : TypeId} {x y : Operand}
end
end Go.Proofs.YtjfagifjajielaaGreat
