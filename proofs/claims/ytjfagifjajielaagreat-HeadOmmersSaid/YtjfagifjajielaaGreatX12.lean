/- Several texts in one: see the remarks ahead of each part. No condition but those told there. -/
import Derived.Test.YtjfagifjajielaaGreatX1
import Derived.Test.YtjfagifjajielaaGreatX11
import Derived.Test.YtjfagifjajielaaGreatX8
import Derived.Test.YtjfagifjajielaaGreatX5
import Derived.Stop.BytesEq
set_option linter.unusedSimpArgs false
set_option linter.unusedVariables false
namespace Go.Proofs.YtjfagifjajielaaGreat
open Go Go.RowKit
theorem or128 (x:UInt8):bits .or .u8 (x.toNat:Int) 128=((x |||128).toNat:Int):=by
 have h: ∀i:Fin 256,bits .or .u8 (i.1:Int) 128=(((UInt8.ofNat i.1)|||128).toNat:Int):=by decide+kernel
 have e:UInt8.ofNat x.toNat=x:=by
  apply UInt8.toNat_inj.1
  rw [UInt8.toNat_ofNat'];exact Nat.mod_eq_of_lt x.toNat_lt
 have:=h ⟨x.toNat,x.toNat_lt⟩
 simp only [e]at this
 exact this
theorem all8 (l:List UInt8):(u8s l).all (·.oneCell')=true:=List.all_eq_true.2 (one_u8s l)
theorem blk8 {N:Heaplet} {b:Nat} {e:TypeId} {L:List UInt8} {k:Nat} (h:Blk N b e (u8s L)) (hk:L.length=k) (hm:k≤9223372036854775807):RSl N 1 (some ⟨b,0+0*1,none⟩) (k- 0) (k- 0) (u8s L):=by
 refine⟨by simp [u8s,hk],Nat.le_refl _,by unfold maxLen;omega,fun h0=>⟨b,0,rfl,h.rng⟩⟩
set_option maxRecDepth 100000 in
set_option maxHeartbeats 1000000 in
theorem FAbsorb_f {N M:Heaplet} {b0:Nat} {e0:TypeId} {a:List UInt64} {T:List Value} {ao:Option Addr} {n cap:Nat} {l:List UInt8} (ha:a.length=25) (B0:Blk N b0 e0 (u64s a++T)) (hb:RSl M 1 ao n cap (u8s l)) (hn:n=136):Fn Tryz.prog 121 #[.pointer (some ⟨b0,0,none⟩),.slice ao n cap] [N] [M] (fun v L=> ∃M,v=.tuple #[]∧L= [M]∧Blk M b0 e0 (u64s (absorb a l)++T)):=by
 obtain⟨N0,h0⟩: ∃N0,N0=N:=⟨_,rfl⟩
 rw [←h0]at B0⊢
 have hlen:=hb.len8
 have hcap:=hb.cap63
 refine Fn.enter (vs:= [.pointer (some ⟨b0,0,none⟩),.slice ao n cap]) Tryz.func121 U U U ?_
 intro E R hR
 have hb:=hb.le (hR M (by simp))
 change At _ _ E [N0,R] _
 refine aC fun _ s_1=>aC fun _ s_2=>aA (aF U U (bG aD se22 U U (aF U U (aB (s_2 (aT ?_))))))
 change Blk N0 b0 _ (u64s (abI a l 0)++T)at B0
 refine cF (fun fr_ hp_ ms_=> ∃(i:Nat) (N0:Heaplet),fr_= [(0,.pointer (some ⟨b0,0,none⟩)),(6,.slice ao n cap),(7,.int .i64 (n:Int)),(8,.int .i64 (i:Int))]∧hp_= [N0,R]∧136- i=ms_∧(i≤136)∧(Blk N0 b0 e0 (u64s (abI a l i)++T))) ?_ aM ⟨0,N0,rfl,rfl,rfl,by omega,B0⟩ ?_
 ·repeat first|apply bD|exact .nil|exact lkI rfl (by omega)|rfl
 rintro _ _ _ ⟨i,N0,rfl,rfl,rfl,hi,B0⟩
 have hal:=(abI_len a l i).trans ha
 refine aC fun _ s_3=>aA (op_lss aD U U U (aB (s_3 (aC fun _ s_4=>aO U (fun c9=>?_) (fun c9=>?_)))))
 ·refine aQ (aE (s_4 (aC fun _ s_5=>aT (aC fun _ s_6=>aA (aF U U (bU aD se22 U U hb (show _=(((i:Nat)):Int)from by omega) (by omega) U ?_))))))
  refine cC aD sc5 U hb (by first|exact get8 (by omega)|exact get64 (by omega)|exact get32 (by omega)) (by simp) U ?_
  refine aG U U (aG U U (aB (s_6 (At.drawn [15] [0,1,2,3,4,5,6,7,8,9,10,11,12,13,14,15] (by kernel_rfl) (by kernel_rfl) (aL (aS U U U (by kernel_rfl)) U U (aL (aS U U U (by kernel_rfl)) U U (op_quoI (aS U U U (by kernel_rfl)) U U (by omega) (by omega) (by omega) U (op_nilChk (aS U U U (by kernel_rfl)) U U (cI (aS U U U (by kernel_rfl)) ae187 U U (show _=(((i/8:Nat)):Int)from by omega) (by omega) U ?_)))))))))
  refine aV (aS U U U (by kernel_rfl)) sc24 U B0 (by first|exact get64A (by omega)|rfl|exact getT (by omega)) bZ U ?_
  refine aL (aS U U U (by kernel_rfl)) U U (op_conv64 (aS U U U (by kernel_rfl)) (und_some Tryz.underlying5) Tryz.underlying24 U (show _=((((l.getD i 0).toNat:Nat)):Int)from by omega) U ?_)
  refine aL (aS U U U (by kernel_rfl)) U U (op_rem (aS U U U (by kernel_rfl)) U U (by omega) (by omega) U (op_mulI (aS U U U (by kernel_rfl)) U U (by omega) (by omega) U (op_shlU (aS U U U (by kernel_rfl)) U U (show _=(((i % 8*8:Nat)):Int)from by omega) U ?_)))
  refine op_xorU (aS U U U (by kernel_rfl)) U U U (op_nilChk (aS U U U (by kernel_rfl)) U U (cI (aS U U U (by kernel_rfl)) ae187 U U (show _=(((i/8:Nat)):Int)from by omega) (by omega) U ?_))
  refine aX (nxos U U U U) sz24 U U U U U B0 (by rw [lenT];simp;omega) sel0 (fun N0 B0=>?_)
  rw [setT (by omega)]at B0
  refine cG (a0 (aE (s_5 (aA (a6 aD U U (by omega) (by omega) U (aF U U (aB (bQ ?_ aM ⟨i+1,N0,rfl,rfl,rfl,by omega,B0⟩ ?_))))))))
  ·repeat first|apply bD|exact .nil|exact lkI rfl (by omega)|rfl
  ·omega
 refine bW (aK (aK (bH (aE (s_1 (aA ?_))))))
 obtain rfl:i=136:=by omega
 refine aF U U (op_call nxQ (.cons U .nil) (FPermute_f hal B0) (F:= [R]) Tryz.func157 U U aM (by simp) U ?_)
 rintro _ _ ⟨N0,rfl,rfl,B0⟩
 show At _ _ _ [N0,R] _
 refine At.opsNil (At.retNE (L1:= [N0]) U .nil U (.refl _) aM ?_)
 exact⟨N0,rfl,rfl,B0⟩
set_option maxRecDepth 100000 in
theorem FNew_f:Fn Tryz.prog 120 #[] [] [] (fun v L=> ∃M b e,v=.pointer (some ⟨b,0,none⟩)∧L= [M]∧Blk M b e (u64s (List.replicate 25 0)++ [.slice none 0 0])):=by
 refine Fn.enter (vs:= []) Tryz.func120 U U U ?_
 intro E R hR
 change At _ _ E [R] _
 refine aC fun _ s_1=>aA (aG U U (aB (s_1 (aC fun _ s_2=>aA (op_build (out:= [.int .u64 0,.int .u64 0,.int .u64 0,.int .u64 0,.int .u64 0,.int .u64 0,.int .u64 0,.int .u64 0,.int .u64 0,.int .u64 0,.int .u64 0,.int .u64 0,.int .u64 0,.int .u64 0,.int .u64 0,.int .u64 0,.int .u64 0,.int .u64 0,.int .u64 0,.int .u64 0,.int .u64 0,.int .u64 0,.int .u64 0,.int .u64 0,.int .u64 0,.slice none 0 0]) aD ze189 pl189 .nil U U (op_box aZ U U U (fun N2 b2 B2=>aG U U (aB (s_2 (aR ((aW (L1:= [N2]) U (.tmp U .nil) (.refl _) aM ?_))))))))))))
 exact⟨N2,b2,_,rfl,rfl,B2⟩
theorem copy_last {r:List UInt8} {o k:Nat} (ho:o=0) (hk:k=r.length) (hr:r.length≤136):(u8s (List.replicate 136 0)).take o++(u8s r).take k++(u8s (List.replicate 136 0)).drop (o+k)=u8s (r++List.replicate (136- r.length) 0):=by
 subst ho;subst hk
 rw [List.take_zero,List.nil_append,Nat.zero_add,List.take_of_length_le (by simp [u8s]),show u8s (List.replicate 136 0)=List.replicate 136 (vb 0)from List.map_replicate,List.drop_replicate,u8s,u8s,List.map_append,List.map_replicate]
theorem padZ_len {r:List UInt8} (hr:r.length<136):(r++List.replicate (136- r.length) 0).length=136:=by
 rw [List.length_append,List.length_replicate];omega
theorem padL_len {r:List UInt8} (hr:r.length<136):(padL r).length=136:=by
 unfold padL
 simp only [List.length_set]
 exact padZ_len hr
theorem zeBlk:zer Tryz.prog 229=some (.agg (u8s (List.replicate 136 0)).toArray):=by kernel_rfl
set_option maxRecDepth 100000 in
set_option maxHeartbeats 2000000 in
theorem FSum_f {N M:Heaplet} {b0:Nat} {e0:TypeId} {a:List UInt64} {ao:Option Addr} {n cap:Nat} {r:List UInt8} (ha:a.length=25) (B0:Blk N b0 e0 (u64s a++ [.slice ao n cap])) (hb:RSl M 1 ao n cap (u8s r)) (hn:n<136):Fn Tryz.prog 122 #[.pointer (some ⟨b0,0,none⟩)] [N] [M] (fun v L=>v=.agg (u8s (ouI (absorb a (padL r)) 32)).toArray∧L= []):=by
 obtain⟨N0,h0⟩: ∃N0,N0=N:=⟨_,rfl⟩
 rw [←h0]at B0⊢
 have hlen:=hb.len8
 have hcap:=hb.cap63
 have hrest:(u64s a++ [Value.slice ao n cap])[0+25]? =some (.slice ao n cap):=by
  rw [List.getElem?_append_right (by simp [u64s,ha]),show 0+25- (u64s a).length=0 by simp [u64s,ha]];rfl
 have hlan:((u64s a++ [Value.slice ao n cap]).drop (0+0)).take 25=u64s a:=by
  rw [List.drop_zero,List.take_append_of_le_length (by simp [u64s,ha]),List.take_of_length_le (by simp [u64s,ha])]
 have hpz:=padZ_len (r:=r) (by omega)
 have hpl:=padL_len (r:=r) (by omega)
 obtain⟨A,hA⟩: ∃A,absorb a (padL r)=A:=⟨_,rfl⟩
 have hAl:A.length=25:=by rw [←hA,absorb_len];exact ha
 refine Fn.enter (vs:= [.pointer (some ⟨b0,0,none⟩)]) Tryz.func122 U U U ?_
 intro E R hR
 have hb:=hb.le (hR M (by simp))
 change At _ _ E [N0,R] _
 refine aC fun _ s_1=>aA (bE aZ ze39 U (fun N2 b2 B2=>?_))
 change Blk N2 b2 _ [.int .u8 0,.int .u8 0,.int .u8 0,.int .u8 0,.int .u8 0,.int .u8 0,.int .u8 0,.int .u8 0,.int .u8 0,.int .u8 0,.int .u8 0,.int .u8 0,.int .u8 0,.int .u8 0,.int .u8 0,.int .u8 0,.int .u8 0,.int .u8 0,.int .u8 0,.int .u8 0,.int .u8 0,.int .u8 0,.int .u8 0,.int .u8 0,.int .u8 0,.int .u8 0,.int .u8 0,.int .u8 0,.int .u8 0,.int .u8 0,.int .u8 0,.int .u8 0]at B2
 refine aB (s_1 (aC fun _ s_2=>aA (bE aZ zeBlk U (fun N3 b3 B3=>?_))))
 change Blk N3 b3 _ (u8s (List.replicate 136 0))at B3
 refine aB (s_2 (aC fun _ s_3=>At.drawn [5] [0,1,2,3,4,5] (by kernel_rfl) (by kernel_rfl) (op_sliceA (aS U U U (by kernel_rfl)) ae229 U .none .none .none (by omega) (by omega) (by omega) (by simp) U (aL (aS U U U (by kernel_rfl)) U U (op_nilChk (aS U U U (by kernel_rfl)) U U (aI (aS U U U (by kernel_rfl)) fl189_1 U U (aV (aS U U U (by kernel_rfl)) sc22 U B0 (by first|rfl|exact hrest) mem2 U ?_)))))))
 refine op_copyB (nxos rfl rfl rfl rfl) se22 rfl rfl B3 hb (by simp) (by first|exact one_u8s _|exact one_u64s _|exact one_u32s _|(intro u hu;simp at hu;subst hu;rfl)) (by simp [u8s];omega) sel0 rfl (fun N3 B3=>?_)
 rw [copy_last rfl (by omega) (by omega)]at B3
 refine cG (aE (s_3 (aC fun _ s_4=>aA (aF U U (op_nilChk aD U U (aI aD fl189_1 U U (aV aD sc22 U B0 (by first|rfl|exact hrest) mem2 U ?_)))))))
 refine bG aD se22 U U (cI aD ae229 U U (show _=(((n:Nat)):Int)from by omega) (by omega) U ?_)
 refine aX nxQ sz5 U U U U U B3 (by simp [u8s];omega) sel0 (fun N3 B3=>?_)
 rw [show Value.int .u8 1=.int .u8 ((1:UInt8).toNat:Int)from rfl,set8A]at B3
 obtain⟨z,hz⟩: ∃z,(r++List.replicate (136- r.length) 0).set n 1=z:=⟨_,rfl⟩
 have hzl:z.length=136:=by rw [←hz,List.length_set];exact hpz
 have hpad:padL r=z.set 135 (z.getD 135 0 |||128):=by rw [←hz,padL,hlen]
 rw [hz]at B3
 refine aB (s_4 (aC fun _ s_5=>aA (cI aD ae229 U U (show _=(((135:Nat)):Int)from by omega) (by omega) U ?_)))
 refine aV aD sc5 U B3 (get8A (by omega)) (by simp) U (op_bits (by simp) aD U U U ?_)
 rw [or128]
 refine cI aD ae229 U U (show _=(((135:Nat)):Int)from by omega) (by omega) U ?_
 refine aX nxQ sz5 U U U U U B3 (by simp [u8s];omega) sel0 (fun N3 B3=>?_)
 rw [set8A, ←hpad]at B3
 refine aB (s_5 (aC fun _ s_6=>aA (aF U U (op_nilChk aD U U (aI aD fl189_0 U U (aY (ds:=u64s a) aD ag187 U B0 hlan (by simp [u64s,ha]) (by simp) U ?_))))))
 refine bE aZ ze187 U (fun N4 b4 B4=>?_)
 change Blk N4 b4 _ [.int .u64 0,.int .u64 0,.int .u64 0,.int .u64 0,.int .u64 0,.int .u64 0,.int .u64 0,.int .u64 0,.int .u64 0,.int .u64 0,.int .u64 0,.int .u64 0,.int .u64 0,.int .u64 0,.int .u64 0,.int .u64 0,.int .u64 0,.int .u64 0,.int .u64 0,.int .u64 0,.int .u64 0,.int .u64 0,.int .u64 0,.int .u64 0,.int .u64 0]at B4
 refine aX nxQ sz187 U U U (by simp [u64s,ha]) (all64 _) B4 (by simp [u64s,ha]) sel0 (fun N4 B4=>?_)
 rw [setL_whole (by simp [u64s,ha]), ←List.append_nil (u64s a)]at B4
 refine aB (s_6 (aC fun _ s_7=>aA (op_sliceA aD ae229 U .none .none .none (by omega) (by omega) (by omega) (by simp) U ?_)))
 have sL:=blk8 B3 hpl (by omega)
 refine op_call nxQ (.cons U (.cons U .nil)) (FAbsorb_f ha B4 sL U) (F:= [N3,N2,N0,R]) Tryz.func121 U U aM (by simp) U ?_
 rintro _ _ ⟨N4,rfl,rfl,B4⟩
 show At _ _ _ [N4,N3,N2,N0,R] _
 rw [List.append_nil,hA]at B4
 refine aB (s_7 (aC fun _ s_8=>aA (bE aZ ze39 U (fun N5 b5 B5=>?_))))
 change Blk N5 b5 _ [.int .u8 0,.int .u8 0,.int .u8 0,.int .u8 0,.int .u8 0,.int .u8 0,.int .u8 0,.int .u8 0,.int .u8 0,.int .u8 0,.int .u8 0,.int .u8 0,.int .u8 0,.int .u8 0,.int .u8 0,.int .u8 0,.int .u8 0,.int .u8 0,.int .u8 0,.int .u8 0,.int .u8 0,.int .u8 0,.int .u8 0,.int .u8 0,.int .u8 0,.int .u8 0,.int .u8 0,.int .u8 0,.int .u8 0,.int .u8 0,.int .u8 0,.int .u8 0]at B5
 change Blk N5 b5 _ (u8s (ouI A 0))at B5
 refine aB (s_8 (aC fun _ s_9=>aC fun _ s_10=>aA (aF U U (aB (s_10 (aT (dropAt4 (cA (cF (fun fr_ hp_ ms_=> ∃(i:Nat) (N5:Heaplet),fr_= [(2,.pointer (some ⟨b2,0,none⟩)),(4,.pointer (some ⟨b4,0,none⟩)),(5,.pointer (some ⟨b5,0,none⟩)),(29,.int .i64 (i:Int))]∧hp_= [N5,N4,N2,R]∧32- i=ms_∧(i≤32)∧(Blk N5 b5 39 (u8s (ouI A i)))) ?_ aM ⟨0,N5,rfl,rfl,rfl,by omega,B5⟩ ?_)))))))))
 ·repeat first|apply bD|exact .nil|exact lkI rfl (by omega)|rfl
 rintro _ _ _ ⟨i,N5,rfl,rfl,rfl,hi,B5⟩
 have hol:=ouI_len A i
 refine aC fun _ s_11=>aA (op_lss aD U U U (aB (s_11 (aC fun _ s_12=>aO U (fun c30=>?_) (fun c30=>?_)))))
 ·refine aQ (aE (s_12 (aC fun _ s_13=>aT (aC fun _ s_14=>aA (aF U U (aG U U (aB (s_14 (aA (aF U U (aF U U (op_quoI aD U U (by omega) (by omega) (by omega) U (cI aD ae187 U U (show _=(((i/8:Nat)):Int)from by omega) (by omega) U ?_)))))))))))))
  refine aV aD sc24 U B4 (get64A (by omega)) (by simp) U (aF U U (op_rem aD U U (by omega) (by omega) U (op_mulI aD U U (by omega) (by omega) U (op_shrU aD U U (show _=(((i % 8*8:Nat)):Int)from by omega) U ?_))))
  refine op_conv8 aD (und_some Tryz.underlying24) Tryz.underlying5 U (show _=((((shr64 (A.getD (i/8) 0) (i % 8*8)).toNat:Nat)):Int)from by omega) U ?_
  refine cI aD ae39 U U (show _=(((i:Nat)):Int)from by omega) (by omega) U ?_
  refine aX nxQ sz5 U U U U U B5 (by simp<;>omega) sel0 (fun N5 B5=>?_)
  rw [set8A]at B5
  refine At.opsNil (a0 (aE (s_13 (aA (a6 aD U U (by omega) (by omega) U (aF U U (aB (bQ ?_ aM ⟨i+1,N5,rfl,rfl,rfl,by omega,B5⟩ ?_))))))))
  ·repeat first|apply bD|exact .nil|exact lkI rfl (by omega)|rfl
  ·omega
 refine bW (aK (aK (bH (aE (s_9 (aC fun _ s_15=>aA ?_))))))
 obtain rfl:i=32:=by omega
 obtain⟨o,ho⟩: ∃o,ouI A 32=o:=⟨_,rfl⟩
 rw [ho]at B5 hol
 refine aY (ds:=u8s o) aD ag39 U B5 (by rw [List.drop_zero,List.take_of_length_le (by simp [u8s,hol])]) (by simp [u8s,hol]) (by simp) U ?_
 refine aX nxQ sz39 U U U (by simp [u8s,hol]) (all8 _) B2 (by simp [u8s,hol]) sel2 (fun N2 B2=>?_)
 rw [setL_whole (by simp [u8s,hol])]at B2
 refine aB (s_15 (aR ((cA (a7 (aW (L1:= []) U (.cell U (res_agg (ds:=u8s o) ag39 B2 (by rw [List.drop_zero,List.take_of_length_le (by simp [u8s,hol])]) (by simp [u8s,hol]) bZ) .nil) (.cons _ (.refl _)) aM ?_))))))
 exact⟨by rw [hA,ho],rfl⟩
theorem rRol_f (x:UInt64) (k:Nat) (hk:k<64):Fn Tryz.prog 158 #[.int .u64 (x.toNat:Int),.int .i64 (k:Int)] [] [] (fun v L=>v=.int .u64 ((rolN x k).toNat:Int)∧L= []):=by
 refine Fn.enter (vs:= [.int .u64 (x.toNat:Int),.int .i64 (k:Int)]) Tryz.func158 U U U ?_
 intro E R hR
 change At _ _ E [R] _
 refine aC fun _ s_1=>aA (aG U U (aB (s_1 (aC fun _ s_2=>aC fun _ s_3=>aA (aF U U (op_eql aD U U U (aB (s_3 (aO U (fun c6=>?_) (fun c6=>?_))))))))))
 ·obtain rfl:k=0:=by omega
  refine aC fun _ s_4=>aA (aF U U (aG U U (aB (s_4 (aR (aJ ((aW (L1:= []) U (.tmp U .nil) (.refl _) aM ?_))))))))
  exact⟨by rw [rolN,if_pos rfl],rfl⟩
 refine aQ (aE (s_2 (aC fun _ s_5=>At.drawn [] [0,1,2,3,4,5,6,7,8] (by kernel_rfl) (by kernel_rfl) (aL (aS U U U (by kernel_rfl)) U U (aL (aS U U U (by kernel_rfl)) U U (op_shlU (aS U U U (by kernel_rfl)) U U (show _=(((k:Nat)):Int)from by omega) U ?_))))))
 refine aL (aS U U U (by kernel_rfl)) U U (aL (aS U U U (by kernel_rfl)) U U (op_subI (aS U U U (by kernel_rfl)) U U (by omega) (by omega) U (op_shrU (aS U U U (by kernel_rfl)) U U (show _=(((64- k:Nat)):Int)from by omega) U ?_)))
 refine op_orU (aS U U U (by kernel_rfl)) U U U (bX (aS U U U (by kernel_rfl)) U U (cG (aE (s_5 (aR ((aW (L1:= []) U (.tmp U .nil) (.refl _) aM ?_)))))))
 exact⟨by rw [rolN,if_neg (by omega)],rfl⟩
theorem wrap2 {x:Int} (h0:0≤x) (h1:x≤255):IntKind.i64.wrap (x*2^(min (1:Int).toNat IntKind.i64.bits))=x*2:=by
 rw [show(2:Int)^(min (1:Int).toNat IntKind.i64.bits)=2 from rfl]
 exact wrap_i64 (by omega) (by omega)
set_option maxRecDepth 100000 in
set_option maxHeartbeats 1000000 in
theorem rConst_f (r:Nat) (hr:r<24):Fn Tryz.prog 159 #[.int .i64 (r:Int)] [] [] (fun v L=>v=.int .u64 ((rcL.getD r 0).toNat:Int)∧L= []):=by
 have hfin:wJ r (7*r+7)=rcL.getD r 0:=wJ_ok ⟨r,hr⟩
 refine Fn.enter (vs:= [.int .i64 (r:Int)]) Tryz.func159 U U U ?_
 intro E R hR
 change At _ _ E [R] _
 refine aC fun _ s_1=>aA (aG U U (aB (s_1 (aC fun _ s_2=>aA (aG U U (aB (s_2 (aC fun _ s_3=>aA (aG U U (aB (s_3 (aC fun _ s_4=>aC fun _ s_5=>aA (aG U U (aB (s_5 (aT (cF (fun fr_ hp_ ms_=> ∃(n:Nat),fr_= [(0,.int .i64 (r:Int)),(3,.int .i64 (rJ n)),(4,.int .u64 ((wJ r n).toNat:Int)),(5,.int .i64 (n:Int))]∧hp_= [R]∧7*r+7- n=ms_∧(n≤7*r+7)) ?_ aM ⟨0,rfl,rfl,rfl,by omega⟩ ?_)))))))))))))))))
 ·repeat first|apply bD|exact .nil|exact lkI rfl (by omega)|rfl
 rintro _ _ _ ⟨n,rfl,rfl,rfl,hn⟩
 obtain⟨hj0,hj1⟩:=rJ_ok ⟨n,by omega⟩
 simp only at hj0 hj1
 refine aC fun _ s_6=>aC fun _ s_7=>aA (aF U U (aF U U (op_mulI aD U U (by omega) (by omega) U (a6 aD U U (by omega) (by omega) U (op_lss aD U U U (aB (s_7 (aO U (fun c10=>?_) (fun c10=>?_)))))))))
 ·refine aQ (aE (s_6 (aC fun _ s_8=>aT (aC fun _ s_9=>At.meet (fun fr_ hp_=>fr_= [(0,.int .i64 (r:Int)),(3,.int .i64 (rJ n)),(4,.int .u64 ((wJ r (n+1)).toNat:Int)),(5,.int .i64 (n:Int))]∧hp_= [R]∧(True)) ?_ (fun K9_ jk_9=>?_)))))
  rotate_left
  ·skip
   refine aC fun _ s_10=>aA (aF U U (aF U U (op_mulI aD U U (by omega) (by omega) U (op_geq aD U U U (aF U U (cJ (d:=17) U (fun g17=>?_) (fun g17=>?_)))))))
   ·have hge:7*r≤n:=by omega
    refine aL (cL U U U U) U U (op_bits (by simp) (cL U U U U) U U U (op_eql (cL U U U U) U U U (bO aD U U U (aB (s_10 (aO U (fun c21=>?_) (fun c21=>?_)))))))
    ·have hw:wJ r (n+1)=wJ r n |||shl64 1 (shl64 1 (n- 7*r)- 1).toNat:=by rw [wJ,if_pos ⟨hge,by assumption⟩]
     refine aA (aF U U (aF U U (aF U U (op_mulI aD U U (by omega) (by omega) U (op_subI aD U U (by omega) (by omega) U (op_shlU (a:=1) aD U U (show _=(((n- 7*r:Nat)):Int)from by omega) U ?_))))))
     refine op_subU (b:=1) aD U U U (op_shlU (a:=1) aD U U (show _=((((shl64 1 (n- 7*r)- 1).toNat:Nat)):Int)from by omega) U ?_)
     refine op_orU aD U U U ?_
     rw [←hw]
     refine aG U U (aB (jk_9 ?_ aM ⟨rfl,rfl,trivial⟩))
     repeat first|apply bD|exact .nil|exact lkI rfl (by omega)|rfl
    have hw:wJ r (n+1)=wJ r n:=by rw [wJ,if_neg (fun h=>by have:=h.2;contradiction)]
    refine aQ ?_
    rw [←hw]
    refine aE (jk_9 ?_ aM ⟨rfl,rfl,trivial⟩)
    repeat first|apply bD|exact .nil|exact lkI rfl (by omega)|rfl
   have hw:wJ r (n+1)=wJ r n:=by rw [wJ,if_neg (fun h=>by omega)]
   refine aU U U U U U U U (aU U U U U U U U (aU U U U U U U U (cB aD U U U (aB (s_10 (At.condF U (aQ ?_)))))))
   rw [←hw]
   refine aE (jk_9 ?_ aM ⟨rfl,rfl,trivial⟩)
   repeat first|apply bD|exact .nil|exact lkI rfl (by omega)|rfl
  rintro _ _ ⟨rfl,rfl,ht⟩
  refine s_9 (aC fun _ s_11=>aA (aF U U (op_shlW aD U U (by omega) U ?_)))
  rw [wrap2 hj0 hj1]
  refine aG U U (aB (s_11 (aC fun _ s_12=>aA (aF U U (op_geq aD U U U (aB (s_12 (aO U (fun c34=>?_) (fun c34=>?_)))))))))
  ·have hx:rJ (n+1)=bits .xor .i64 (rJ n*2- 256) 113:=by rw [rJ,if_pos (by omega)]
   refine aA (aF U U (op_subI aD U U (by omega) (by omega) U (op_bits (by simp) aD U U U ?_)))
   rw [←hx]
   refine aG U U (At.opsNil (a0 (aE (s_8 (aA (aF U U (a6 aD U U (by omega) (by omega) U (aG U U (aB (bQ ?_ aM ⟨n+1,rfl,rfl,rfl,by omega⟩ ?_))))))))))
   ·repeat first|apply bD|exact .nil|exact lkI rfl (by omega)|rfl
   ·omega
  have hx:rJ (n+1)=rJ n*2:=by rw [rJ,if_neg (by omega)]
  rw [←hx]
  refine aQ (a0 (aE (s_8 (aA (aF U U (a6 aD U U (by omega) (by omega) U (aG U U (aB (bQ ?_ aM ⟨n+1,rfl,rfl,rfl,by omega⟩ ?_)))))))))
  ·repeat first|apply bD|exact .nil|exact lkI rfl (by omega)|rfl
  ·omega
 refine bW (aK (aK (bH (aE (s_4 (aC fun _ s_13=>aA (aF U U (aG U U (aB (s_13 (aR ((aW (L1:= []) U (.tmp U .nil) (.refl _) aM ?_)))))))))))))
 obtain rfl:n=7*r+7:=by omega
 exact⟨by rw [hfin],rfl⟩
theorem all_take {xs:List Value} {k:Nat} (h:xs.length=k):(xs.drop 0).take k=xs:=by rw [List.drop_zero,List.take_of_length_le (by omega)]
theorem len64s {l:List UInt64} {k:Nat} (h:l.length=k):(u64s l).length=k:=by simp [u64s,h]
set_option maxRecDepth 100000 in
set_option maxHeartbeats 4000000 in
theorem rPermute_f {a:List UInt64} (ha:a.length=25):Fn Tryz.prog 127 #[.agg (u64s a).toArray] [] [] (fun v L=>v=.agg (u64s (prm a 24)).toArray∧L= []):=by
 refine Fn.enter (vs:= [.agg (u64s a).toArray]) Tryz.func127 U U U ?_
 intro E R hR
 change At _ _ E [R] _
 refine aC fun _ s_1=>aA (op_box aZ U U U (fun N1 b1 B1=>?_))
 change Blk N1 b1 _ (u64s (prm a 0))at B1
 refine bE aZ ze186 U (fun N2 b2 B2=>?_)
 change Blk N2 b2 _ [.int .u64 0,.int .u64 0,.int .u64 0,.int .u64 0,.int .u64 0,.int .u64 0,.int .u64 0,.int .u64 0,.int .u64 0,.int .u64 0,.int .u64 0,.int .u64 0,.int .u64 0,.int .u64 0,.int .u64 0,.int .u64 0,.int .u64 0,.int .u64 0,.int .u64 0,.int .u64 0,.int .u64 0,.int .u64 0,.int .u64 0,.int .u64 0,.int .u64 0]at B2
 refine aB (s_1 (aC fun _ s_2=>aC fun _ s_3=>aA (aG U U (aB (s_3 (aT (bR (permSel1 (bR (cF (fun fr_ hp_ ms_=> ∃(k:Nat) (N1:Heaplet),fr_= [(1,.pointer (some ⟨b1,0,none⟩)),(2,.pointer (some ⟨b2,0,none⟩)),(3,.int .i64 (k:Int))]∧hp_= [N1,N2,R]∧24- k=ms_∧(k≤24)∧(Blk N1 b1 186 (u64s (prm a k)))) ?_ aM ⟨0,N1,rfl,rfl,rfl,by omega,B1⟩ ?_))))))))))
 ·repeat first|apply bD|exact .nil|exact lkI rfl (by omega)|rfl
 rintro _ _ _ ⟨k,N1,rfl,rfl,rfl,hk,B1⟩
 have hpl:=(prm_len a k).trans ha
 refine aC fun _ s_4=>aC fun _ s_5=>aA (aF U U (op_lss aD U U U (aB (s_5 (aO U (fun c16=>?_) (fun c16=>?_))))))
 ·refine aQ (aE (s_4 (aC fun _ s_6=>aT (aC fun _ s_7=>aA (bE aZ ze230 U (fun N4 b4 B4=>?_))))))
  change Blk N4 b4 _ [.int .u64 0,.int .u64 0,.int .u64 0,.int .u64 0,.int .u64 0]at B4
  obtain⟨p,hp⟩: ∃p,prm a k=p:=⟨_,rfl⟩
  rw [hp]at B1 hpl
  change Blk N4 b4 _ (u64s (thC p 0))at B4
  refine aB (s_7 (aC fun _ s_8=>aC fun _ s_9=>aA (aG U U (aB (s_9 (aT (cF (fun fr_ hp_ ms_=> ∃(i:Nat) (N4:Heaplet),fr_= [(1,.pointer (some ⟨b1,0,none⟩)),(2,.pointer (some ⟨b2,0,none⟩)),(3,.int .i64 (k:Int)),(4,.pointer (some ⟨b4,0,none⟩)),(5,.int .i64 (i:Int))]∧hp_= [N4,N1,N2,R]∧25- i=ms_∧(i≤25)∧(Blk N4 b4 230 (u64s (thC p i)))) ?_ aM ⟨0,N4,rfl,rfl,rfl,by omega,B4⟩ ?_)))))))
  ·repeat first|apply bD|exact .nil|exact lkI rfl (by omega)|rfl
  rintro _ _ _ ⟨i,N4,rfl,rfl,rfl,hi,B4⟩
  have hcl:=thC_len p i
  refine aC fun _ s_10=>aC fun _ s_11=>aA (aF U U (op_lss aD U U U (aB (s_11 (aO U (fun c20=>?_) (fun c20=>?_))))))
  ·refine aQ (aE (s_10 (aC fun _ s_12=>aT (At.drawn [11] [0,1,2,3,4,5,6,7,8,9,10,11] (by kernel_rfl) (by kernel_rfl) (aL (aS U U U (by kernel_rfl)) U U (op_rem (aS U U U (by kernel_rfl)) U U (by omega) (by omega) U (aL (aS U U U (by kernel_rfl)) U U (op_rem (aS U U U (by kernel_rfl)) U U (by omega) (by omega) U (cI (aS U U U (by kernel_rfl)) ae230 U U (show _=(((i % 5:Nat)):Int)from by omega) (by omega) U ?_)))))))))
   -- an operation that writes, not last
   refine aV (aS U U U (by kernel_rfl)) sc24 U B4 (get64A (by omega)) (by simp) U (aL (aS U U U (by kernel_rfl)) U U (cI (aS U U U (by kernel_rfl)) ae186 U U (show _=(((i:Nat)):Int)from by omega) (by omega) U ?_))
   -- an operation that writes, not last
   refine aV (aS U U U (by kernel_rfl)) sc24 U B1 (get64A (by omega)) (by simp) U (op_xorU (aS U U U (by kernel_rfl)) U U U (cI (aS U U U (by kernel_rfl)) ae230 U U (show _=(((i % 5:Nat)):Int)from by omega) (by omega) U ?_))
   refine aX (nxos U U U U) sz24 U U U U U B4 (by simp<;>omega) sel0 (fun N4 B4=>?_)
   rw [set64A]at B4
   refine cG (a0 (aE (s_12 (aA (aF U U (a6 aD U U (by omega) (by omega) U (aG U U (aB (bQ ?_ aM ⟨i+1,N4,rfl,rfl,rfl,by omega,B4⟩ ?_)))))))))
   ·repeat first|apply bD|exact .nil|exact lkI rfl (by omega)|rfl
   ·omega
  refine bW (aK (aK (bH (aE (s_8 (aC fun _ s_13=>aC fun _ s_14=>aA (aG U U (aB (s_14 (aT ?_))))))))))
  obtain rfl:i=25:=by omega
  obtain⟨c,hc⟩: ∃c,thC p 25=c:=⟨_,rfl⟩
  rw [hc]at B4 hcl
  change Blk N1 b1 _ (u64s (thA c p 0))at B1
  refine cF (fun fr_ hp_ ms_=> ∃(j:Nat) (N1:Heaplet),fr_= [(1,.pointer (some ⟨b1,0,none⟩)),(2,.pointer (some ⟨b2,0,none⟩)),(3,.int .i64 (k:Int)),(4,.pointer (some ⟨b4,0,none⟩)),(6,.int .i64 (j:Int))]∧hp_= [N4,N1,N2,R]∧25- j=ms_∧(j≤25)∧(Blk N1 b1 186 (u64s (thA c p j)))) ?_ aM ⟨0,N1,rfl,rfl,rfl,by omega,B1⟩ ?_
  ·repeat first|apply bD|exact .nil|exact lkI rfl (by omega)|rfl
  rintro _ _ _ ⟨j,N1,rfl,rfl,rfl,hj,B1⟩
  have htl:=(thA_len c p j).trans hpl
  refine aC fun _ s_15=>aC fun _ s_16=>aA (aF U U (op_lss aD U U U (aB (s_16 (aO U (fun c35=>?_) (fun c35=>?_))))))
  ·refine aQ (aE (s_15 (aC fun _ s_17=>aT (At.drawn [19] [0,1,2,3,4,5,6,7,8,9,10,11,12,13,14,15,16,17,18,19] (by kernel_rfl) (by kernel_rfl) (aL (aS U U U (by kernel_rfl)) U U (aL (aS U U U (by kernel_rfl)) U U (cI (aS U U U (by kernel_rfl)) ae186 U U (show _=(((j:Nat)):Int)from by omega) (by omega) U ?_)))))))
   -- an operation that writes, not last
   refine aV (aS U U U (by kernel_rfl)) sc24 U B1 (get64A (by omega)) (by simp) U (aL (aS U U U (by kernel_rfl)) U U (a6 (aS U U U (by kernel_rfl)) U U (by omega) (by omega) U (op_rem (aS U U U (by kernel_rfl)) U U (by omega) (by omega) U (cI (aS U U U (by kernel_rfl)) ae230 U U (show _=((((j % 5+4) % 5:Nat)):Int)from by omega) (by omega) U ?_))))
   -- an operation that writes, not last
   refine aV (aS U U U (by kernel_rfl)) sc24 U B4 (get64A (by omega)) (by simp) U (op_xorU (aS U U U (by kernel_rfl)) U U U (aL (aS U U U (by kernel_rfl)) U U (op_rem (aS U U U (by kernel_rfl)) U U (by omega) (by omega) U (a6 (aS U U U (by kernel_rfl)) U U (by omega) (by omega) U (op_rem (aS U U U (by kernel_rfl)) U U (by omega) (by omega) U (cI (aS U U U (by kernel_rfl)) ae230 U U (show _=((((j % 5+1) % 5:Nat)):Int)from by omega) (by omega) U ?_))))))
   -- an operation that writes, not last
   refine aV (aS U U U (by kernel_rfl)) sc24 U B4 (get64A (by omega)) (by simp) U (aH (nxoa U U U) (.cons U (.cons U .nil)) (rRol_f (c.getD ((j % 5+1) % 5) 0) 1 (by decide)) Tryz.func158 U U (by simp) U ?_)
   rintro _ _ ⟨rfl,rfl⟩
   show At _ _ _ [N4,N1,N2,R] _
   refine op_xorU (aS U U U (by kernel_rfl)) U U U ?_
   rw [UInt64.xor_assoc]
   refine cI (aS U U U (by kernel_rfl)) ae186 U U (show _=(((j:Nat)):Int)from by omega) (by omega) U ?_
   refine aX (nxos U U U U) sz24 U U U U U B1 (by simp<;>omega) sel1 (fun N1 B1=>?_)
   rw [set64A]at B1
   refine cG (a0 (aE (s_17 (aA (aF U U (a6 aD U U (by omega) (by omega) U (aG U U (aB (cH (cH (bR (cH (bQ ?_ aM ⟨j+1,N1,rfl,rfl,rfl,by omega,B1⟩ ?_)))))))))))))
   ·repeat first|apply bD|exact .nil|exact lkI rfl (by omega)|rfl
   ·omega
  refine bW (aK (aK (bH (aE (s_13 (aC fun _ s_18=>aA (bE aZ ze186 U (fun N7 b7 B7=>?_))))))))
  change Blk N7 b7 _ [.int .u64 0,.int .u64 0,.int .u64 0,.int .u64 0,.int .u64 0,.int .u64 0,.int .u64 0,.int .u64 0,.int .u64 0,.int .u64 0,.int .u64 0,.int .u64 0,.int .u64 0,.int .u64 0,.int .u64 0,.int .u64 0,.int .u64 0,.int .u64 0,.int .u64 0,.int .u64 0,.int .u64 0,.int .u64 0,.int .u64 0,.int .u64 0,.int .u64 0]at B7
  obtain rfl:j=25:=by omega
  have hth:thA c p 25=theta p:=by rw [theta,hc]
  obtain⟨q,hq⟩: ∃q,theta p=q:=⟨_,rfl⟩
  rw [hth,hq]at B1 htl
  change Blk N7 b7 _ (u64s (List.replicate 25 0))at B7
  refine aB (s_18 (aC fun _ s_19=>aA (cI aD ae186 U U (show _=(((0:Nat)):Int)from by omega) (by omega) U ?_)))
  refine aV aD sc24 U B1 (get64A (by omega)) (by simp) U (cI aD ae186 U U (show _=(((0:Nat)):Int)from by omega) (by omega) U ?_)
  refine aX nxQ sz24 U U U U U B7 (by simp<;>omega) sel0 (fun N7 B7=>?_)
  rw [set64A]at B7
  refine aB (s_19 (aC fun _ s_20=>aA (aG U U (aG U U (aB (s_20 (aC fun _ s_21=>aC fun _ s_22=>aA (aG U U (aB (s_22 (aT ?_)))))))))))
  change Blk N7 b7 _ (u64s (tuR q 0))at B7
  refine a7 (cF (fun fr_ hp_ ms_=> ∃(t:Nat) (N7:Heaplet),fr_= [(1,.pointer (some ⟨b1,0,none⟩)),(2,.pointer (some ⟨b2,0,none⟩)),(3,.int .i64 (k:Int)),(7,.pointer (some ⟨b7,0,none⟩)),(8,.int .i64 ((pX t).1:Int)),(9,.int .i64 ((pX t).2:Int)),(10,.int .i64 (t:Int))]∧hp_= [N7,N1,N2,R]∧24- t=ms_∧(t≤24)∧(Blk N7 b7 186 (u64s (tuR q t)))) ?_ aM ⟨0,N7,rfl,rfl,rfl,by omega,B7⟩ ?_)
  ·repeat first|apply bD|exact .nil|exact lkI rfl (by omega)|rfl
  rintro _ _ _ ⟨t,N7,rfl,rfl,rfl,ht,B7⟩
  have hul:=tuR_len q t
  have hx:=pX_lt t
  have hp1:(pX (t+1)).1=(pX t).2:=rfl
  have hp2:(pX (t+1)).2=(2*(pX t).1+3*(pX t).2) % 5:=rfl
  have hpos:pos (t+1)=(pX t).2+5*((2*(pX t).1+3*(pX t).2) % 5):=rfl
  have hpo0:pos t=(pX t).1+5*(pX t).2:=rfl
  have hpl1:=pos_lt (t+1)
  have hpl0:=pos_lt t
  have hm:((t:Int)+1)*((t:Int)+2)=(((t+1)*(t+2):Nat):Int):=by simp
  have hm2:(t+1)*(t+2)≤25*26:=Nat.mul_le_mul (by omega) (by omega)
  obtain⟨m,hmm⟩: ∃m,(t+1)*(t+2)=m:=⟨_,rfl⟩
  have hrot:rot t=m/2 % 64:=by rw [rot,hmm]
  rw [hmm]at hm hm2
  refine aC fun _ s_23=>aC fun _ s_24=>aA (aF U U (op_lss aD U U U (aB (s_24 (aO U (fun c61=>?_) (fun c61=>?_))))))
  ·refine aQ (aE (s_23 (aC fun _ s_25=>aT (aC fun _ s_26=>aA (aF U U (aF U U (op_mulI aD U U (by omega) (by omega) U (aF U U (op_mulI aD U U (by omega) (by omega) U (a6 aD U U (by omega) (by omega) U (op_rem aD U U (by omega) (by omega) U (aG U U (aG U U (aB (s_26 (aC fun _ s_27=>aA (aF U U (aF U U (op_mulI aD U U (by omega) (by omega) U (a6 aD U U (by omega) (by omega) U (aF U U (aF U U (op_mulI aD U U (by omega) (by omega) U (a6 aD U U (by omega) (by omega) U (cI aD ae186 U U (show _=(((pos t:Nat)):Int)from by omega) (by omega) U ?_)))))))))))))))))))))))))
   refine aV aD sc24 U B1 (get64A (by omega)) (by simp) U (aF U U (a6 aD U U (by omega) (by omega) U (aF U U (a6 aD U U (by omega) (by omega) U ?_))))
   refine op_mulI aD U U (by rw [hm];omega) (by rw [hm];omega) U ?_
   rw [hm]
   refine op_quoI aD U U (by omega) (by omega) (by omega) U (op_rem aD U U (by omega) (by omega) U ?_)
   rw [show(m:Int)/2 % 64=((rot t:Nat):Int)from by omega]
   refine aH aZ (.cons U (.cons U .nil)) (rRol_f (q.getD (pos t) 0) (rot t) (by omega)) Tryz.func158 U U (by simp) U ?_
   rintro _ _ ⟨rfl,rfl⟩
   show At _ _ _ [N7,N1,N2,R] _
   refine cI aD ae186 U U (show _=(((pos (t+1):Nat)):Int)from by omega) (by omega) U ?_
   refine aX nxQ sz24 U U U U U B7 (by simp<;>omega) sel0 (fun N7 B7=>?_)
   rw [set64A]at B7
   refine aB (s_27 (aA (aF U U (aF U U (aG U U (aG U U (At.opsNil (a0 (aE (s_25 (aA (aF U U (a6 aD U U (by omega) (by omega) U (aG U U (aB (bQ ?_ aM ⟨t+1,N7,rfl,rfl,rfl,by omega,B7⟩ ?_))))))))))))))))
   ·repeat first|apply bD|exact .nil|exact lkI rfl (by omega)|rfl
   ·omega
  refine bW (aK (aK (bH (aE (s_21 (aC fun _ s_28=>aC fun _ s_29=>aA (aG U U (aB (s_29 (aT ?_))))))))))
  obtain rfl:t=24:=by omega
  obtain⟨w,hw⟩: ∃w,tuR q 24=w:=⟨_,rfl⟩
  rw [hw]at B7 hul
  change Blk N1 b1 _ (u64s (chR w q 0))at B1
  refine cF (fun fr_ hp_ ms_=> ∃(i:Nat) (N1:Heaplet),fr_= [(1,.pointer (some ⟨b1,0,none⟩)),(2,.pointer (some ⟨b2,0,none⟩)),(3,.int .i64 (k:Int)),(7,.pointer (some ⟨b7,0,none⟩)),(13,.int .i64 (i:Int))]∧hp_= [N7,N1,N2,R]∧25- i=ms_∧(i≤25)∧(Blk N1 b1 186 (u64s (chR w q i)))) ?_ aM ⟨0,N1,rfl,rfl,rfl,by omega,B1⟩ ?_
  ·repeat first|apply bD|exact .nil|exact lkI rfl (by omega)|rfl
  rintro _ _ _ ⟨i,N1,rfl,rfl,rfl,hi,B1⟩
  have hrl:=(chR_len w q i).trans htl
  refine aC fun _ s_30=>aC fun _ s_31=>aA (aF U U (op_lss aD U U U (aB (s_31 (aO U (fun c93=>?_) (fun c93=>?_))))))
  ·refine aQ (aE (s_30 (aC fun _ s_32=>aT (aC fun _ s_33=>aA (aF U U (aF U U (op_rem aD U U (by omega) (by omega) U (op_subI aD U U (by omega) (by omega) U (aG U U (aB (s_33 (At.drawn [22] [0,1,2,3,4,5,6,7,8,9,10,11,12,13,14,15,16,17,18,19,20,21,22] (by kernel_rfl) (by kernel_rfl) (aL (aS U U U (by kernel_rfl)) U U (aL (aS U U U (by kernel_rfl)) U U (cI (aS U U U (by kernel_rfl)) ae186 U U (show _=(((i:Nat)):Int)from by omega) (by omega) U ?_)))))))))))))))
   -- an operation that writes, not last
   refine aV (aS U U U (by kernel_rfl)) sc24 U B7 (get64A (by omega)) (by simp) U (aL (aS U U U (by kernel_rfl)) U U (aL (aS U U U (by kernel_rfl)) U U (a6 (aS U U U (by kernel_rfl)) U U (by omega) (by omega) U (op_rem (aS U U U (by kernel_rfl)) U U (by omega) (by omega) U (a6 (aS U U U (by kernel_rfl)) U U (by omega) (by omega) U (cI (aS U U U (by kernel_rfl)) ae186 U U (show _=(((i- i % 5+(i+1) % 5:Nat)):Int)from by omega) (by omega) U ?_))))))
   -- an operation that writes, not last
   refine aV (aS U U U (by kernel_rfl)) sc24 U B7 (get64A (by omega)) (by simp) U (op_compU (aS U U U (by kernel_rfl)) U U (aL (aS U U U (by kernel_rfl)) U U (aL (aS U U U (by kernel_rfl)) U U (a6 (aS U U U (by kernel_rfl)) U U (by omega) (by omega) U (op_rem (aS U U U (by kernel_rfl)) U U (by omega) (by omega) U (a6 (aS U U U (by kernel_rfl)) U U (by omega) (by omega) U (cI (aS U U U (by kernel_rfl)) ae186 U U (show _=(((i- i % 5+(i+2) % 5:Nat)):Int)from by omega) (by omega) U ?_)))))))
   -- an operation that writes, not last
   refine aV (aS U U U (by kernel_rfl)) sc24 U B7 (get64A (by omega)) (by simp) U (op_andU (aS U U U (by kernel_rfl)) U U U (op_xorU (aS U U U (by kernel_rfl)) U U U (cI (aS U U U (by kernel_rfl)) ae186 U U (show _=(((i:Nat)):Int)from by omega) (by omega) U ?_)))
   refine aX (nxos U U U U) sz24 U U U U U B1 (by simp<;>omega) sel1 (fun N1 B1=>?_)
   rw [set64A]at B1
   refine cG (a0 (aE (s_32 (aA (aF U U (a6 aD U U (by omega) (by omega) U (aG U U (aB (cH (cH (bR (cH (bQ ?_ aM ⟨i+1,N1,rfl,rfl,rfl,by omega,B1⟩ ?_)))))))))))))
   ·repeat first|apply bD|exact .nil|exact lkI rfl (by omega)|rfl
   ·omega
  refine bW (aK (aK (bH (aE (s_28 (At.drawn [6] [0,1,2,3,4,5,6] (by kernel_rfl) (by kernel_rfl) ?_))))))
  obtain rfl:i=25:=by omega
  obtain⟨z,hz⟩: ∃z,chR w q 25=z:=⟨_,rfl⟩
  rw [hz]at B1 hrl
  have hR:kRound (prm a k) k=z.set 0 (z.getD 0 0^^^rcL.getD k 0):=by
   rw [kRound,hp,hq,tu_eq htl,hw,ch_eq hul htl,hz]
  refine cI (aS U U U (by kernel_rfl)) ae186 U U (show _=(((0:Nat)):Int)from by omega) (by omega) U ?_
  -- an operation that writes, not last
  refine aV (aS U U U (by kernel_rfl)) sc24 U B1 (get64A (by omega)) (by simp) U (aL (aS U U U (by kernel_rfl)) U U (aH (nxoa U U U) (.cons U .nil) (rConst_f k (by omega)) Tryz.func159 U U (by simp) U ?_))
  rintro _ _ ⟨rfl,rfl⟩
  show At _ _ _ [N7,N1,N2,R] _
  refine op_xorU (aS U U U (by kernel_rfl)) U U U (cI (aS U U U (by kernel_rfl)) ae186 U U (show _=(((0:Nat)):Int)from by omega) (by omega) U ?_)
  refine aX (nxos U U U U) sz24 U U U U U B1 (by simp<;>omega) sel1 (fun N1 B1=>?_)
  rw [set64A]at B1
  refine cG (a0 (aE (s_6 (aA (aF U U (a6 aD U U (by omega) (by omega) U (aG U U (aB (a7 ?_)))))))))
  refine bQ ?_ aM ⟨k+1,N1,rfl,rfl,rfl,by omega,by rw [prm,hR];exact B1⟩ ?_
  ·repeat first|apply bD|exact .nil|exact lkI rfl (by omega)|rfl
  ·omega
 refine bW (aK (aK (bH (aE (s_2 (aC fun _ s_34=>aA ?_))))))
 obtain rfl:k=24:=by omega
 obtain⟨o,ho⟩: ∃o,prm a 24=o:=⟨_,rfl⟩
 rw [ho]at B1 hpl
 refine aY (ds:=u64s o) aD ag186 U B1 (all_take (len64s hpl)) (len64s hpl) (by simp) U ?_
 refine aX nxQ sz186 U U U (len64s hpl) (all64 _) B2 (by rw [len64s hpl];simp) sel1 (fun N2 B2=>?_)
 rw [setL_whole (by rw [len64s hpl];simp)]at B2
 refine aB (s_34 (aR ((a7 (aW (L1:= []) U (.cell U (res_agg (ds:=u64s o) ag186 B2 (all_take (len64s hpl)) (len64s hpl) bZ) .nil) (.cons _ (.refl _)) aM ?_)))))
 exact⟨by rw [ho],rfl⟩
def refX (l:List UInt8) (j:Nat):List UInt8:=l++1::List.replicate j 0
def refB (l:List UInt8) (j:Nat):List UInt8:=(refX l j).set (l.length+j) ((refX l j).getD (l.length+j) 0 |||128)
theorem refX_len (l:List UInt8) (j:Nat):(refX l j).length=l.length+1+j:=by
 rw [refX,List.length_append,List.length_cons,List.length_replicate];omega
theorem refB_len (l:List UInt8) (j:Nat):(refB l j).length=l.length+1+j:=by rw [refB,List.length_set,refX_len]
theorem refX_more (l:List UInt8) (j:Nat):refX l j++ [0]=refX l (j+1):=by
 rw [refX,refX,List.append_assoc,List.cons_append,show List.replicate j (0:UInt8)++ [0]=List.replicate (j+1) 0 from List.replicate_succ'.symm]
theorem blk_full {l:List UInt8} {j k:Nat} (hk:136*(k+1)≤l.length):((refB l j).drop (136*k)).take 136=(l.drop (136*k)).take 136:=by
 apply List.ext_getElem?
 intro i
 rw [List.getElem?_take,List.getElem?_take]
 split
 ·rw [List.getElem?_drop,List.getElem?_drop,refB,List.getElem?_set_ne (by omega),refX,List.getElem?_append_left (by omega)]
 ·rfl
theorem abs_full {l:List UInt8} {j:Nat} : ∀k,136*k≤l.length→absN (refB l j) k=absN l k
 |0,_=>rfl
 |k+1,h=>by rw [absN,absN,abs_full k (by omega),blk_full h]
theorem pad_z {r:List UInt8} {j:Nat} (hr:r.length+j=135):(r++List.replicate (136- r.length) 0).set r.length 1=r++1::List.replicate j 0:=by
 rw [show 136- r.length=j+1 by omega,List.replicate_succ,List.set_append_right _ _ (Nat.le_refl _),Nat.sub_self];rfl
theorem blk_last {l:List UInt8} {j m:Nat} (hm:136*m≤l.length) (hj:l.length+1+j=136*(m+1)):((refB l j).drop (136*m)).take 136=padL (l.drop (136*m)):=by
 have hr:(l.drop (136*m)).length=l.length- 136*m:=List.length_drop
 have hx:(refX l j).drop (136*m)=l.drop (136*m)++1::List.replicate j 0:=by rw [refX,List.drop_append_of_le_length hm]
 have hg:(refX l j).getD (l.length+j) 0=(l.drop (136*m)++1::List.replicate j 0).getD 135 0:=by
  rw [←hx,List.getD_eq_getElem?_getD,List.getD_eq_getElem?_getD,List.getElem?_drop,show 136*m+135=l.length+j by omega]
 rw [List.take_of_length_le (by rw [List.length_drop,refB_len];omega),refB,List.drop_set,if_neg (by omega),hx,hg,show l.length+j- 136*m=135 by omega,padL,pad_z (j:=j) (by omega)]
theorem ref_abs {l:List UInt8} {j m:Nat} (hm:m=l.length/136) (hj:l.length+1+j=136*(m+1)):ouI (absN (refB l j) (m+1)) 32=kec l:=by
 rw [absN,abs_full m (by omega),blk_last (by omega) hj,kec, ←hm]
theorem blk_at {B:List UInt8} {k i:Nat} (hi:i<136):((B.drop (136*k)).take 136).getD i 0=B.getD (136*k+i) 0:=by
 rw [List.getD_eq_getElem?_getD,List.getElem?_take,if_pos hi,List.getElem?_drop, ←List.getD_eq_getElem?_getD]
theorem len8s {l:List UInt8} {k:Nat} (h:l.length=k):(u8s l).length=k:=by simp [u8s,h]
set_option maxRecDepth 100000 in
set_option maxHeartbeats 4000000 in
theorem FKeccak_f {N:Heaplet} {ao:Option Addr} {n cap:Nat} {l:List UInt8} (hb:RSl N 1 ao n cap (u8s l)) (hn:n≤1099511627776):Fn Tryz.prog 78 #[.slice ao n cap] [] [N] (fun v L=>v=.agg (u8s (kec l)).toArray∧L= []):=by
 have hlen:=hb.len8
 have hcap:=hb.cap63
 refine Fn.enter (vs:= [.slice ao n cap]) Tryz.func78 U U U ?_
 intro E R hR
 have hb:=hb.le (hR N (by simp))
 change At _ _ E [R] _
 refine aC fun _ s_1=>aA (bE aZ ze39 U (fun N2 b2 B2=>?_))
 change Blk N2 b2 _ [.int .u8 0,.int .u8 0,.int .u8 0,.int .u8 0,.int .u8 0,.int .u8 0,.int .u8 0,.int .u8 0,.int .u8 0,.int .u8 0,.int .u8 0,.int .u8 0,.int .u8 0,.int .u8 0,.int .u8 0,.int .u8 0,.int .u8 0,.int .u8 0,.int .u8 0,.int .u8 0,.int .u8 0,.int .u8 0,.int .u8 0,.int .u8 0,.int .u8 0,.int .u8 0,.int .u8 0,.int .u8 0,.int .u8 0,.int .u8 0,.int .u8 0,.int .u8 0]at B2
 refine aB (s_1 (aC fun _ s_2=>aA (aH aZ .nil (FNew_f) Tryz.func120 U U (by simp) U ?_)))
 rintro _ _ ⟨N4,b4,e4,rfl,rfl,B4⟩
 show At _ _ _ [N4,N2,R] _
 refine aG U U (aB (s_2 (aC fun _ s_3=>aT (cF (fun fr_ hp_ ms_=> ∃(k:Nat) (po:Option Addr) (pn pc:Nat) (N4:Heaplet),fr_= [(0,.slice po pn pc),(2,.pointer (some ⟨b2,0,none⟩)),(3,.pointer (some ⟨b4,0,none⟩))]∧hp_= [N4,N2,R]∧n- 136*k=ms_∧(136*k≤n)∧(pn=n- 136*k)∧(RSl R 1 po pn pc (u8s (l.drop (136*k))))∧(Blk N4 b4 e4 (u64s (absN l k)++ [.slice none 0 0]))) ?_ aM ⟨0,ao,n,cap,N4,rfl,rfl,rfl,by omega,by omega,hb,B4⟩ ?_))))
 ·repeat first|apply bD|exact .nil|exact lkI rfl (by omega)|rfl
 rintro _ _ _ ⟨k,po,pn,pc,N4,rfl,rfl,rfl,hk,hpn,hp,B4⟩
 have hal:=absN_len l k
 have hpc:=hp.cap63
 refine aC fun _ s_4=>aC fun _ s_5=>aA (aF U U (bG aD se22 U U (op_geq aD U U U (aB (s_5 (aO U (fun c7=>?_) (fun c7=>?_)))))))
 ·refine aQ (aE (s_4 (aC fun _ s_6=>aT (At.drawn [5] [0,1,2,3,4,5] (by kernel_rfl) (by kernel_rfl) (aL (aS U U U (by kernel_rfl)) U U (op_nilChk (aS U U U (by kernel_rfl)) U U (aI (aS U U U (by kernel_rfl)) fl189_0 U U (aL (aS U U U (by kernel_rfl)) U U (op_slice0 (aS U U U (by kernel_rfl)) se22 U (.some U (show _=(((136:Nat)):Int)from by omega)) .none (by omega) (by omega) (by simp) U ?_)))))))))
  have s14:=hp.take8 (hi:=136) (m:=pc) (by omega) (Nat.le_refl _) (by omega)
  refine op_call (nxos U U U U) (.cons U (.cons U .nil)) (FAbsorb_f hal B4 s14 U) (F:= [N2,R]) Tryz.func121 U U aM (by simp) U ?_
  rintro _ _ ⟨N4,rfl,rfl,B4⟩
  show At _ _ _ [N4,N2,R] _
  refine cG (a0 (aE (s_6 (aA (aF U U (op_slice aD se22 U (.some U (show _=(((136:Nat)):Int)from by omega)) .none .none (by omega) (by omega) (by omega) (by simp) U ?_))))))
  refine aG U U (aB ?_)
  refine bQ ?_ aM ⟨k+1,sadr po 136 pc 1,pn- 136,pc- 136,N4,rfl,rfl,rfl,by omega,by omega,by rw [show 136*(k+1)=136*k+136 by omega, ←List.drop_drop];exact hp.drop8 (lo:=136) (by omega),B4⟩ ?_
  ·repeat first|apply bD|exact .nil|exact lkI rfl (by omega)|rfl
  ·omega
 refine bW (aK (aK (bH (aE (s_3 (aC fun _ s_7=>aA (aF U U (aF U U (op_nilChk aD U U (aI aD fl189_1 U U ?_))))))))))
 refine aV aD sc22 U B4 (by first|rfl|(rw [List.getElem?_append_right (by rw [len64s hal];decide),len64s hal];rfl)) bZ U ?_
 refine aF U U ?_
 refine op_append0 aZ Tryz.underlying22 Tryz.underlying22 te5 rfl rfl hp (by simp) (by first|exact one_u8s _|exact one_u64s _|exact one_u32s _|(intro u hu;simp at hu;subst hu;rfl)) (by omega) (by omega) rfl (fun N22 a22 p22 r22=>?_)
 have s22:=r22.rsl
 refine op_nilChk aD U U (aI aD fl189_1 U U (aX nxQ sz22 U U U U U B4 (by simp [u64s,hal]) sel1 (fun N4 B4=>?_)))
 have B4:Blk N4 b4 e4 (u64s (absN l k)++ [.slice a22 pn p22]):=by
  rw [setL,setL,List.set_append_right _ _ (by rw [len64s hal];decide),len64s hal]at B4
  exact B4
 refine aB (s_7 (aC fun _ s_8=>aA (aF U U ?_)))
 have hkm:k=n/136:=by omega
 have hkec:ouI (absorb (absN l k) (padL (l.drop (136*k)))) 32=kec l:=by rw [kec,hlen, ←hkm]
 have hol:=kec_len l
 refine op_call nxQ (.cons U .nil) (FSum_f hal B4 s22 (by omega)) (F:= [N22,N2,R]) Tryz.func122 U U aM (by simp) U ?_
 rintro _ _ ⟨rfl,rfl⟩
 show At _ _ _ [N22,N2,R] _
 rw [hkec]
 refine aX nxQ sz39 U U U (len8s hol) (all8 _) B2 (by rw [len8s hol];simp) sel1 (fun N2 B2=>?_)
 rw [setL_whole (by rw [len8s hol];simp)]at B2
 refine aB (s_8 (aR ((a7 (aW (L1:= []) U (.cell U (res_agg (ds:=u8s (kec l)) ag39 B2 (all_take (len8s hol)) (len8s hol) bZ) .nil) (.cons _ (.refl _)) aM ?_)))))
 exact⟨rfl,rfl⟩
theorem u8s_ap2 (a b:List UInt8):u8s (a++b)=u8s a++u8s b:=by simp [u8s]
set_option maxRecDepth 100000 in
set_option maxHeartbeats 4000000 in
theorem rKeccak_f {N:Heaplet} {ao:Option Addr} {n cap:Nat} {l:List UInt8} (hb:RSl N 1 ao n cap (u8s l)) (hn:n≤1099511627776):Fn Tryz.prog 82 #[.slice ao n cap] [] [N] (fun v L=>v=.agg (u8s (kec l)).toArray∧L= []):=by
 have hlen:=hb.len8
 have hcap:=hb.cap63
 refine Fn.enter (vs:= [.slice ao n cap]) Tryz.func82 U U U ?_
 intro E R hR
 have hb:=hb.le (hR N (by simp))
 change At _ _ E [R] _
 refine aC fun _ s_1=>aA (bE aZ ze39 U (fun N2 b2 B2=>?_))
 change Blk N2 b2 _ [.int .u8 0,.int .u8 0,.int .u8 0,.int .u8 0,.int .u8 0,.int .u8 0,.int .u8 0,.int .u8 0,.int .u8 0,.int .u8 0,.int .u8 0,.int .u8 0,.int .u8 0,.int .u8 0,.int .u8 0,.int .u8 0,.int .u8 0,.int .u8 0,.int .u8 0,.int .u8 0,.int .u8 0,.int .u8 0,.int .u8 0,.int .u8 0,.int .u8 0,.int .u8 0,.int .u8 0,.int .u8 0,.int .u8 0,.int .u8 0,.int .u8 0,.int .u8 0]at B2
 refine aB (s_1 (aC fun _ s_2=>aA (op_lit aZ Tryz.underlying22 ze5 sz5 .nil U U (by simp [Value.cells]) U U U (fun N9 a9 r9=>?_))))
 simp only [flatV,List.flatMap_cons,List.flatMap_nil,Value.cells,List.append_nil,List.cons_append,List.nil_append]at r9
 have s9:=r9.rsl
 refine aF U U ?_
 refine op_append nxQ Tryz.underlying22 Tryz.underlying22 te5 rfl rfl r9 hb (by simp) (by first|exact one_u8s _|exact one_u64s _|exact one_u32s _|(intro u hu;simp at hu;subst hu;rfl)) (by omega) (by omega) sel0 rfl (fun N11 a11 p11 r11=>?_)
 have s11:=r11.rsl
 rw [List.nil_append]at r11
 refine op_lit aZ Tryz.underlying22 ze5 sz5 (.cons U .nil) U U (by simp [Value.cells]) U U U (fun N12 a12 r12=>?_)
 simp only [flatV,List.flatMap_cons,List.flatMap_nil,Value.cells,List.append_nil,List.cons_append,List.nil_append]at r12
 have s12:=r12.rsl
 change Row N12 _ 1 a12 1 1 (u8s [1])at r12
 have s12:=r12.rsl
 refine op_append nxQ Tryz.underlying22 Tryz.underlying22 te5 rfl rfl r11 s12 (by simp) (by first|exact one_u8s _|exact one_u64s _|exact one_u32s _|(intro u hu;simp at hu;subst hu;rfl)) (by omega) (by omega) sel1 rfl (fun N13 a13 p13 r13=>?_)
 have s13:=r13.rsl
 have hX0:refX l 0=l++ [1]:=rfl
 have r13:Row N13 5 1 a13 (0+n+1) p13 (u8s (refX l 0)):=by
  rw [hX0,u8s_ap2]
  exact r13
 refine aG U U (aB (s_2 (aC fun _ s_3=>aT (a7 (cF (fun fr_ hp_ ms_=> ∃(j:Nat) (pa:Option Addr) (na ca:Nat) (Na:Heaplet),fr_= [(2,.pointer (some ⟨b2,0,none⟩)),(3,.slice pa na ca)]∧hp_= [Na,N2,R]∧136*(n/136+1)- na=ms_∧(na=n+1+j)∧(n+1+j≤136*(n/136+1))∧(Row Na 5 1 pa na ca (u8s (refX l j)))) ?_ aM ⟨0,a13,0+n+1,p13,N13,rfl,rfl,rfl,by omega,by omega,r13⟩ ?_)))))
 ·repeat first|apply bD|exact .nil|exact lkI rfl (by omega)|rfl
 rintro _ _ _ ⟨j,pa,na,ca,Na,rfl,rfl,rfl,hna,hj,ra⟩
 have sa:=ra.rsl
 have hca:=sa.cap63
 have hxl:=refX_len l j
 refine aC fun _ s_4=>aC fun _ s_5=>aA (aF U U (bG aD se22 U U (op_rem aD U U (by omega) (by omega) U (op_neq aD U U U (aB (s_5 (aO U (fun c17=>?_) (fun c17=>?_))))))))
 ·refine aQ (aE (s_4 (aT (aA (aF U U (op_lit aZ Tryz.underlying22 ze5 sz5 (.cons U .nil) U U (by simp [Value.cells]) U U U (fun N19 a19 r19=>?_)))))))
  simp only [flatV,List.flatMap_cons,List.flatMap_nil,Value.cells,List.append_nil,List.cons_append,List.nil_append]at r19
  have s19:=r19.rsl
  change Row N19 _ 1 a19 1 1 (u8s [0])at r19
  have s19:=r19.rsl
  refine op_append nxQ Tryz.underlying22 Tryz.underlying22 te5 rfl rfl ra s19 (by simp) (by first|exact one_u8s _|exact one_u64s _|exact one_u32s _|(intro u hu;simp at hu;subst hu;rfl)) (by omega) (by omega) sel1 rfl (fun N20 a20 p20 r20=>?_)
  have s20:=r20.rsl
  have r20:Row N20 5 1 a20 (na+1) p20 (u8s (refX l (j+1))):=by
   rw [←refX_more,u8s_ap2]
   exact r20
  refine aG U U (At.opsNil (a0 (aE (a7 (bQ ?_ aM ⟨j+1,a20,na+1,p20,N20,rfl,rfl,rfl,by omega,by omega,r20⟩ ?_)))))
  ·repeat first|apply bD|exact .nil|exact lkI rfl (by omega)|rfl
  ·omega
 refine bW (aK (aK (bH (aE (s_3 (aC fun _ s_6=>aA (aF U U (aF U U (bG aD se22 U U (op_subI aD U U (by omega) (by omega) U (aF U U (aF U U (bG aD se22 U U (op_subI aD U U (by omega) (by omega) U (bU aD se22 U U sa (show _=(((na- 1:Nat)):Int)from by omega) (by omega) U ?_)))))))))))))))
 refine cC aD sc5 U sa (by first|exact get8 (by omega)|exact get64 (by omega)|exact get32 (by omega)) (by simp) U ?_
 refine op_bits (by simp) aD U U U ?_
 rw [or128]
 refine bU aD se22 U U sa (show _=(((na- 1:Nat)):Int)from by omega) (by omega) U ?_
 refine op_storeE nxQ sz5 U U U U U ra (by rw [len8s (refX_len l j),List.length_singleton];omega) (by simp) sel0 (fun Na ra=>?_)
 have hjm:l.length+1+j=136*(n/136+1):=by omega
 have hm:n/136=l.length/136:=by rw [hlen]
 simp only [setL]at ra
 rw [set_u8s,show na- 1=l.length+j by omega]at ra
 change Row Na _ 1 pa na ca (u8s (refB l j))at ra
 have sa:=ra.rsl
 refine aB (s_6 (aC fun _ s_7=>aA (bE aZ ze186 U (fun N4 b4 B4=>?_))))
 change Blk N4 b4 _ [.int .u64 0,.int .u64 0,.int .u64 0,.int .u64 0,.int .u64 0,.int .u64 0,.int .u64 0,.int .u64 0,.int .u64 0,.int .u64 0,.int .u64 0,.int .u64 0,.int .u64 0,.int .u64 0,.int .u64 0,.int .u64 0,.int .u64 0,.int .u64 0,.int .u64 0,.int .u64 0,.int .u64 0,.int .u64 0,.int .u64 0,.int .u64 0,.int .u64 0]at B4
 obtain⟨B,hB⟩: ∃B,refB l j=B:=⟨_,rfl⟩
 have hBl:B.length=na:=by rw [←hB,refB_len];omega
 rw [hB]at ra
 have sa:=ra.rsl
 change Blk N4 b4 _ (u64s (absN B 0))at B4
 refine aB (s_7 (aC fun _ s_8=>aC fun _ s_9=>aA (aG U U (aB (s_9 (aT (cF (fun fr_ hp_ ms_=> ∃(k:Nat) (N4:Heaplet),fr_= [(2,.pointer (some ⟨b2,0,none⟩)),(3,.slice pa na ca),(4,.pointer (some ⟨b4,0,none⟩)),(5,.int .i64 (136*(k:Int)))]∧hp_= [N4,Na,N2,R]∧n/136+1- k=ms_∧(k≤n/136+1)∧(Blk N4 b4 186 (u64s (absN B k)))) ?_ aM ⟨0,N4,rfl,rfl,rfl,by omega,B4⟩ ?_)))))))
 ·repeat first|apply bD|exact .nil|exact lkI rfl (by omega)|rfl
 rintro _ _ _ ⟨k,N4,rfl,rfl,rfl,hk,B4⟩
 refine aC fun _ s_10=>aC fun _ s_11=>aA (aF U U (aF U U (bG aD se22 U U (op_lss aD U U U (aB (s_11 (aO U (fun c36=>?_) (fun c36=>?_))))))))
 ·refine aQ (aE (s_10 (aC fun _ s_12=>aT (aC fun _ s_13=>aC fun _ s_14=>aA (aG U U (aB (s_14 (aT ?_))))))))
  obtain⟨blk,hblk⟩: ∃blk,(B.drop (136*k)).take 136=blk:=⟨_,rfl⟩
  change Blk N4 b4 _ (u64s (abI (absN B k) blk 0))at B4
  have hNl:=absN_len B k
  refine cF (fun fr_ hp_ ms_=> ∃(i:Nat) (N4:Heaplet),fr_= [(2,.pointer (some ⟨b2,0,none⟩)),(3,.slice pa na ca),(4,.pointer (some ⟨b4,0,none⟩)),(5,.int .i64 (136*(k:Int))),(6,.int .i64 (i:Int))]∧hp_= [N4,Na,N2,R]∧136- i=ms_∧(i≤136)∧(Blk N4 b4 186 (u64s (abI (absN B k) blk i)))) ?_ aM ⟨0,N4,rfl,rfl,rfl,by omega,B4⟩ ?_
  ·repeat first|apply bD|exact .nil|exact lkI rfl (by omega)|rfl
  rintro _ _ _ ⟨i,N4,rfl,rfl,rfl,hi,B4⟩
  have hil:=(abI_len (absN B k) blk i).trans hNl
  refine aC fun _ s_15=>aC fun _ s_16=>aA (aF U U (op_lss aD U U U (aB (s_16 (aO U (fun c40=>?_) (fun c40=>?_))))))
  ·refine aQ (aE (s_15 (aC fun _ s_17=>aT (At.drawn [19] [0,1,2,3,4,5,6,7,8,9,10,11,12,13,14,15,16,17,18,19] (by kernel_rfl) (by kernel_rfl) (aL (aS U U U (by kernel_rfl)) U U (op_quoI (aS U U U (by kernel_rfl)) U U (by omega) (by omega) (by omega) U (aL (aS U U U (by kernel_rfl)) U U (op_quoI (aS U U U (by kernel_rfl)) U U (by omega) (by omega) (by omega) U (cI (aS U U U (by kernel_rfl)) ae186 U U (show _=(((i/8:Nat)):Int)from by omega) (by omega) U ?_)))))))))
   -- an operation that writes, not last
   refine aV (aS U U U (by kernel_rfl)) sc24 U B4 (get64A (by omega)) (by simp) U (aL (aS U U U (by kernel_rfl)) U U (aL (aS U U U (by kernel_rfl)) U U (aL (aS U U U (by kernel_rfl)) U U (a6 (aS U U U (by kernel_rfl)) U U (by omega) (by omega) U (bU (aS U U U (by kernel_rfl)) se22 U U sa (show _=(((136*k+i:Nat)):Int)from by omega) (by omega) U ?_)))))
   refine cC (aS U U U (by kernel_rfl)) sc5 U sa (by first|exact get8 (by omega)|exact get64 (by omega)|exact get32 (by omega)) (by simp) U ?_
   rw [←blk_at (B:=B) (k:=k) (i:=i) (by omega),hblk]
   refine op_conv64 (aS U U U (by kernel_rfl)) (und_some Tryz.underlying5) Tryz.underlying24 U (show _=((((blk.getD i 0).toNat:Nat)):Int)from by omega) U ?_
   refine aL (aS U U U (by kernel_rfl)) U U (op_rem (aS U U U (by kernel_rfl)) U U (by omega) (by omega) U (op_mulI (aS U U U (by kernel_rfl)) U U (by omega) (by omega) U (op_shlU (aS U U U (by kernel_rfl)) U U (show _=(((i % 8*8:Nat)):Int)from by omega) U ?_)))
   refine op_xorU (aS U U U (by kernel_rfl)) U U U (cI (aS U U U (by kernel_rfl)) ae186 U U (show _=(((i/8:Nat)):Int)from by omega) (by omega) U ?_)
   refine aX (nxos U U U U) sz24 U U U U U B4 (by simp<;>omega) sel0 (fun N4 B4=>?_)
   rw [set64A]at B4
   refine cG (a0 (aE (s_17 (aA (aF U U (a6 aD U U (by omega) (by omega) U (aG U U (aB (bQ ?_ aM ⟨i+1,N4,rfl,rfl,rfl,by omega,B4⟩ ?_)))))))))
   ·repeat first|apply bD|exact .nil|exact lkI rfl (by omega)|rfl
   ·omega
  refine bW (aK (aK (bH (aE (s_13 (aA ?_))))))
  obtain rfl:i=136:=by omega
  obtain⟨A,hA⟩: ∃A,abI (absN B k) blk 136=A:=⟨_,rfl⟩
  rw [hA]at B4 hil
  have hpl:=(prm_len A 24).trans hil
  have hnx:absN B (k+1)=prm A 24:=by rw [absN,absorb,hblk,hA]
  refine aY (ds:=u64s A) aD ag186 U B4 (all_take (len64s hil)) (len64s hil) (by simp) U (aH aZ (.cons U .nil) (rPermute_f hil) Tryz.func127 U U (by simp) U ?_)
  rintro _ _ ⟨rfl,rfl⟩
  show At _ _ _ [N4,Na,N2,R] _
  refine aX nxQ sz186 U U U (len64s hpl) (all64 _) B4 (by rw [len64s hpl,len64s hil];simp) sel0 (fun N4 B4=>?_)
  rw [setL_whole (by rw [len64s hpl,len64s hil]), ←hnx]at B4
  refine At.opsNil (a0 (aE (s_12 (aA (aF U U (a6 aD U U (by omega) (by omega) U (aG U U (aB (bQ ?_ aM ⟨k+1,N4,rfl,rfl,rfl,by omega,B4⟩ ?_)))))))))
  ·repeat first|apply bD|exact .nil|exact lkI rfl (by omega)|rfl
  ·omega
 refine bW (aK (aK (bH (aE (s_8 (aC fun _ s_18=>aA (bE aZ ze39 U (fun N7 b7 B7=>?_))))))))
 change Blk N7 b7 _ [.int .u8 0,.int .u8 0,.int .u8 0,.int .u8 0,.int .u8 0,.int .u8 0,.int .u8 0,.int .u8 0,.int .u8 0,.int .u8 0,.int .u8 0,.int .u8 0,.int .u8 0,.int .u8 0,.int .u8 0,.int .u8 0,.int .u8 0,.int .u8 0,.int .u8 0,.int .u8 0,.int .u8 0,.int .u8 0,.int .u8 0,.int .u8 0,.int .u8 0,.int .u8 0,.int .u8 0,.int .u8 0,.int .u8 0,.int .u8 0,.int .u8 0,.int .u8 0]at B7
 have hkm:k=n/136+1:=by omega
 obtain⟨A,hA⟩: ∃A,absN B k=A:=⟨_,rfl⟩
 have hAl:A.length=25:=by rw [←hA];exact absN_len B k
 have hfin:ouI A 32=kec l:=by rw [←hA,hkm, ←hB,ref_abs hm hjm]
 rw [hA]at B4
 change Blk N7 b7 _ (u8s (ouI A 0))at B7
 refine aB (s_18 (aC fun _ s_19=>aC fun _ s_20=>aA (aG U U (aB (s_20 (aT (cA (cF (fun fr_ hp_ ms_=> ∃(i:Nat) (N7:Heaplet),fr_= [(2,.pointer (some ⟨b2,0,none⟩)),(4,.pointer (some ⟨b4,0,none⟩)),(7,.pointer (some ⟨b7,0,none⟩)),(8,.int .i64 (i:Int))]∧hp_= [N7,N4,N2,R]∧32- i=ms_∧(i≤32)∧(Blk N7 b7 39 (u8s (ouI A i)))) ?_ aM ⟨0,N7,rfl,rfl,rfl,by omega,B7⟩ ?_))))))))
 ·repeat first|apply bD|exact .nil|exact lkI rfl (by omega)|rfl
 rintro _ _ _ ⟨i,N7,rfl,rfl,rfl,hi,B7⟩
 have hol:=ouI_len A i
 refine aC fun _ s_21=>aC fun _ s_22=>aA (aF U U (op_lss aD U U U (aB (s_22 (aO U (fun c65=>?_) (fun c65=>?_))))))
 ·refine aQ (aE (s_21 (aC fun _ s_23=>aT (aA (aF U U (aF U U (op_quoI aD U U (by omega) (by omega) (by omega) U (cI aD ae186 U U (show _=(((i/8:Nat)):Int)from by omega) (by omega) U ?_))))))))
  refine aV aD sc24 U B4 (get64A (by omega)) (by simp) U (aF U U (op_rem aD U U (by omega) (by omega) U (op_mulI aD U U (by omega) (by omega) U (op_shrU aD U U (show _=(((i % 8*8:Nat)):Int)from by omega) U ?_))))
  refine op_conv8 aD (und_some Tryz.underlying24) Tryz.underlying5 U (show _=((((shr64 (A.getD (i/8) 0) (i % 8*8)).toNat:Nat)):Int)from by omega) U ?_
  refine cI aD ae39 U U (show _=(((i:Nat)):Int)from by omega) (by omega) U ?_
  refine aX nxQ sz5 U U U U U B7 (by simp<;>omega) sel0 (fun N7 B7=>?_)
  rw [set8A]at B7
  refine At.opsNil (a0 (aE (s_23 (aA (aF U U (a6 aD U U (by omega) (by omega) U (aG U U (aB (bQ ?_ aM ⟨i+1,N7,rfl,rfl,rfl,by omega,B7⟩ ?_)))))))))
  ·repeat first|apply bD|exact .nil|exact lkI rfl (by omega)|rfl
  ·omega
 refine bW (aK (aK (bH (aE (s_19 (aC fun _ s_24=>aA ?_))))))
 obtain rfl:i=32:=by omega
 rw [hfin]at B7 hol
 refine aY (ds:=u8s (kec l)) aD ag39 U B7 (all_take (len8s hol)) (len8s hol) (by simp) U ?_
 refine aX nxQ sz39 U U U (len8s hol) (all8 _) B2 (by rw [len8s hol];simp) sel2 (fun N2 B2=>?_)
 rw [setL_whole (by rw [len8s hol];simp)]at B2
 refine aB (s_24 (aR ((cA (a7 (aW (L1:= []) U (.cell U (res_agg (ds:=u8s (kec l)) ag39 B2 (all_take (len8s hol)) (len8s hol) bZ) .nil) (.cons _ (.refl _)) aM ?_))))))
 exact⟨rfl,rfl⟩
theorem WOf_f (n:UInt64):Fn Tryz.prog 145 #[.int .u64 (n.toNat:Int)] [] [] (fun v L=>v=wo n.toNat∧L= []):=by
 refine Fn.enter (vs:= [.int .u64 (n.toNat:Int)]) Tryz.func145 U U U ?_
 intro E R hR
 change At _ _ E [R] _
 refine aC fun _ s_1=>aA (bE aZ ze26 U (fun N2 b2 B2=>?_))
 change Blk N2 b2 _ [.int .u64 0,.int .u64 0,.int .u64 0,.int .u64 0]at B2
 refine aB (s_1 (aC fun _ s_2=>aA (aF U U (op_buildA (out:= [_,.int .u64 0,.int .u64 0,.int .u64 0]) aD ze26 ae26 (.cons U .nil) U U (aX nxQ sz26 U U U U U B2 (by simp) sel0 (fun N2 B2=>?_))))))
 simp only [setL,List.set]at B2
 refine aB (s_2 (aR ((aW (L1:= []) U (.cell U (res_agg (ds:= [_,_,_,_]) ag26 B2 U U bZ) .nil) (.cons _ (.refl _)) aM ?_))))
 exact⟨(wo_small n).symm,rfl⟩
theorem all_range64: ∀(xs ys:List UInt64),xs.length=ys.length→((List.range xs.length).all fun i=>xs.getD i 0==ys.getD i 0)=(xs==ys)
 | [],[],_=>rfl
 |x::xs,y::ys,h=>by
  have ih:=all_range64 xs ys (by simpa using h)
  rw [List.length_cons,List.range_succ_eq_map,List.all_cons,List.all_map]
  simp only [List.getD_cons_zero,Function.comp_def,List.getD_cons_succ,ih]
  simp [List.cons_beq_cons]
 | [],_::_,h=>by simp at h
 |_::_,[],h=>by simp at h
section
variable {P : Program}
theorem run_equalIn_words (w:World) (d:Nat) (t e:TypeId) (n:Nat) (ht:P.underlying t=some (.array n e)) (he:P.underlying e=some (.int .u64)) (hsz: ∀w,(sizeOf e).run P w=.ok 1 w)
 (xs ys:List UInt64) (hx:xs.length=n) (hy:ys.length=n):
 (Op.equalIn (d+2) t (.agg (u64s xs).toArray) (.agg (u64s ys).toArray)).run P w=.ok (xs==ys) w:=by
 rw [←all_range64 xs ys (hx.trans hy.symm),hx,List.range_eq_range',Op.equalIn]
 simp only [Sem.run_bind,Go.run_underlying ht,Result.andThen_ok,hsz,Std.Legacy.Range.forIn_eq_forIn_range',Std.Legacy.Range.size,Nat.sub_zero,Nat.add_sub_cancel,Nat.div_one]
 have hl: ∀i∈List.range' 0 n 1,i<n:=fun i hi=>by simpa using (List.mem_range'_1.1 hi).2
 generalize List.range' 0 n 1=l at hl⊢
 induction l with
 |nil=>simp
 |cons i l ih=>
  have hi:i<n:=hl i (by simp)
  have px:(part e (u64s xs).toArray (i*1)).run P w=.ok (.int .u64 ((xs.getD i 0).toNat:Int)) w:=by
   simp [part,isAgg,Go.run_underlying he,u64s,vl,List.getD,List.getElem?_eq_getElem (show i<xs.length by omega)]
  have py:(part e (u64s ys).toArray (i*1)).run P w=.ok (.int .u64 ((ys.getD i 0).toNat:Int)) w:=by
   simp [part,isAgg,Go.run_underlying he,u64s,vl,List.getD,List.getElem?_eq_getElem (show i<ys.length by omega)]
  have pe:(Op.equalIn (d+1) e (.int .u64 ((xs.getD i 0).toNat:Int)) (.int .u64 ((ys.getD i 0).toNat:Int))).run P w=.ok (xs.getD i 0==ys.getD i 0) w:=by
   rw [run_equalIn_int w d e .u64 .u64 _ _ he]
   congr 1
   rw [Bool.eq_iff_iff]
   simp [←UInt64.toNat_inj]
   omega
  simp only [List.forIn_cons,Sem.run_bind,px,py,pe,Result.andThen_ok,List.all_cons]
  cases hb:(xs.getD i 0==ys.getD i 0)
  ·simp
  ·simp only [Bool.not_true,Bool.false_eq_true,if_false,Sem.run_pure,Result.andThen_ok,Bool.true_and]
   exact ih fun j hj=>hl j (by simp [hj])
theorem eqGuard_agg {op:BinOp} {t:TypeId} {x y:Operand} {a b:Array Value} (h:P.eqGuardType P.depth t=false) (w:World):(eqGuard op t x y (.agg a) (.agg b)).run P w=.ok () w:=by
 unfold eqGuard
 by_cases ho:(!(op matches .eql|.neq))=true<;>simp [ho,h]
variable {n : Nat} {l : List (Nat × Value)} {E : World} {L Ls : List Heaplet} {X Y : Act → World → Prop} {d : Nat} {t t' ty e : TypeId} {x y : Operand}
theorem op_eqW {a b:List UInt64} {k:Nat} {pos:_} {aft:_} {g:_} (s:NxF P n l E L Ls ⟨some d,.binOp .eql t x y t',ty,pos,aft,g⟩ X Y) (ht:aelt P t=some (k,e,1)) (he:P.underlying e=some (.int .u64)) (hg:P.eqGuardType P.depth t=false) (hx:ev l x=some (.agg (u64s a).toArray)) (hy:ev l y=some (.agg (u64s b).toArray)) (ha:a.length=k) (hb:b.length=k) (hn:Nat.ble (d+1) n=true) (h:At n ((d,.bool (decide (a=b)))::l) E L Y):At n l E L X:=by
 obtain⟨hu,i,hi,hsz⟩:=aelt_spec ht
 exact op_bin s hx hy (fun w=>eqGuard_agg hg w) (fun w=>by
  rw [run_eql_struct,run_equalIn_words w 9998 t e k hu he (fun w=>by rw [run_sizeOf hi,hsz]) a b ha hb]
  simp only [Result.andThen_ok,show(a==b)=decide (a=b)from by rw [Bool.eq_iff_iff];simp]) hn h
end
end Go.Proofs.YtjfagifjajielaaGreat
