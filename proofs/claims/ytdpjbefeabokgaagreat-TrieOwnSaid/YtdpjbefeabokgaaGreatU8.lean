/- Several texts in one: see the remarks ahead of each part. No condition but those told there. -/
import Derived.Test.YtdpjbefeabokgaaGreatU7
import Derived.Test.YtdpjbefeabokgaaGreatU5
import Derived.Test.YtdpjbefeabokgaaGreatU6
set_option linter.unusedSimpArgs false
set_option linter.unusedVariables false
/- Package hash: the steps of Keccak's permutation. No condition. -/
namespace Go.Proofs.YtdpjbefeabokgaaGreat
open Go Go.RowKit
section
variable {P : Program} {n : Nat} {l : List (Nat × Value)} {E : World} {L Ls : List Heaplet} {X Y : Act → World → Prop} {d : Nat} {t ty e : TypeId} {x : Operand}
theorem op_toArr {alen size len cap:Nat} {ad:Addr} {pos:_} {aft:_} {g:_} (s:NxF P n l E L Ls ⟨some d,.sliceToArrayPointer t x,ty,pos,aft,g⟩ X Y) (ht:aelt P t=some (alen,e,size)) (hx:ev l x=some (.slice (some ad) len cap)) (hl:alen≤len) (hn:Nat.ble (d+1) n=true) (h:At n ((d,.pointer (some ad))::l) E L Y):At n l E L X:=by
 obtain⟨hu,i,hi,hsz⟩:=aelt_spec ht
 refine op_val s (fun a w hf hw=>?_) rfl hn h
 simp [execOp,hf.eval hx,Instr.arrayAt,run_underlying hu,Nat.not_lt.2 hl]
end
theorem getT {a:List UInt64} {T:List Value} {j:Nat} (h:j<a.length):(u64s a++T)[0+j*1]? =some (.int .u64 ((a.getD j 0).toNat:Int)):=by
 rw [Nat.zero_add,Nat.mul_one,List.getElem?_append_left (by simpa [u64s]using h)]
 exact bT h
theorem setT {a:List UInt64} {T:List Value} {j:Nat} {x:UInt64} (h:j<a.length):setL (u64s a++T) (0+j*1) [.int .u64 (x.toNat:Int)]=u64s (a.set j x)++T:=by
 rw [Nat.zero_add,Nat.mul_one,setL,setL,List.set_append_left _ _ (by simpa [u64s]using h),set_u64s]
theorem lenT {a:List UInt64} {T:List Value} :(u64s a++T).length=a.length+T.length:=by simp [u64s]
theorem Rot_f (x:UInt64) (k:Nat) (hk:k<64):Fn Tryz.prog 132 #[.int .u64 (x.toNat:Int),.int .i64 (k:Int)] [] [] (fun v L=>v=.int .u64 ((rolN x k).toNat:Int)∧L= []):=by
 have e2:(UInt64.ofNat k).toNat=k:=by rw [UInt64.toNat_ofNat'];omega
 have e:UInt64.ofNat k&&&63=UInt64.ofNat k:=by
  apply UInt64.toNat_inj.1
  rw [UInt64.toNat_and,e2,show(63:UInt64).toNat=2^6- 1 from rfl,Nat.and_two_pow_sub_one_eq_mod,Nat.mod_eq_of_lt (show k<2^6 from hk)]
 have e3:(64- UInt64.ofNat k).toNat=64- k:=by
  rw [UInt64.toNat_sub_of_le _ _ (UInt64.le_iff_toNat_le.2 (by rw [e2];exact Nat.le_of_lt hk)),e2];rfl
 refine Fn.enter (vs:= [.int .u64 (x.toNat:Int),.int .i64 (k:Int)]) Tryz.func132 rfl rfl rfl ?_
 intro E R hR
 change At _ _ E [R] _
 refine At.seq fun _ s_1=>At.region (aE (aD rfl) rfl rfl (aA (aB (s_1 (At.seq fun _ s_2=>At.region (aC (aD rfl) rfl rfl (op_conv64 (aD rfl) (und_some Tryz.underlying3) Tryz.underlying111 rfl (show _=(((k:Nat)):Int)from by omega) rfl ?_)))))))
 refine op_andU (b:=63) (aD rfl) rfl rfl rfl ?_
 rw [e]
 refine aE (aD rfl) rfl rfl (aA (aB (s_2 (At.seq fun _ s_3=>At.region (aC (aD rfl) rfl rfl (aC (aD rfl) rfl rfl (op_shlU (aD rfl) rfl rfl (show _=(((k:Nat)):Int)from by omega) rfl ?_)))))))
 refine aC (aD rfl) rfl rfl (aC (aD rfl) rfl rfl (op_subU (a:=64) (aD rfl) rfl rfl rfl (op_shrU (aD rfl) rfl rfl (show _=(((64- k:Nat)):Int)from by omega) rfl ?_)))
 refine op_orU (aD rfl) rfl rfl rfl (aE (aD rfl) rfl rfl (aA (aB (s_3 (At.ret ((aW (L1:= []) rfl (.tmp rfl .nil) (.refl _) (.refl _) ?_)))))))
 exact⟨by rw [rol_go hk],rfl⟩
set_option maxRecDepth 100000 in
theorem FTheta_f {N:Heaplet} {b0:Nat} {e0:TypeId} {a:List UInt64} {T:List Value} (ha:a.length=25) (B0:Blk N b0 e0 (u64s a++T)):Fn Tryz.prog 114 #[.pointer (some ⟨b0,0,none⟩)] [N] [] (fun v L=> ∃M,v=.tuple #[]∧L= [M]∧Blk M b0 e0 (u64s (theta a)++T)):=by
 obtain⟨N0,h0⟩: ∃N0,N0=N:=⟨_,rfl⟩
 rw [←h0]at B0⊢
 refine Fn.enter (vs:= [.pointer (some ⟨b0,0,none⟩)]) Tryz.func114 rfl rfl rfl ?_
 intro E R hR
 change At _ _ E [N0,R] _
 refine At.seq fun _ s_1=>At.region (bO (bA rfl) ze132 rfl (fun N2 b2 B2=>?_))
 change Blk N2 b2 _ [.int .u64 0,.int .u64 0,.int .u64 0,.int .u64 0,.int .u64 0]at B2
 change Blk N2 b2 _ (u64s (thC a 0))at B2
 refine aA (aB (s_1 (At.seq fun _ s_2=>At.seq fun _ s_3=>At.region (aC (aD rfl) rfl rfl (aC (aD rfl) rfl rfl (aA (aB (s_3 (At.block (At.loop (fun fr_ hp_ ms_=> ∃(i:Nat) (N2:Heaplet),fr_= [(0,.pointer (some ⟨b0,0,none⟩)),(2,.pointer (some ⟨b2,0,none⟩)),(7,.pointer (some ⟨b0,0,none⟩)),(8,.int .i64 (i:Int))]∧hp_= [N2,N0,R]∧25- i=ms_∧(i≤25)∧(Blk N2 b2 132 (u64s (thC a i)))) ?_ (.refl _) ⟨0,N2,rfl,rfl,rfl,by omega,B2⟩ ?_))))))))))
 ·exact .cons (by first|exact aP rfl (by omega)|rfl) (.cons (by first|exact aP rfl (by omega)|rfl) (.cons (by first|exact aP rfl (by omega)|rfl) (.cons (by first|exact aP rfl (by omega)|rfl) .nil)))
 rintro _ _ _ ⟨i,N2,rfl,rfl,rfl,hi,B2⟩
 have hcl:=thC_len a i
 refine At.seq fun _ s_4=>At.region (op_lss (aD rfl) rfl rfl rfl (aA (aB (s_4 (At.seq fun _ s_5=>aK rfl (fun c9=>?_) (fun c9=>?_))))))
 ·refine At.skip (aB (s_5 (At.seq fun _ s_6=>At.block (At.seq fun _ s_7=>At.drawn [] [0,1,2,3,4,5] (by kernel_rfl) (by kernel_rfl) (aC (aN rfl rfl rfl (by kernel_rfl)) rfl rfl (aQ (aN rfl rfl rfl (by kernel_rfl)) rfl rfl (op_idxA (aN rfl rfl rfl (by kernel_rfl)) ae128 rfl rfl (show _=(((i:Nat)):Int)from by omega) (by omega) rfl ?_)))))))
  refine aI (aN rfl rfl rfl (by kernel_rfl)) sc70 rfl B0 (by first|exact get64A (by omega)|rfl|exact getT (by first|omega|(rw [thA_len];omega))) aZ rfl ?_
  refine aE (aN rfl rfl rfl (by kernel_rfl)) rfl rfl (aE (aN rfl rfl rfl (by kernel_rfl)) rfl rfl (At.oneNil (aB (s_7 (At.region (aC (aD rfl) rfl rfl (op_rem (aD rfl) rfl rfl (by omega) (by omega) rfl (op_idxA (aD rfl) ae132 rfl rfl (show _=(((i % 5:Nat)):Int)from by omega) (by omega) rfl ?_))))))))
  refine aI (aD rfl) sc70 rfl B2 (by first|exact get64A (by omega)|rfl|exact getT (by first|omega|(rw [thA_len];omega))) aL rfl ?_
  refine aC (aD rfl) rfl rfl (op_xorU (aD rfl) rfl rfl rfl (op_idxA (aD rfl) ae132 rfl rfl (show _=(((i % 5:Nat)):Int)from by omega) (by omega) rfl ?_))
  refine aO (nxl rfl) sz70 rfl rfl rfl rfl rfl B2 (by simp<;>omega) sel0 (fun N2 B2=>?_)
  rw [set64A]at B2
  refine aA (aR (aB (s_6 (At.region (aV (aD rfl) rfl rfl (by omega) (by omega) rfl (aC (aD rfl) rfl rfl (aA (aB (bD ?_ (.refl _) ⟨i+1,N2,rfl,rfl,rfl,by omega,B2⟩ ?_)))))))))
  ·exact .cons (by first|exact aP rfl (by omega)|rfl) (.cons (by first|exact aP rfl (by omega)|rfl) (.cons (by first|exact aP rfl (by omega)|rfl) (.cons (by first|exact aP rfl (by omega)|rfl) .nil)))
  ·omega
 refine At.exit (aG (aG (bC (aB (s_2 (At.seq fun _ s_8=>At.region (aC (aD rfl) rfl rfl (aA (aB (s_8 (At.block ?_)))))))))))
 obtain rfl:i=25:=by omega
 change Blk N0 b0 _ (u64s (thA (thC a 25) a 0)++T)at B0
 refine At.loop (fun fr_ hp_ ms_=> ∃(j:Nat) (N0:Heaplet),fr_= [(0,.pointer (some ⟨b0,0,none⟩)),(2,.pointer (some ⟨b2,0,none⟩)),(22,.int .i64 (j:Int))]∧hp_= [N2,N0,R]∧25- j=ms_∧(j≤25)∧(Blk N0 b0 e0 (u64s (thA (thC a 25) a j)++T))) ?_ (.refl _) ⟨0,N0,rfl,rfl,rfl,by omega,B0⟩ ?_
 ·exact .cons (by first|exact aP rfl (by omega)|rfl) (.cons (by first|exact aP rfl (by omega)|rfl) (.cons (by first|exact aP rfl (by omega)|rfl) .nil))
 rintro _ _ _ ⟨j,N0,rfl,rfl,rfl,hj,B0⟩
 have hal:=thA_len (thC a 25) a j
 refine At.seq fun _ s_9=>At.region (op_lss (aD rfl) rfl rfl rfl (aA (aB (s_9 (At.seq fun _ s_10=>aK rfl (fun c23=>?_) (fun c23=>?_))))))
 ·refine At.skip (aB (s_10 (At.seq fun _ s_11=>At.block (At.seq fun _ s_12=>At.region (aC (aD rfl) rfl rfl (aE (aD rfl) rfl rfl (aA (aB (s_12 (At.seq fun _ s_13=>At.region (aC (aD rfl) rfl rfl (op_rem (aD rfl) rfl rfl (by omega) (by omega) rfl (aE (aD rfl) rfl rfl (aA (aB (s_13 (At.drawn [20] [0,1,2,3,4,5,6,7,8,9,10,11,12,13,14,18,15,16,17,19,20] (by kernel_rfl) (by kernel_rfl) (aC (aN rfl rfl rfl (by kernel_rfl)) rfl rfl (aC (aN rfl rfl rfl (by kernel_rfl)) rfl rfl (aQ (aN rfl rfl rfl (by kernel_rfl)) rfl rfl ?_))))))))))))))))))))
  refine op_idxA (aN rfl rfl rfl (by kernel_rfl)) ae128 rfl rfl (show _=(((j:Nat)):Int)from by omega) (by omega) rfl ?_
  refine aI (aN rfl rfl rfl (by kernel_rfl)) sc70 rfl B0 (by first|exact get64A (by omega)|rfl|exact getT (by first|omega|(rw [thA_len];omega))) aZ rfl ?_
  refine aC (aN rfl rfl rfl (by kernel_rfl)) rfl rfl (aV (aN rfl rfl rfl (by kernel_rfl)) rfl rfl (by omega) (by omega) rfl (op_rem (aN rfl rfl rfl (by kernel_rfl)) rfl rfl (by omega) (by omega) rfl (op_idxA (aN rfl rfl rfl (by kernel_rfl)) ae132 rfl rfl (show _=((((j % 5+4) % 5:Nat)):Int)from by omega) (by omega) rfl ?_)))
  refine aI (aN rfl rfl rfl (by kernel_rfl)) sc70 rfl B2 (by first|exact get64A (by omega)|rfl|exact getT (by first|omega|(rw [thA_len];omega))) aL rfl ?_
  refine aC (aN rfl rfl rfl (by kernel_rfl)) rfl rfl (aV (aN rfl rfl rfl (by kernel_rfl)) rfl rfl (by omega) (by omega) rfl (op_rem (aN rfl rfl rfl (by kernel_rfl)) rfl rfl (by omega) (by omega) rfl (op_idxA (aN rfl rfl rfl (by kernel_rfl)) ae132 rfl rfl (show _=((((j % 5+1) % 5:Nat)):Int)from by omega) (by omega) rfl ?_)))
  refine aI (aN rfl rfl rfl (by kernel_rfl)) sc70 rfl B2 (by first|exact get64A (by omega)|rfl|exact getT (by first|omega|(rw [thA_len];omega))) aL rfl ?_
  refine aQ (aN rfl rfl rfl (by kernel_rfl)) rfl rfl (aJ (nxoa rfl rfl rfl) (.cons rfl (.cons rfl .nil)) (Rot_f ((thC a 25).getD ((j % 5+1) % 5) 0) 1 (by decide)) Tryz.func132 rfl rfl (by simp) rfl ?_)
  rintro v42 L42 ⟨rfl,rfl⟩
  change At _ _ _ [N2,N0,R] _
  refine op_xorU (aN rfl rfl rfl (by kernel_rfl)) rfl rfl rfl (op_xorU (aN rfl rfl rfl (by kernel_rfl)) rfl rfl rfl (op_idxA (aN rfl rfl rfl (by kernel_rfl)) ae128 rfl rfl (show _=(((j:Nat)):Int)from by omega) (by omega) rfl ?_))
  refine aO (nxos rfl rfl rfl rfl) sz70 rfl rfl rfl rfl rfl B0 (by rw [lenT];simp;omega) sel1 (fun N0 B0=>?_)
  rw [setT (by omega)]at B0
  refine At.oneNil (aR (aB (s_11 (At.region (aV (aD rfl) rfl rfl (by omega) (by omega) rfl (aC (aD rfl) rfl rfl (aA (aB (At.perm sel2 (At.perm sel1 (At.perm sel2 (bD ?_ (.refl _) ⟨j+1,N0,rfl,rfl,rfl,by omega,B0⟩ ?_))))))))))))
  ·exact .cons (by first|exact aP rfl (by omega)|rfl) (.cons (by first|exact aP rfl (by omega)|rfl) (.cons (by first|exact aP rfl (by omega)|rfl) .nil))
  ·omega
 refine At.exit (aG (aG (bC (At.sub (L':= [N0,R]) (.cons _ (.cons_cons _ (.cons_cons _ (.slnil)))) (At.retNE (L1:= [N0]) rfl .nil rfl (.refl _) (.refl _) ?_)))))
 obtain rfl:j=25:=by omega
 exact⟨N0,rfl,rfl,B0⟩
set_option maxRecDepth 100000 in
set_option maxHeartbeats 1000000 in
theorem FTurn_f {N:Heaplet} {b0:Nat} {e0:TypeId} {a:List UInt64} {T:List Value} (ha:a.length=25) (B0:Blk N b0 e0 (u64s a++T)):Fn Tryz.prog 115 #[.pointer (some ⟨b0,0,none⟩)] [N] [] (fun v L=> ∃M,v=.tuple #[]∧L= [M]∧Blk M b0 e0 (u64s (tuP a 24).1++T)):=by
 obtain⟨N0,h0⟩: ∃N0,N0=N:=⟨_,rfl⟩
 rw [←h0]at B0⊢
 refine Fn.enter (vs:= [.pointer (some ⟨b0,0,none⟩)]) Tryz.func115 rfl rfl rfl ?_
 intro E R hR
 change At _ _ E [N0,R] _
 refine At.seq fun _ s_1=>At.drawn [] [0,1,2,3,4,5,6] (by kernel_rfl) (by kernel_rfl) (aC (aN rfl rfl rfl (by kernel_rfl)) rfl rfl (aQ (aN rfl rfl rfl (by kernel_rfl)) rfl rfl (op_idxA (aN rfl rfl rfl (by kernel_rfl)) ae128 rfl rfl (show _=(((1:Nat)):Int)from by omega) (by omega) rfl ?_)))
 refine aI (aN rfl rfl rfl (by kernel_rfl)) sc70 rfl B0 (by first|exact get64A (by omega)|rfl|exact getT (by omega)) aL rfl ?_
 refine aE (aN rfl rfl rfl (by kernel_rfl)) rfl rfl (aE (aN rfl rfl rfl (by kernel_rfl)) rfl rfl (aE (aN rfl rfl rfl (by kernel_rfl)) rfl rfl (At.oneNil (aB (s_1 (At.seq fun _ s_2=>At.region (aC (aD rfl) rfl rfl (aA (aB (s_2 (At.block (At.loop (fun fr_ hp_ ms_=> ∃(t:Nat) (N0:Heaplet),fr_= [(0,.pointer (some ⟨b0,0,none⟩)),(2,.int .i64 ((pX t).1:Int)),(3,.int .i64 ((pX t).2:Int)),(4,.int .u64 ((tuP a t).2.toNat:Int)),(11,.int .i64 (t:Int))]∧hp_= [N0,R]∧24- t=ms_∧(t≤24)∧(Blk N0 b0 e0 (u64s (tuP a t).1++T))) ?_ (.refl _) ⟨0,N0,rfl,rfl,rfl,by omega,B0⟩ ?_))))))))))))
 ·exact .cons (by first|exact aP rfl (by omega)|rfl) (.cons (by first|exact aP rfl (by omega)|rfl) (.cons (by first|exact aP rfl (by omega)|rfl) (.cons (by first|exact aP rfl (by omega)|rfl) (.cons (by first|exact aP rfl (by omega)|rfl) .nil))))
 rintro _ _ _ ⟨t,N0,rfl,rfl,rfl,ht,B0⟩
 have hal:=(tuP_len a t).trans ha
 have hx:=pX_lt t
 have hp1:(pX (t+1)).1=(pX t).2:=rfl
 have hp2:(pX (t+1)).2=(2*(pX t).1+3*(pX t).2) % 5:=rfl
 have hpos:pos (t+1)=(pX t).2+5*((2*(pX t).1+3*(pX t).2) % 5):=rfl
 have hpl:=pos_lt (t+1)
 have hm:((t:Int)+1)*((t:Int)+2)=(((t+1)*(t+2):Nat):Int):=by simp
 have hm2:(t+1)*(t+2)≤25*26:=Nat.mul_le_mul (by omega) (by omega)
 obtain⟨m,hmm⟩: ∃m,(t+1)*(t+2)=m:=⟨_,rfl⟩
 have hrot:rot t=m/2 % 64:=by rw [rot,hmm]
 rw [hmm]at hm hm2
 refine At.seq fun _ s_3=>At.region (op_lss (aD rfl) rfl rfl rfl (aA (aB (s_3 (At.seq fun _ s_4=>aK rfl (fun c12=>?_) (fun c12=>?_))))))
 ·refine At.skip (aB (s_4 (At.seq fun _ s_5=>At.block (At.seq fun _ s_6=>At.region (aC (aD rfl) rfl rfl (aE (aD rfl) rfl rfl (aA (aB (s_6 (At.seq fun _ s_7=>At.region (aC (aD rfl) rfl rfl (aC (aD rfl) rfl rfl (op_mulI (aD rfl) rfl rfl (by omega) (by omega) rfl (aC (aD rfl) rfl rfl (op_mulI (aD rfl) rfl rfl (by omega) (by omega) rfl (aV (aD rfl) rfl rfl (by omega) (by omega) rfl (op_rem (aD rfl) rfl rfl (by omega) (by omega) rfl (aE (aD rfl) rfl rfl (aE (aD rfl) rfl rfl ?_)))))))))))))))))))
  refine aA (aB (s_7 (At.seq fun _ s_8=>At.region (aC (aD rfl) rfl rfl (aC (aD rfl) rfl rfl (op_mulI (aD rfl) rfl rfl (by omega) (by omega) rfl (aV (aD rfl) rfl rfl (by omega) (by omega) rfl (aE (aD rfl) rfl rfl (aA (aB (s_8 (At.drawn [18] [0,1,2,3,4,5,6,7,8,9,11,12,13,14,15,16,10,17,18,19] (by kernel_rfl) (by kernel_rfl) (aC (aN rfl rfl rfl (by kernel_rfl)) rfl rfl (aC (aN rfl rfl rfl (by kernel_rfl)) rfl rfl (aC (aN rfl rfl rfl (by kernel_rfl)) rfl rfl (aC (aN rfl rfl rfl (by kernel_rfl)) rfl rfl (aV (aN rfl rfl rfl (by kernel_rfl)) rfl rfl (by omega) (by omega) rfl (aC (aN rfl rfl rfl (by kernel_rfl)) rfl rfl (aV (aN rfl rfl rfl (by kernel_rfl)) rfl rfl (by omega) (by omega) rfl ?_)))))))))))))))))))
  -- an operation that writes, not last
  refine op_mulI (aN rfl rfl rfl (by kernel_rfl)) rfl rfl (by rw [hm];omega) (by rw [hm];omega) rfl ?_
  rw [hm]
  refine op_quoI (aN rfl rfl rfl (by kernel_rfl)) rfl rfl (by omega) (by omega) (by omega) rfl (op_rem (aN rfl rfl rfl (by kernel_rfl)) rfl rfl (by omega) (by omega) rfl ?_)
  rw [show(m:Int)/2 % 64=((rot t:Nat):Int)from by omega]
  refine aC (aN rfl rfl rfl (by kernel_rfl)) rfl rfl (aC (aN rfl rfl rfl (by kernel_rfl)) rfl rfl (aQ (aN rfl rfl rfl (by kernel_rfl)) rfl rfl (op_idxA (aN rfl rfl rfl (by kernel_rfl)) ae128 rfl rfl (show _=(((pos (t+1):Nat)):Int)from by omega) (by omega) rfl ?_)))
  refine aI (aN rfl rfl rfl (by kernel_rfl)) sc70 rfl B0 (by first|exact get64A (by omega)|rfl|exact getT (by omega)) aL rfl ?_
  refine aQ (aN rfl rfl rfl (by kernel_rfl)) rfl rfl (aJ (nxoa rfl rfl rfl) (.cons rfl (.cons rfl .nil)) (Rot_f (tuP a t).2 (rot t) (by omega)) Tryz.func132 rfl rfl (by simp) rfl ?_)
  rintro v35 L35 ⟨rfl,rfl⟩
  change At _ _ _ [N0,R] _
  refine op_idxA (aN rfl rfl rfl (by kernel_rfl)) ae128 rfl rfl (show _=(((pos (t+1):Nat)):Int)from by omega) (by omega) rfl ?_
  refine aO (nxos rfl rfl rfl rfl) sz70 rfl rfl rfl rfl rfl B0 (by rw [lenT];simp;omega) sel0 (fun N0 B0=>?_)
  rw [setT (by omega)]at B0
  refine aE (aN rfl rfl rfl (by kernel_rfl)) rfl rfl (At.oneNil (aR (aB (s_5 (At.region (aV (aD rfl) rfl rfl (by omega) (by omega) rfl (aC (aD rfl) rfl rfl (aA (aB (bD ?_ (.refl _) ⟨t+1,N0,rfl,rfl,rfl,by omega,B0⟩ ?_))))))))))
  ·exact .cons (by first|exact aP rfl (by omega)|rfl) (.cons (by first|exact aP rfl (by omega)|rfl) (.cons (by first|exact aP rfl (by omega)|rfl) (.cons (by first|exact aP rfl (by omega)|rfl) (.cons (by first|exact aP rfl (by omega)|rfl) .nil))))
  ·omega
 refine At.exit (aG (aG (bC (At.retNE (L1:= [N0]) rfl .nil rfl (.refl _) (.refl _) ?_))))
 obtain rfl:t=24:=by omega
 exact⟨N0,rfl,rfl,B0⟩
end Go.Proofs.YtdpjbefeabokgaaGreat
/- Package hash: chi, the constants, Keccak's permutation. No condition. -/
namespace Go.Proofs.YtdpjbefeabokgaaGreat
open Go Go.RowKit
theorem cutL {a m b:List Value} {k n:Nat} (ha:a.length=k) (hm:m.length=n):((a++(m++b)).drop k).take n=m:=by
 subst ha;subst hm
 rw [List.drop_left,List.take_left]
theorem all64 (l:List UInt64):(u64s l).all (·.oneCell')=true:=List.all_eq_true.2 (one_u64s l)
theorem row_cells {a:List UInt64} {T:List Value} {y:Nat} (h:y+5≤a.length):((u64s a++T).drop (0+y*1)).take 5=u64s ((a.drop y).take 5):=by
 have e:u64s a=u64s (a.take y)++(u64s ((a.drop y).take 5)++u64s (a.drop (y+5))):=by
  conv=>lhs;rw [←List.take_append_drop y a, ←List.take_append_drop 5 (a.drop y),List.drop_drop]
  simp [u64s]
 rw [e,Nat.zero_add,Nat.mul_one,List.append_assoc,List.append_assoc]
 exact cutL (by simp [u64s];omega) (by simp [u64s];omega)
set_option maxRecDepth 100000 in
set_option maxHeartbeats 1000000 in
theorem FChi_f {N:Heaplet} {b0:Nat} {e0:TypeId} {a:List UInt64} {T:List Value} (ha:a.length=25) (B0:Blk N b0 e0 (u64s a++T)):Fn Tryz.prog 116 #[.pointer (some ⟨b0,0,none⟩)] [N] [] (fun v L=> ∃M,v=.tuple #[]∧L= [M]∧Blk M b0 e0 (u64s (chP a 5)++T)):=by
 obtain⟨N0,h0⟩: ∃N0,N0=N:=⟨_,rfl⟩
 rw [←h0]at B0⊢
 refine Fn.enter (vs:= [.pointer (some ⟨b0,0,none⟩)]) Tryz.func116 rfl rfl rfl ?_
 intro E R hR
 change At _ _ E [N0,R] _
 refine At.seq fun _ s_1=>At.region (aE (aD rfl) rfl rfl (aA (aB (s_1 (At.block (At.loop (fun fr_ hp_ ms_=> ∃(k:Nat) (N0:Heaplet),fr_= [(0,.pointer (some ⟨b0,0,none⟩)),(2,.int .i64 (5*(k:Int)))]∧hp_= [N0,R]∧5- k=ms_∧(k≤5)∧(Blk N0 b0 e0 (u64s (chP a k)++T))) ?_ (.refl _) ⟨0,N0,rfl,rfl,rfl,by omega,B0⟩ ?_))))))
 ·exact .cons (by first|exact aP rfl (by omega)|rfl) (.cons (by first|exact aP rfl (by omega)|rfl) .nil)
 rintro _ _ _ ⟨k,N0,rfl,rfl,rfl,hk,B0⟩
 have hal:=(chP_len a k).trans ha
 refine At.seq fun _ s_2=>At.seq fun _ s_3=>At.region (aC (aD rfl) rfl rfl (op_lss (aD rfl) rfl rfl rfl (aA (aB (s_3 (aK rfl (fun c6=>?_) (fun c6=>?_)))))))
 ·refine At.skip (aB (s_2 (At.seq fun _ s_4=>At.block (At.seq fun _ s_5=>At.region (aC (aD rfl) rfl rfl (aQ (aD rfl) rfl rfl (aC (aD rfl) rfl rfl (aC (aD rfl) rfl rfl (aV (aD rfl) rfl rfl (by omega) (by omega) rfl (op_sliceA (aD rfl) ae128 rfl (.some rfl (show _=(((5*k:Nat)):Int)from by omega)) (.some rfl (show _=(((5*k+5:Nat)):Int)from by omega)) .none (by omega) (by omega) (by omega) (by simp) rfl ?_))))))))))
  rw [if_neg (by omega)]
  have hrl:(((chP a k).drop (5*k)).take 5).length=5:=by rw [List.length_take,List.length_drop];omega
  have hrc:=row_cells (a:=chP a k) (T:=T) (y:=5*k) (by omega)
  obtain⟨row,hrow⟩: ∃row,row=((chP a k).drop (5*k)).take 5:=⟨_,rfl⟩
  rw [←hrow]at hrl hrc
  refine op_toArr (aD rfl) ae132 rfl (by omega) rfl (op_loadAggB (ds:=u64s row) (aD rfl) ag132 rfl B0 hrc (by simp [u64s,hrl]) aL rfl ?_)
  refine bO (bA rfl) ze132 rfl (fun N3 b3 B3=>?_)
  change Blk N3 b3 _ [.int .u64 0,.int .u64 0,.int .u64 0,.int .u64 0,.int .u64 0]at B3
  refine aO (nxl rfl) sz132 rfl rfl rfl (by simp [u64s,hrl]) (all64 _) B3 (by simp [u64s,hrl]) sel0 (fun N3 B3=>?_)
  rw [setL_whole (by simp [u64s,hrl])]at B3
  refine aA (aB (s_5 (At.seq fun _ s_6=>At.region (aC (aD rfl) rfl rfl (aA (aB (s_6 (At.block ?_))))))))
  change Blk N0 b0 _ (u64s (chI row (chP a k) (5*k) 0)++T)at B0
  refine At.loop (fun fr_ hp_ ms_=> ∃(x:Nat) (N0:Heaplet),fr_= [(0,.pointer (some ⟨b0,0,none⟩)),(2,.int .i64 (5*(k:Int))),(3,.pointer (some ⟨b3,0,none⟩)),(17,.int .i64 (x:Int))]∧hp_= [N3,N0,R]∧5- x=ms_∧(x≤5)∧(Blk N0 b0 e0 (u64s (chI row (chP a k) (5*k) x)++T))) ?_ (.refl _) ⟨0,N0,rfl,rfl,rfl,by omega,B0⟩ ?_
  ·exact .cons (by first|exact aP rfl (by omega)|rfl) (.cons (by first|exact aP rfl (by omega)|rfl) (.cons (by first|exact aP rfl (by omega)|rfl) (.cons (by first|exact aP rfl (by omega)|rfl) .nil)))
  rintro _ _ _ ⟨x,N0,rfl,rfl,rfl,hx,B0⟩
  have hcl:=chI_len row (chP a k) (5*k) x
  refine At.seq fun _ s_7=>At.region (op_lss (aD rfl) rfl rfl rfl (aA (aB (s_7 (At.seq fun _ s_8=>aK rfl (fun c18=>?_) (fun c18=>?_))))))
  ·refine At.skip (aB (s_8 (At.seq fun _ s_9=>At.block (At.seq fun _ s_10=>At.region (aC (aD rfl) rfl rfl (aE (aD rfl) rfl rfl (aA (aB (s_10 (At.drawn [22] [0,1,2,3,4,5,6,7,8,9,10,11,12,13,14,15,16,17,18,19,20,21,22] (by kernel_rfl) (by kernel_rfl) (aC (aN rfl rfl rfl (by kernel_rfl)) rfl rfl (aC (aN rfl rfl rfl (by kernel_rfl)) rfl rfl (aC (aN rfl rfl rfl (by kernel_rfl)) rfl rfl (aV (aN rfl rfl rfl (by kernel_rfl)) rfl rfl (by omega) (by omega) rfl (aC (aN rfl rfl rfl (by kernel_rfl)) rfl rfl (op_idxA (aN rfl rfl rfl (by kernel_rfl)) ae132 rfl rfl (show _=(((x:Nat)):Int)from by omega) (by omega) rfl ?_))))))))))))))))
   refine aI (aN rfl rfl rfl (by kernel_rfl)) sc70 rfl B3 (by first|exact get64A (by omega)|rfl) aL rfl ?_
   refine aC (aN rfl rfl rfl (by kernel_rfl)) rfl rfl (aV (aN rfl rfl rfl (by kernel_rfl)) rfl rfl (by omega) (by omega) rfl (op_rem (aN rfl rfl rfl (by kernel_rfl)) rfl rfl (by omega) (by omega) rfl (op_idxA (aN rfl rfl rfl (by kernel_rfl)) ae132 rfl rfl (show _=((((x+1) % 5:Nat)):Int)from by omega) (by omega) rfl ?_)))
   refine aI (aN rfl rfl rfl (by kernel_rfl)) sc70 rfl B3 (by first|exact get64A (by omega)|rfl) aL rfl ?_
   refine op_compU (aN rfl rfl rfl (by kernel_rfl)) rfl rfl (aC (aN rfl rfl rfl (by kernel_rfl)) rfl rfl (aV (aN rfl rfl rfl (by kernel_rfl)) rfl rfl (by omega) (by omega) rfl (op_rem (aN rfl rfl rfl (by kernel_rfl)) rfl rfl (by omega) (by omega) rfl (op_idxA (aN rfl rfl rfl (by kernel_rfl)) ae132 rfl rfl (show _=((((x+2) % 5:Nat)):Int)from by omega) (by omega) rfl ?_))))
   refine aI (aN rfl rfl rfl (by kernel_rfl)) sc70 rfl B3 (by first|exact get64A (by omega)|rfl) aL rfl ?_
   refine op_andU (aN rfl rfl rfl (by kernel_rfl)) rfl rfl rfl (op_xorU (aN rfl rfl rfl (by kernel_rfl)) rfl rfl rfl (aQ (aN rfl rfl rfl (by kernel_rfl)) rfl rfl (op_idxA (aN rfl rfl rfl (by kernel_rfl)) ae128 rfl rfl (show _=(((5*k+x:Nat)):Int)from by omega) (by omega) rfl ?_)))
   refine aO (nxos rfl rfl rfl rfl) sz70 rfl rfl rfl rfl rfl B0 (by rw [lenT];simp;omega) sel1 (fun N0 B0=>?_)
   rw [setT (by omega)]at B0
   refine At.oneNil (aR (aB (s_9 (At.region (aV (aD rfl) rfl rfl (by omega) (by omega) rfl (aC (aD rfl) rfl rfl (aA (aB (At.perm sel2 (At.perm sel1 (At.perm sel2 (bD ?_ (.refl _) ⟨x+1,N0,rfl,rfl,rfl,by omega,B0⟩ ?_))))))))))))
   ·exact .cons (by first|exact aP rfl (by omega)|rfl) (.cons (by first|exact aP rfl (by omega)|rfl) (.cons (by first|exact aP rfl (by omega)|rfl) (.cons (by first|exact aP rfl (by omega)|rfl) .nil)))
   ·omega
  refine At.exit (aG (aG (bC (aR (aB (s_4 (At.region ?_)))))))
  obtain rfl:x=5:=by omega
  rw [hrow]at B0
  refine aC (aD rfl) rfl rfl (aV (aD rfl) rfl rfl (by omega) (by omega) rfl (aE (aD rfl) rfl rfl (aA (aB (At.sub (L':= [N0,R]) (.cons _ (.cons_cons _ (.cons_cons _ (.slnil)))) (bD ?_ (.refl _) ⟨k+1,N0,rfl,rfl,rfl,by omega,B0⟩ ?_))))))
  ·exact .cons (by first|exact aP rfl (by omega)|rfl) (.cons (by first|exact aP rfl (by omega)|rfl) .nil)
  ·omega
 refine At.exit (aG (aG (bC (At.retNE (L1:= [N0]) rfl .nil rfl (.refl _) (.refl _) ?_))))
 obtain rfl:k=5:=by omega
 exact⟨N0,rfl,rfl,B0⟩
set_option maxRecDepth 100000 in
set_option maxHeartbeats 1000000 in
theorem FConst_f:Fn Tryz.prog 113 #[] [] [] (fun v L=>v=.agg (u64s rcL).toArray∧L= []):=by
 refine Fn.enter (vs:= []) Tryz.func113 rfl rfl rfl ?_
 intro E R hR
 change At _ _ E [R] _
 refine At.seq fun _ s_1=>At.region (bO (bA rfl) ze167 rfl (fun N0 b0 B0=>?_))
 change Blk N0 b0 _ [.int .u64 0,.int .u64 0,.int .u64 0,.int .u64 0,.int .u64 0,.int .u64 0,.int .u64 0,.int .u64 0,.int .u64 0,.int .u64 0,.int .u64 0,.int .u64 0,.int .u64 0,.int .u64 0,.int .u64 0,.int .u64 0,.int .u64 0,.int .u64 0,.int .u64 0,.int .u64 0,.int .u64 0,.int .u64 0,.int .u64 0,.int .u64 0]at B0
 change Blk N0 b0 _ (u64s (List.replicate 24 0))at B0
 refine aA (aB (s_1 (At.seq fun _ s_2=>At.region (bO (bA rfl) ze167 rfl (fun N1 b1 B1=>?_)))))
 change Blk N1 b1 _ [.int .u64 0,.int .u64 0,.int .u64 0,.int .u64 0,.int .u64 0,.int .u64 0,.int .u64 0,.int .u64 0,.int .u64 0,.int .u64 0,.int .u64 0,.int .u64 0,.int .u64 0,.int .u64 0,.int .u64 0,.int .u64 0,.int .u64 0,.int .u64 0,.int .u64 0,.int .u64 0,.int .u64 0,.int .u64 0,.int .u64 0,.int .u64 0]at B1
 change Blk N1 b1 _ (u64s (cN (7*0)))at B1
 refine aA (aB (s_2 (At.seq fun _ s_3=>At.region (aE (aD rfl) rfl rfl (aA (aB (s_3 (At.seq fun _ s_4=>At.seq fun _ s_5=>At.region (aC (aD rfl) rfl rfl (aA (aB (s_5 (At.block (At.loop (fun fr_ hp_ ms_=> ∃(i:Nat) (N1:Heaplet),fr_= [(0,.pointer (some ⟨b0,0,none⟩)),(1,.pointer (some ⟨b1,0,none⟩)),(2,.int .u8 (rI (7*i))),(6,.int .i64 (i:Int))]∧hp_= [N1,N0,R]∧24- i=ms_∧(i≤24)∧(Blk N1 b1 167 (u64s (cN (7*i))))) ?_ (.refl _) ⟨0,N1,rfl,rfl,rfl,by omega,B1⟩ ?_))))))))))))))
 ·exact .cons (by first|exact aP rfl (by omega)|rfl) (.cons (by first|exact aP rfl (by omega)|rfl) (.cons (by first|exact aP rfl (by omega)|rfl) (.cons (by first|exact aP rfl (by omega)|rfl) .nil)))
 rintro _ _ _ ⟨i,N1,rfl,rfl,rfl,hi,B1⟩
 refine At.seq fun _ s_6=>At.region (op_lss (aD rfl) rfl rfl rfl (aA (aB (s_6 (At.seq fun _ s_7=>aK rfl (fun c7=>?_) (fun c7=>?_))))))
 ·refine At.skip (aB (s_7 (At.seq fun _ s_8=>At.block (At.seq fun _ s_9=>At.region (aC (aD rfl) rfl rfl (aE (aD rfl) rfl rfl (aA (aB (s_9 (At.seq fun _ s_10=>At.region (aC (aD rfl) rfl rfl (aA (aB (s_10 (At.block (At.loop (fun fr_ hp_ ms_=> ∃(j:Nat) (N1:Heaplet),fr_= [(0,.pointer (some ⟨b0,0,none⟩)),(1,.pointer (some ⟨b1,0,none⟩)),(2,.int .u8 (rI (7*i+j))),(3,.int .i64 (i:Int)),(6,.int .i64 (i:Int)),(9,.int .i64 (j:Int))]∧hp_= [N1,N0,R]∧7- j=ms_∧(j≤7)∧(Blk N1 b1 167 (u64s (cN (7*i+j))))) ?_ (.refl _) ⟨0,N1,rfl,rfl,rfl,by omega,B1⟩ ?_))))))))))))))))
  ·exact .cons (by first|exact aP rfl (by omega)|rfl) (.cons (by first|exact aP rfl (by omega)|rfl) (.cons (by first|exact aP rfl (by omega)|rfl) (.cons (by first|exact aP rfl (by omega)|rfl) (.cons (by first|exact aP rfl (by omega)|rfl) (.cons (by first|exact aP rfl (by omega)|rfl) .nil)))))
  rintro _ _ _ ⟨j,N1,rfl,rfl,rfl,hj,B1⟩
  have hcl:=cN_len (7*i+j)
  obtain⟨hr0,hr1,hr2⟩:=rI_ok ⟨7*i+j,by omega⟩
  simp only at hr0 hr1 hr2
  refine At.seq fun _ s_11=>At.region (op_lss (aD rfl) rfl rfl rfl (aA (aB (s_11 (At.seq fun _ s_12=>aK rfl (fun c10=>?_) (fun c10=>?_))))))
  ·refine At.skip (aB (s_12 (At.seq fun _ s_13=>At.block (At.seq fun _ s_14=>At.region (aC (aD rfl) rfl rfl (aE (aD rfl) rfl rfl (aA (aB (s_14 (At.seq fun _ s_15=>At.drawn [12] [0,1,2,3,4,5,6,7,8,9,10,11,12] (by kernel_rfl) (by kernel_rfl) (aC (aN rfl rfl rfl (by kernel_rfl)) rfl rfl (op_idxA (aN rfl rfl rfl (by kernel_rfl)) ae167 rfl rfl (show _=(((i:Nat)):Int)from by omega) (by omega) rfl ?_))))))))))))
   refine aI (aN rfl rfl rfl (by kernel_rfl)) sc70 rfl B1 (by first|exact get64A (by omega)|rfl) aL rfl ?_
   refine aC (aN rfl rfl rfl (by kernel_rfl)) rfl rfl (op_bits (by simp) (aN rfl rfl rfl (by kernel_rfl)) rfl rfl rfl (op_conv64 (aN rfl rfl rfl (by kernel_rfl)) (und_some Tryz.underlying5) Tryz.underlying70 rfl (show _=((((bits .and .u8 (rI (7*i+j)) 1).toNat:Nat)):Int)from by omega) rfl ?_))
   refine aC (aN rfl rfl rfl (by kernel_rfl)) rfl rfl (op_shlU (a:=1) (aN rfl rfl rfl (by kernel_rfl)) rfl rfl (show _=(((j:Nat)):Int)from by omega) rfl ?_)
   refine op_subU (b:=1) (aN rfl rfl rfl (by kernel_rfl)) rfl rfl rfl (op_shlU (aN rfl rfl rfl (by kernel_rfl)) rfl rfl (show _=((((shl64 1 j- 1).toNat:Nat)):Int)from by omega) rfl ?_)
   refine op_orU (aN rfl rfl rfl (by kernel_rfl)) rfl rfl rfl (op_idxA (aN rfl rfl rfl (by kernel_rfl)) ae167 rfl rfl (show _=(((i:Nat)):Int)from by omega) (by omega) rfl ?_)
   refine aO (nxos rfl rfl rfl rfl) sz70 rfl rfl rfl rfl rfl B1 (by simp<;>omega) sel0 (fun N1 B1=>?_)
   rw [set64A]at B1
   refine At.oneNil (aB (s_15 (At.seq fun _ s_16=>At.region (aC (aD rfl) rfl rfl (op_shrW (aD rfl) rfl rfl (by omega) (by omega) rfl (aE (aD rfl) rfl rfl (aA (aB (s_16 (At.region (aC (aD rfl) rfl rfl (op_shlW (aD rfl) rfl rfl (by omega) rfl (aC (aD rfl) rfl rfl (op_mulW (aD rfl) rfl rfl rfl (op_bits (by simp) (aD rfl) rfl rfl rfl (aE (aD rfl) rfl rfl (aA (aR (aB (s_13 (At.region (aV (aD rfl) rfl rfl (by omega) (by omega) rfl ?_))))))))))))))))))))))
   refine aC (aD rfl) rfl rfl (aA (aB ?_))
   refine bD ?_ (.refl _) ⟨j+1,N1,rfl,rfl,rfl,by omega,by rw [show 7*i+(j+1)=(7*i+j)+1 by omega,cN,cStep,show(7*i+j)/7=i by omega,show(7*i+j) % 7=j by omega];exact B1⟩ ?_
   ·exact .cons (by first|exact aP rfl (by omega)|rfl) (.cons (by first|exact aP rfl (by omega)|rfl) (.cons (by first|exact aP rfl (by omega)|rfl) (.cons (by first|exact aP rfl (by omega)|rfl) (.cons (by first|exact aP rfl (by omega)|rfl) (.cons (by first|exact aP rfl (by omega)|rfl) .nil)))))
   ·omega
  refine At.exit (aG (aG (bC (aR (aB (s_8 (At.region ?_)))))))
  obtain rfl:j=7:=by omega
  change Blk N1 b1 _ (u64s (cN (7*(i+1))))at B1
  refine aV (aD rfl) rfl rfl (by omega) (by omega) rfl (aC (aD rfl) rfl rfl (aA (aB (bD ?_ (.refl _) ⟨i+1,N1,rfl,rfl,rfl,by omega,B1⟩ ?_))))
  ·exact .cons (by first|exact aP rfl (by omega)|rfl) (.cons (by first|exact aP rfl (by omega)|rfl) (.cons (by first|exact aP rfl (by omega)|rfl) (.cons (by first|exact aP rfl (by omega)|rfl) .nil)))
  ·omega
 refine At.exit (aG (aG (bC (aB (s_4 (At.seq fun _ s_17=>At.region ?_))))))
 obtain rfl:i=24:=by omega
 change Blk N1 b1 _ (u64s rcL)at B1
 have hrl:rcL.length=24:=cN_len 168
 refine op_loadAggB (ds:=u64s rcL) (aD rfl) ag167 rfl B1 (by rw [List.drop_zero,List.take_of_length_le (by simp [u64s,hrl])]) (by simp [u64s,hrl]) aL rfl ?_
 refine aO (nxl rfl) sz167 rfl rfl rfl (by simp [u64s,hrl]) (all64 _) B0 (by simp [u64s,hrl]) sel1 (fun N0 B0=>?_)
 rw [setL_whole (by simp [u64s,hrl])]at B0
 refine aA (aB (s_17 (At.ret ((At.sub (L':= [N0,R]) (.cons_cons _ (.cons _ (.cons_cons _ (.slnil)))) (aW (L1:= []) rfl (.cell rfl (res_agg (ds:=u64s rcL) ag167 B0 (by rw [List.drop_zero,List.take_of_length_le (by simp [u64s,hrl])]) (by simp [u64s,hrl]) aL) .nil) (.cons _ (.refl _)) (.refl _) ?_))))))
 exact⟨rfl,rfl⟩
set_option maxRecDepth 100000 in
set_option maxHeartbeats 1000000 in
theorem FPermute_f {N:Heaplet} {b0:Nat} {e0:TypeId} {a:List UInt64} {T:List Value} (ha:a.length=25) (B0:Blk N b0 e0 (u64s a++T)):Fn Tryz.prog 100 #[.pointer (some ⟨b0,0,none⟩)] [N] [] (fun v L=> ∃M,v=.tuple #[]∧L= [M]∧Blk M b0 e0 (u64s (prm a 24)++T)):=by
 obtain⟨N0,h0⟩: ∃N0,N0=N:=⟨_,rfl⟩
 rw [←h0]at B0⊢
 have hrl:rcL.length=24:=cN_len 168
 refine Fn.enter (vs:= [.pointer (some ⟨b0,0,none⟩)]) Tryz.func100 rfl rfl rfl ?_
 intro E R hR
 change At _ _ E [N0,R] _
 refine At.seq fun _ s_1=>At.region (aJ (bA rfl) .nil (FConst_f) Tryz.func113 rfl rfl (by simp) rfl ?_)
 rintro v4 L4 ⟨rfl,rfl⟩
 change At _ _ _ [N0,R] _
 refine aC (aD rfl) rfl rfl (aA (aB (s_1 (At.block ?_))))
 change Blk N0 b0 _ (u64s (prm a 0)++T)at B0
 refine At.loop (fun fr_ hp_ ms_=> ∃(k:Nat) (N0:Heaplet),fr_= [(0,.pointer (some ⟨b0,0,none⟩)),(4,.agg (u64s rcL).toArray),(5,.int .i64 (k:Int))]∧hp_= [N0,R]∧24- k=ms_∧(k≤24)∧(Blk N0 b0 e0 (u64s (prm a k)++T))) ?_ (.refl _) ⟨0,N0,rfl,rfl,rfl,by omega,B0⟩ ?_
 ·exact .cons (by first|exact aP rfl (by omega)|rfl) (.cons (by first|exact aP rfl (by omega)|rfl) (.cons (by first|exact aP rfl (by omega)|rfl) .nil))
 rintro _ _ _ ⟨k,N0,rfl,rfl,rfl,hk,B0⟩
 have hal:=(prm_len a k).trans ha
 have hl1:(theta (prm a k)).length=25:=(theta_len _).trans hal
 have hl2:(tuP (theta (prm a k)) 24).1.length=25:=(tuP_len _ _).trans hl1
 have hl3:(chP (tuP (theta (prm a k)) 24).1 5).length=25:=(chP_len _ _).trans hl2
 refine At.seq fun _ s_2=>At.region (op_lss (aD rfl) rfl rfl rfl (aA (aB (s_2 (At.seq fun _ s_3=>aK rfl (fun c6=>?_) (fun c6=>?_))))))
 ·refine At.skip (aB (s_3 (At.seq fun _ s_4=>At.block (At.seq fun _ s_5=>At.region ?_))))
  refine op_idxV (aD rfl) ae167 sc70 rfl rfl (show _=(((k:Nat)):Int)from by omega) (by omega) (by rw [List.getElem?_toArray];exact bT (by omega)) rfl ?_
  refine aE (aD rfl) rfl rfl (aA (aB (s_5 (At.seq fun _ s_6=>At.region (aC (aD rfl) rfl rfl (op_call (nxl rfl) (.cons rfl .nil) (FTheta_f hal B0) (F:= [R]) Tryz.func114 rfl rfl (.refl _) (by simp) rfl ?_))))))
  rintro v9 L9 ⟨N0,rfl,rfl,B0⟩
  change At _ _ _ [N0,R] _
  refine aA (aB (s_6 (At.seq fun _ s_7=>At.region (aC (aD rfl) rfl rfl (op_call (nxl rfl) (.cons rfl .nil) (FTurn_f hl1 B0) (F:= [R]) Tryz.func115 rfl rfl (.refl _) (by simp) rfl ?_)))))
  rintro v11 L11 ⟨N0,rfl,rfl,B0⟩
  change At _ _ _ [N0,R] _
  refine aA (aB (s_7 (At.seq fun _ s_8=>At.region (aC (aD rfl) rfl rfl (op_call (nxl rfl) (.cons rfl .nil) (FChi_f hl2 B0) (F:= [R]) Tryz.func116 rfl rfl (.refl _) (by simp) rfl ?_)))))
  rintro v13 L13 ⟨N0,rfl,rfl,B0⟩
  change At _ _ _ [N0,R] _
  obtain⟨q,hq⟩: ∃q,chP (tuP (theta (prm a k)) 24).1 5=q:=⟨_,rfl⟩
  rw [hq]at B0 hl3
  refine aA (aB (s_8 (At.drawn [8] [0,1,2,3,4,5,6,7,8] (by kernel_rfl) (by kernel_rfl) (aC (aN rfl rfl rfl (by kernel_rfl)) rfl rfl (aQ (aN rfl rfl rfl (by kernel_rfl)) rfl rfl (op_idxA (aN rfl rfl rfl (by kernel_rfl)) ae128 rfl rfl (show _=(((0:Nat)):Int)from by omega) (by omega) rfl ?_))))))
  refine aI (aN rfl rfl rfl (by kernel_rfl)) sc70 rfl B0 (by first|exact get64A (by omega)|rfl|exact getT (by omega)) aL rfl ?_
  refine aC (aN rfl rfl rfl (by kernel_rfl)) rfl rfl (op_xorU (aN rfl rfl rfl (by kernel_rfl)) rfl rfl rfl (aQ (aN rfl rfl rfl (by kernel_rfl)) rfl rfl (op_idxA (aN rfl rfl rfl (by kernel_rfl)) ae128 rfl rfl (show _=(((0:Nat)):Int)from by omega) (by omega) rfl ?_)))
  refine aO (nxos rfl rfl rfl rfl) sz70 rfl rfl rfl rfl rfl B0 (by rw [lenT];simp;omega) sel0 (fun N0 B0=>?_)
  rw [setT (by omega)]at B0
  refine At.oneNil (aR (aB (s_4 (At.region (aV (aD rfl) rfl rfl (by omega) (by omega) rfl (aC (aD rfl) rfl rfl (aA (aB ?_))))))))
  refine bD ?_ (.refl _) ⟨k+1,N0,rfl,rfl,rfl,by omega,by rw [prm,kRound,hq];exact B0⟩ ?_
  ·exact .cons (by first|exact aP rfl (by omega)|rfl) (.cons (by first|exact aP rfl (by omega)|rfl) (.cons (by first|exact aP rfl (by omega)|rfl) .nil))
  ·omega
 refine At.exit (aG (aG (bC (At.retNE (L1:= [N0]) rfl .nil rfl (.refl _) (.refl _) ?_))))
 obtain rfl:k=24:=by omega
 exact⟨N0,rfl,rfl,B0⟩
end Go.Proofs.YtdpjbefeabokgaaGreat
/- Package hash: Keccak-256 of any bytes. Condition: at most 2^40 bytes. -/
namespace Go.Proofs.YtdpjbefeabokgaaGreat
open Go Go.RowKit
theorem or128 (x:UInt8):bits .or .u8 (x.toNat:Int) 128=((x |||128).toNat:Int):=by
 have h: ∀i:Fin 256,bits .or .u8 (i.1:Int) 128=(((UInt8.ofNat i.1)|||128).toNat:Int):=by decide+kernel
 have e:UInt8.ofNat x.toNat=x:=by
  apply UInt8.toNat_inj.1
  rw [UInt8.toNat_ofNat'];exact Nat.mod_eq_of_lt x.toNat_lt
 have:=h ⟨x.toNat,x.toNat_lt⟩
 simp only [e]at this
 exact this
theorem all8 (l:List UInt8):(u8s l).all (·.oneCell')=true:=List.all_eq_true.2 (one_u8s l)
theorem blk8 {N:Heaplet} {b:Nat} {e:TypeId} {L:List UInt8} {k:Nat} (h:Blk N b e (u8s L)) (hk:L.length=k) (hm:k≤9223372036854775807):RSl N 1 (some ⟨b,0+0*1,none⟩) (k- 0) (k- 0) (u8s L):=by
 refine⟨by simp [u8s,hk],Nat.le_refl _,by unfold maxLen;omega,fun h0=>⟨b,0,rfl,h.rng⟩⟩
set_option maxRecDepth 100000 in
set_option maxHeartbeats 1000000 in
theorem FAbsorb_f {N M:Heaplet} {b0:Nat} {e0:TypeId} {a:List UInt64} {T:List Value} {ao:Option Addr} {n cap:Nat} {l:List UInt8} (ha:a.length=25) (B0:Blk N b0 e0 (u64s a++T)) (hb:RSl M 1 ao n cap (u8s l)) (hn:n=136):Fn Tryz.prog 77 #[.pointer (some ⟨b0,0,none⟩),.slice ao n cap] [N] [M] (fun v L=> ∃M,v=.tuple #[]∧L= [M]∧Blk M b0 e0 (u64s (absorb a l)++T)):=by
 obtain⟨N0,h0⟩: ∃N0,N0=N:=⟨_,rfl⟩
 rw [←h0]at B0⊢
 have hlen:=hb.len8
 have hcap:=hb.cap63
 refine Fn.enter (vs:= [.pointer (some ⟨b0,0,none⟩),.slice ao n cap]) Tryz.func77 rfl rfl rfl ?_
 intro E R hR
 have hb:=hb.le (hR M (by simp))
 change At _ _ E [N0,R] _
 refine At.seq fun _ s_1=>At.seq fun _ s_2=>At.region (aC (aD rfl) rfl rfl (aU (aD rfl) se23 rfl rfl (aC (aD rfl) rfl rfl (aA (aB (s_2 (At.block ?_)))))))
 change Blk N0 b0 _ (u64s (abI a l 0)++T)at B0
 refine At.loop (fun fr_ hp_ ms_=> ∃(i:Nat) (N0:Heaplet),fr_= [(0,.pointer (some ⟨b0,0,none⟩)),(6,.slice ao n cap),(7,.int .i64 (n:Int)),(8,.int .i64 (i:Int))]∧hp_= [N0,R]∧136- i=ms_∧(i≤136)∧(Blk N0 b0 e0 (u64s (abI a l i)++T))) ?_ (.refl _) ⟨0,N0,rfl,rfl,rfl,by omega,B0⟩ ?_
 ·exact .cons (by first|exact aP rfl (by omega)|rfl) (.cons (by first|exact aP rfl (by omega)|rfl) (.cons (by first|exact aP rfl (by omega)|rfl) (.cons (by first|exact aP rfl (by omega)|rfl) .nil)))
 rintro _ _ _ ⟨i,N0,rfl,rfl,rfl,hi,B0⟩
 have hal:=(abI_len a l i).trans ha
 refine At.seq fun _ s_3=>At.region (op_lss (aD rfl) rfl rfl rfl (aA (aB (s_3 (At.seq fun _ s_4=>aK rfl (fun c9=>?_) (fun c9=>?_))))))
 ·refine At.skip (aB (s_4 (At.seq fun _ s_5=>At.block (At.seq fun _ s_6=>At.region (aC (aD rfl) rfl rfl (bI (aD rfl) se23 rfl rfl hb (show _=(((i:Nat)):Int)from by omega) (by omega) rfl ?_))))))
  refine aT (aD rfl) sc5 rfl hb (by first|exact get8 (by omega)|exact bT (by omega)|exact bU (by omega)) (by first|exact aL|exact aZ|exact bB|exact bF|exact bG|exact bH|exact bL|exact bK|exact bJ|exact bM) rfl ?_
  refine aE (aD rfl) rfl rfl (aE (aD rfl) rfl rfl (aA (aB (s_6 (At.drawn [15] [0,1,2,3,4,5,6,7,8,9,10,11,12,13,14,15] (by kernel_rfl) (by kernel_rfl) (aC (aN rfl rfl rfl (by kernel_rfl)) rfl rfl (aC (aN rfl rfl rfl (by kernel_rfl)) rfl rfl (op_quoI (aN rfl rfl rfl (by kernel_rfl)) rfl rfl (by omega) (by omega) (by omega) rfl (aQ (aN rfl rfl rfl (by kernel_rfl)) rfl rfl (op_idxA (aN rfl rfl rfl (by kernel_rfl)) ae128 rfl rfl (show _=(((i/8:Nat)):Int)from by omega) (by omega) rfl ?_))))))))))
  refine aI (aN rfl rfl rfl (by kernel_rfl)) sc70 rfl B0 (by first|exact get64A (by omega)|rfl|exact getT (by omega)) aL rfl ?_
  refine aC (aN rfl rfl rfl (by kernel_rfl)) rfl rfl (op_conv64 (aN rfl rfl rfl (by kernel_rfl)) (und_some Tryz.underlying5) Tryz.underlying70 rfl (show _=((((l.getD i 0).toNat:Nat)):Int)from by omega) rfl ?_)
  refine aC (aN rfl rfl rfl (by kernel_rfl)) rfl rfl (op_rem (aN rfl rfl rfl (by kernel_rfl)) rfl rfl (by omega) (by omega) rfl (op_mulI (aN rfl rfl rfl (by kernel_rfl)) rfl rfl (by omega) (by omega) rfl (op_shlU (aN rfl rfl rfl (by kernel_rfl)) rfl rfl (show _=(((i % 8*8:Nat)):Int)from by omega) rfl ?_)))
  refine op_xorU (aN rfl rfl rfl (by kernel_rfl)) rfl rfl rfl (aQ (aN rfl rfl rfl (by kernel_rfl)) rfl rfl (op_idxA (aN rfl rfl rfl (by kernel_rfl)) ae128 rfl rfl (show _=(((i/8:Nat)):Int)from by omega) (by omega) rfl ?_))
  refine aO (nxos rfl rfl rfl rfl) sz70 rfl rfl rfl rfl rfl B0 (by rw [lenT];simp;omega) sel0 (fun N0 B0=>?_)
  rw [setT (by omega)]at B0
  refine At.oneNil (aR (aB (s_5 (At.region (aV (aD rfl) rfl rfl (by omega) (by omega) rfl (aC (aD rfl) rfl rfl (aA (aB (bD ?_ (.refl _) ⟨i+1,N0,rfl,rfl,rfl,by omega,B0⟩ ?_)))))))))
  ·exact .cons (by first|exact aP rfl (by omega)|rfl) (.cons (by first|exact aP rfl (by omega)|rfl) (.cons (by first|exact aP rfl (by omega)|rfl) (.cons (by first|exact aP rfl (by omega)|rfl) .nil)))
  ·omega
 refine At.exit (aG (aG (bC (aB (s_1 (At.region ?_))))))
 obtain rfl:i=136:=by omega
 refine aC (aD rfl) rfl rfl (op_call (nxl rfl) (.cons rfl .nil) (FPermute_f hal B0) (F:= [R]) Tryz.func100 rfl rfl (.refl _) (by simp) rfl ?_)
 rintro v30 L30 ⟨N0,rfl,rfl,B0⟩
 change At _ _ _ [N0,R] _
 refine aA (At.retNE (L1:= [N0]) rfl .nil rfl (.refl _) (.refl _) ?_)
 exact⟨N0,rfl,rfl,B0⟩
set_option maxRecDepth 100000 in
theorem FNew_f:Fn Tryz.prog 76 #[] [] [] (fun v L=> ∃M b e,v=.pointer (some ⟨b,0,none⟩)∧L= [M]∧Blk M b e (u64s (List.replicate 25 0)++ [.slice none 0 0])):=by
 refine Fn.enter (vs:= []) Tryz.func76 rfl rfl rfl ?_
 intro E R hR
 change At _ _ E [R] _
 refine At.seq fun _ s_1=>At.region (aE (aD rfl) rfl rfl (aA (aB (s_1 (At.seq fun _ s_2=>At.region (op_build (out:= [.int .u64 0,.int .u64 0,.int .u64 0,.int .u64 0,.int .u64 0,.int .u64 0,.int .u64 0,.int .u64 0,.int .u64 0,.int .u64 0,.int .u64 0,.int .u64 0,.int .u64 0,.int .u64 0,.int .u64 0,.int .u64 0,.int .u64 0,.int .u64 0,.int .u64 0,.int .u64 0,.int .u64 0,.int .u64 0,.int .u64 0,.int .u64 0,.int .u64 0,.slice none 0 0]) (aD rfl) ze130 pl130 .nil rfl rfl (op_box (bA rfl) rfl rfl rfl (fun N2 b2 B2=>aE (aD rfl) rfl rfl (aA (aB (s_2 (At.ret ((aW (L1:= [N2]) rfl (.tmp rfl .nil) (.refl _) (.refl _) ?_))))))))))))))
 exact⟨N2,b2,_,rfl,rfl,B2⟩
theorem copy_last {r:List UInt8} {o k:Nat} (ho:o=0) (hk:k=r.length) (hr:r.length≤136):(u8s (List.replicate 136 0)).take o++(u8s r).take k++(u8s (List.replicate 136 0)).drop (o+k)=u8s (r++List.replicate (136- r.length) 0):=by
 subst ho;subst hk
 rw [List.take_zero,List.nil_append,Nat.zero_add,List.take_of_length_le (by simp [u8s]),show u8s (List.replicate 136 0)=List.replicate 136 (vb 0)from List.map_replicate,List.drop_replicate,u8s,u8s,List.map_append,List.map_replicate]
theorem padZ_len {r:List UInt8} (hr:r.length<136):(r++List.replicate (136- r.length) 0).length=136:=by
 rw [List.length_append,List.length_replicate];omega
theorem padL_len {r:List UInt8} (hr:r.length<136):(padL r).length=136:=by
 unfold padL
 simp only [List.length_set]
 exact padZ_len hr
theorem zeBlk:zer Tryz.prog 152=some (.agg (u8s (List.replicate 136 0)).toArray):=by kernel_rfl
set_option maxRecDepth 100000 in
set_option maxHeartbeats 2000000 in
theorem FSum_f {N M:Heaplet} {b0:Nat} {e0:TypeId} {a:List UInt64} {ao:Option Addr} {n cap:Nat} {r:List UInt8} (ha:a.length=25) (B0:Blk N b0 e0 (u64s a++ [.slice ao n cap])) (hb:RSl M 1 ao n cap (u8s r)) (hn:n<136):Fn Tryz.prog 78 #[.pointer (some ⟨b0,0,none⟩)] [N] [M] (fun v L=>v=.agg (u8s (ouI (absorb a (padL r)) 32)).toArray∧L= []):=by
 obtain⟨N0,h0⟩: ∃N0,N0=N:=⟨_,rfl⟩
 rw [←h0]at B0⊢
 have hlen:=hb.len8
 have hcap:=hb.cap63
 have hrest:(u64s a++ [Value.slice ao n cap])[0+25]? =some (.slice ao n cap):=by
  rw [List.getElem?_append_right (by simp [u64s,ha]),show 0+25- (u64s a).length=0 by simp [u64s,ha]];rfl
 have hlan:((u64s a++ [Value.slice ao n cap]).drop (0+0)).take 25=u64s a:=by
  rw [List.drop_zero,List.take_append_of_le_length (by simp [u64s,ha]),List.take_of_length_le (by simp [u64s,ha])]
 have hpz:=padZ_len (r:=r) (by omega)
 have hpl:=padL_len (r:=r) (by omega)
 obtain⟨A,hA⟩: ∃A,absorb a (padL r)=A:=⟨_,rfl⟩
 have hAl:A.length=25:=by rw [←hA,absorb_len];exact ha
 refine Fn.enter (vs:= [.pointer (some ⟨b0,0,none⟩)]) Tryz.func78 rfl rfl rfl ?_
 intro E R hR
 have hb:=hb.le (hR M (by simp))
 change At _ _ E [N0,R] _
 refine At.seq fun _ s_1=>At.region (bO (bA rfl) ze25 rfl (fun N2 b2 B2=>?_))
 change Blk N2 b2 _ [.int .u8 0,.int .u8 0,.int .u8 0,.int .u8 0,.int .u8 0,.int .u8 0,.int .u8 0,.int .u8 0,.int .u8 0,.int .u8 0,.int .u8 0,.int .u8 0,.int .u8 0,.int .u8 0,.int .u8 0,.int .u8 0,.int .u8 0,.int .u8 0,.int .u8 0,.int .u8 0,.int .u8 0,.int .u8 0,.int .u8 0,.int .u8 0,.int .u8 0,.int .u8 0,.int .u8 0,.int .u8 0,.int .u8 0,.int .u8 0,.int .u8 0,.int .u8 0]at B2
 refine aA (aB (s_1 (At.seq fun _ s_2=>At.region (bO (bA rfl) zeBlk rfl (fun N3 b3 B3=>?_)))))
 change Blk N3 b3 _ (u8s (List.replicate 136 0))at B3
 refine aA (aB (s_2 (At.seq fun _ s_3=>At.drawn [5] [0,1,2,3,4,5] (by kernel_rfl) (by kernel_rfl) (op_sliceA (aN rfl rfl rfl (by kernel_rfl)) ae152 rfl .none .none .none (by omega) (by omega) (by omega) (by simp) rfl (aC (aN rfl rfl rfl (by kernel_rfl)) rfl rfl (aQ (aN rfl rfl rfl (by kernel_rfl)) rfl rfl (aF (aN rfl rfl rfl (by kernel_rfl)) fl130_1 rfl rfl (aI (aN rfl rfl rfl (by kernel_rfl)) sc23 rfl B0 (by first|rfl|exact hrest) bB rfl ?_))))))))
 refine op_copyB (nxos rfl rfl rfl rfl) se23 rfl rfl B3 hb (by first|exact aL|exact aZ|exact bB|exact bF|exact bG|exact bH|exact bL|exact bK|exact bJ|exact bM) (by first|exact one_u8s _|exact one_u64s _|exact one_u32s _|(intro u hu;simp at hu;subst hu;rfl)) (by simp [u8s];omega) sel0 rfl (fun N3 B3=>?_)
 rw [copy_last rfl (by omega) (by omega)]at B3
 refine At.oneNil (aB (s_3 (At.seq fun _ s_4=>At.region (aC (aD rfl) rfl rfl (aQ (aD rfl) rfl rfl (aF (aD rfl) fl130_1 rfl rfl (aI (aD rfl) sc23 rfl B0 (by first|rfl|exact hrest) bB rfl ?_)))))))
 refine aU (aD rfl) se23 rfl rfl (op_idxA (aD rfl) ae152 rfl rfl (show _=(((n:Nat)):Int)from by omega) (by omega) rfl ?_)
 refine aO (nxl rfl) sz5 rfl rfl rfl rfl rfl B3 (by simp [u8s];omega) sel0 (fun N3 B3=>?_)
 rw [show Value.int .u8 1=.int .u8 ((1:UInt8).toNat:Int)from rfl,set8A]at B3
 obtain⟨z,hz⟩: ∃z,(r++List.replicate (136- r.length) 0).set n 1=z:=⟨_,rfl⟩
 have hzl:z.length=136:=by rw [←hz,List.length_set];exact hpz
 have hpad:padL r=z.set 135 (z.getD 135 0 |||128):=by rw [←hz,padL,hlen]
 rw [hz]at B3
 refine aA (aB (s_4 (At.seq fun _ s_5=>At.region (op_idxA (aD rfl) ae152 rfl rfl (show _=(((135:Nat)):Int)from by omega) (by omega) rfl ?_))))
 refine aI (aD rfl) sc5 rfl B3 (get8A (by omega)) (by first|exact aL|exact aZ|exact bB) rfl (op_bits (by simp) (aD rfl) rfl rfl rfl ?_)
 rw [or128]
 refine op_idxA (aD rfl) ae152 rfl rfl (show _=(((135:Nat)):Int)from by omega) (by omega) rfl ?_
 refine aO (nxl rfl) sz5 rfl rfl rfl rfl rfl B3 (by simp [u8s];omega) sel0 (fun N3 B3=>?_)
 rw [set8A, ←hpad]at B3
 refine aA (aB (s_5 (At.seq fun _ s_6=>At.region (aC (aD rfl) rfl rfl (aQ (aD rfl) rfl rfl (aF (aD rfl) fl130_0 rfl rfl (op_loadAggB (ds:=u64s a) (aD rfl) ag128 rfl B0 hlan (by simp [u64s,ha]) (by first|exact aL|exact aZ|exact bB) rfl ?_)))))))
 refine bO (bA rfl) ze128 rfl (fun N4 b4 B4=>?_)
 change Blk N4 b4 _ [.int .u64 0,.int .u64 0,.int .u64 0,.int .u64 0,.int .u64 0,.int .u64 0,.int .u64 0,.int .u64 0,.int .u64 0,.int .u64 0,.int .u64 0,.int .u64 0,.int .u64 0,.int .u64 0,.int .u64 0,.int .u64 0,.int .u64 0,.int .u64 0,.int .u64 0,.int .u64 0,.int .u64 0,.int .u64 0,.int .u64 0,.int .u64 0,.int .u64 0]at B4
 refine aO (nxl rfl) sz128 rfl rfl rfl (by simp [u64s,ha]) (all64 _) B4 (by simp [u64s,ha]) sel0 (fun N4 B4=>?_)
 rw [setL_whole (by simp [u64s,ha]), ←List.append_nil (u64s a)]at B4
 refine aA (aB (s_6 (At.seq fun _ s_7=>At.region (op_sliceA (aD rfl) ae152 rfl .none .none .none (by omega) (by omega) (by omega) (by simp) rfl ?_))))
 have sL:=blk8 B3 hpl (by omega)
 refine op_call (nxl rfl) (.cons rfl (.cons rfl .nil)) (FAbsorb_f ha B4 sL rfl) (F:= [N3,N2,N0,R]) Tryz.func77 rfl rfl (.refl _) (by simp) rfl ?_
 rintro v28 L28 ⟨N4,rfl,rfl,B4⟩
 change At _ _ _ [N4,N3,N2,N0,R] _
 rw [List.append_nil,hA]at B4
 refine aA (aB (s_7 (At.seq fun _ s_8=>At.region (bO (bA rfl) ze25 rfl (fun N5 b5 B5=>?_)))))
 change Blk N5 b5 _ [.int .u8 0,.int .u8 0,.int .u8 0,.int .u8 0,.int .u8 0,.int .u8 0,.int .u8 0,.int .u8 0,.int .u8 0,.int .u8 0,.int .u8 0,.int .u8 0,.int .u8 0,.int .u8 0,.int .u8 0,.int .u8 0,.int .u8 0,.int .u8 0,.int .u8 0,.int .u8 0,.int .u8 0,.int .u8 0,.int .u8 0,.int .u8 0,.int .u8 0,.int .u8 0,.int .u8 0,.int .u8 0,.int .u8 0,.int .u8 0,.int .u8 0,.int .u8 0]at B5
 change Blk N5 b5 _ (u8s (ouI A 0))at B5
 refine aA (aB (s_8 (At.seq fun _ s_9=>At.seq fun _ s_10=>At.region (aC (aD rfl) rfl rfl (aA (aB (s_10 (At.block (At.sub (L':= [N5,N4,N2,R]) (.cons_cons _ (.cons_cons _ (.cons _ (.cons_cons _ (.cons _ (.cons_cons _ (.slnil))))))) (At.loop (fun fr_ hp_ ms_=> ∃(i:Nat) (N5:Heaplet),fr_= [(2,.pointer (some ⟨b2,0,none⟩)),(4,.pointer (some ⟨b4,0,none⟩)),(5,.pointer (some ⟨b5,0,none⟩)),(29,.int .i64 (i:Int))]∧hp_= [N5,N4,N2,R]∧32- i=ms_∧(i≤32)∧(Blk N5 b5 25 (u8s (ouI A i)))) ?_ (.refl _) ⟨0,N5,rfl,rfl,rfl,by omega,B5⟩ ?_))))))))))
 ·exact .cons (by first|exact aP rfl (by omega)|rfl) (.cons (by first|exact aP rfl (by omega)|rfl) (.cons (by first|exact aP rfl (by omega)|rfl) (.cons (by first|exact aP rfl (by omega)|rfl) .nil)))
 rintro _ _ _ ⟨i,N5,rfl,rfl,rfl,hi,B5⟩
 have hol:=ouI_len A i
 refine At.seq fun _ s_11=>At.region (op_lss (aD rfl) rfl rfl rfl (aA (aB (s_11 (At.seq fun _ s_12=>aK rfl (fun c30=>?_) (fun c30=>?_))))))
 ·refine At.skip (aB (s_12 (At.seq fun _ s_13=>At.block (At.seq fun _ s_14=>At.region (aC (aD rfl) rfl rfl (aE (aD rfl) rfl rfl (aA (aB (s_14 (At.region (aC (aD rfl) rfl rfl (aC (aD rfl) rfl rfl (op_quoI (aD rfl) rfl rfl (by omega) (by omega) (by omega) rfl (op_idxA (aD rfl) ae128 rfl rfl (show _=(((i/8:Nat)):Int)from by omega) (by omega) rfl ?_))))))))))))))
  refine aI (aD rfl) sc70 rfl B4 (get64A (by omega)) (by first|exact aL|exact aZ|exact bB) rfl (aC (aD rfl) rfl rfl (op_rem (aD rfl) rfl rfl (by omega) (by omega) rfl (op_mulI (aD rfl) rfl rfl (by omega) (by omega) rfl (op_shrU (aD rfl) rfl rfl (show _=(((i % 8*8:Nat)):Int)from by omega) rfl ?_))))
  refine op_conv8 (aD rfl) (und_some Tryz.underlying70) Tryz.underlying5 rfl (show _=((((shr64 (A.getD (i/8) 0) (i % 8*8)).toNat:Nat)):Int)from by omega) rfl ?_
  refine op_idxA (aD rfl) ae25 rfl rfl (show _=(((i:Nat)):Int)from by omega) (by omega) rfl ?_
  refine aO (nxl rfl) sz5 rfl rfl rfl rfl rfl B5 (by simp<;>omega) sel0 (fun N5 B5=>?_)
  rw [set8A]at B5
  refine aA (aR (aB (s_13 (At.region (aV (aD rfl) rfl rfl (by omega) (by omega) rfl (aC (aD rfl) rfl rfl (aA (aB (bD ?_ (.refl _) ⟨i+1,N5,rfl,rfl,rfl,by omega,B5⟩ ?_)))))))))
  ·exact .cons (by first|exact aP rfl (by omega)|rfl) (.cons (by first|exact aP rfl (by omega)|rfl) (.cons (by first|exact aP rfl (by omega)|rfl) (.cons (by first|exact aP rfl (by omega)|rfl) .nil)))
  ·omega
 refine At.exit (aG (aG (bC (aB (s_9 (At.seq fun _ s_15=>At.region ?_))))))
 obtain rfl:i=32:=by omega
 obtain⟨o,ho⟩: ∃o,ouI A 32=o:=⟨_,rfl⟩
 rw [ho]at B5 hol
 refine op_loadAggB (ds:=u8s o) (aD rfl) ag25 rfl B5 (by rw [List.drop_zero,List.take_of_length_le (by simp [u8s,hol])]) (by simp [u8s,hol]) (by first|exact aL|exact aZ|exact bB) rfl ?_
 refine aO (nxl rfl) sz25 rfl rfl rfl (by simp [u8s,hol]) (all8 _) B2 (by simp [u8s,hol]) sel2 (fun N2 B2=>?_)
 rw [setL_whole (by simp [u8s,hol])]at B2
 refine aA (aB (s_15 (At.ret ((At.sub (L':= [N2,R]) (.cons_cons _ (.cons _ (.cons _ (.cons_cons _ (.slnil))))) (aW (L1:= []) rfl (.cell rfl (res_agg (ds:=u8s o) ag25 B2 (by rw [List.drop_zero,List.take_of_length_le (by simp [u8s,hol])]) (by simp [u8s,hol]) aL) .nil) (.cons _ (.refl _)) (.refl _) ?_))))))
 exact⟨by rw [hA,ho],rfl⟩
end Go.Proofs.YtdpjbefeabokgaaGreat
/- The reference's Keccak: turning, constants, permutation. No condition. -/
namespace Go.Proofs.YtdpjbefeabokgaaGreat
open Go Go.RowKit
theorem rRol_f (x:UInt64) (k:Nat) (hk:k<64):Fn Tryz.prog 79 #[.int .u64 (x.toNat:Int),.int .i64 (k:Int)] [] [] (fun v L=>v=.int .u64 ((rolN x k).toNat:Int)∧L= []):=by
 refine Fn.enter (vs:= [.int .u64 (x.toNat:Int),.int .i64 (k:Int)]) Tryz.func79 rfl rfl rfl ?_
 intro E R hR
 change At _ _ E [R] _
 refine At.seq fun _ s_1=>At.region (aE (aD rfl) rfl rfl (aA (aB (s_1 (At.seq fun _ s_2=>At.seq fun _ s_3=>At.region (aC (aD rfl) rfl rfl (op_eql (aD rfl) rfl rfl rfl (aA (aB (s_3 (aK rfl (fun c6=>?_) (fun c6=>?_))))))))))))
 ·obtain rfl:k=0:=by omega
  refine At.seq fun _ s_4=>At.region (aC (aD rfl) rfl rfl (aE (aD rfl) rfl rfl (aA (aB (s_4 (At.ret (aM ((aW (L1:= []) rfl (.tmp rfl .nil) (.refl _) (.refl _) ?_)))))))))
  exact⟨by rw [rolN,if_pos rfl],rfl⟩
 refine At.skip (aB (s_2 (At.seq fun _ s_5=>At.drawn [] [0,1,2,3,4,5,6,7,8] (by kernel_rfl) (by kernel_rfl) (aC (aN rfl rfl rfl (by kernel_rfl)) rfl rfl (aC (aN rfl rfl rfl (by kernel_rfl)) rfl rfl (op_shlU (aN rfl rfl rfl (by kernel_rfl)) rfl rfl (show _=(((k:Nat)):Int)from by omega) rfl ?_))))))
 refine aC (aN rfl rfl rfl (by kernel_rfl)) rfl rfl (aC (aN rfl rfl rfl (by kernel_rfl)) rfl rfl (op_subI (aN rfl rfl rfl (by kernel_rfl)) rfl rfl (by omega) (by omega) rfl (op_shrU (aN rfl rfl rfl (by kernel_rfl)) rfl rfl (show _=(((64- k:Nat)):Int)from by omega) rfl ?_)))
 refine op_orU (aN rfl rfl rfl (by kernel_rfl)) rfl rfl rfl (aE (aN rfl rfl rfl (by kernel_rfl)) rfl rfl (At.oneNil (aB (s_5 (At.ret ((aW (L1:= []) rfl (.tmp rfl .nil) (.refl _) (.refl _) ?_)))))))
 exact⟨by rw [rolN,if_neg (by omega)],rfl⟩
theorem wrap2 {x:Int} (h0:0≤x) (h1:x≤255):IntKind.i64.wrap (x*2^(min (1:Int).toNat IntKind.i64.bits))=x*2:=by
 rw [show(2:Int)^(min (1:Int).toNat IntKind.i64.bits)=2 from rfl]
 exact wrap_i64 (by omega) (by omega)
set_option maxRecDepth 100000 in
set_option maxHeartbeats 1000000 in
theorem rConst_f (r:Nat) (hr:r<24):Fn Tryz.prog 80 #[.int .i64 (r:Int)] [] [] (fun v L=>v=.int .u64 ((rcL.getD r 0).toNat:Int)∧L= []):=by
 have hfin:wJ r (7*r+7)=rcL.getD r 0:=wJ_ok ⟨r,hr⟩
 refine Fn.enter (vs:= [.int .i64 (r:Int)]) Tryz.func80 rfl rfl rfl ?_
 intro E R hR
 change At _ _ E [R] _
 refine At.seq fun _ s_1=>At.region (aE (aD rfl) rfl rfl (aA (aB (s_1 (At.seq fun _ s_2=>At.region (aE (aD rfl) rfl rfl (aA (aB (s_2 (At.seq fun _ s_3=>At.region (aE (aD rfl) rfl rfl (aA (aB (s_3 (At.seq fun _ s_4=>At.seq fun _ s_5=>At.region (aE (aD rfl) rfl rfl (aA (aB (s_5 ?_)))))))))))))))))))
 refine At.block (At.loop (fun fr_ hp_ ms_=> ∃(n:Nat),fr_= [(0,.int .i64 (r:Int)),(3,.int .i64 (rJ n)),(4,.int .u64 ((wJ r n).toNat:Int)),(5,.int .i64 (n:Int))]∧hp_= [R]∧7*r+7- n=ms_∧(n≤7*r+7)) ?_ (.refl _) ⟨0,rfl,rfl,rfl,by omega⟩ ?_)
 ·exact .cons (by first|exact aP rfl (by omega)|rfl) (.cons (by first|exact aP rfl (by omega)|rfl) (.cons (by first|exact aP rfl (by omega)|rfl) (.cons (by first|exact aP rfl (by omega)|rfl) .nil)))
 rintro _ _ _ ⟨n,rfl,rfl,rfl,hn⟩
 obtain⟨hj0,hj1⟩:=rJ_ok ⟨n,by omega⟩
 simp only at hj0 hj1
 refine At.seq fun _ s_6=>At.seq fun _ s_7=>At.region (aC (aD rfl) rfl rfl (aC (aD rfl) rfl rfl (op_mulI (aD rfl) rfl rfl (by omega) (by omega) rfl (aV (aD rfl) rfl rfl (by omega) (by omega) rfl (op_lss (aD rfl) rfl rfl rfl (aA (aB (s_7 (aK rfl (fun c10=>?_) (fun c10=>?_))))))))))
 ·refine At.skip (aB (s_6 (At.seq fun _ s_8=>At.block (At.seq fun _ s_9=>At.meet (fun fr_ hp_=>fr_= [(0,.int .i64 (r:Int)),(3,.int .i64 (rJ n)),(4,.int .u64 ((wJ r (n+1)).toNat:Int)),(5,.int .i64 (n:Int))]∧hp_= [R]∧(True)) ?_ (fun K9_ jk_9=>?_)))))
  rotate_left
  ·skip
   refine At.seq fun _ s_10=>At.region (aC (aD rfl) rfl rfl (aC (aD rfl) rfl rfl (op_mulI (aD rfl) rfl rfl (by omega) (by omega) rfl (op_geq (aD rfl) rfl rfl rfl (aC (aD rfl) rfl rfl (At.partP (d:=17) rfl (fun g17=>?_) (fun g17=>?_)))))))
   ·have hge:7*r≤n:=by omega
    refine aC (aY rfl rfl rfl rfl) rfl rfl (op_bits (by simp) (aY rfl rfl rfl rfl) rfl rfl rfl (op_eql (aY rfl rfl rfl rfl) rfl rfl rfl (bS (aD rfl) rfl rfl rfl (aA (aB (s_10 (aK rfl (fun c21=>?_) (fun c21=>?_))))))))
    ·have hw:wJ r (n+1)=wJ r n |||shl64 1 (shl64 1 (n- 7*r)- 1).toNat:=by rw [wJ,if_pos ⟨hge,by assumption⟩]
     refine At.region (aC (aD rfl) rfl rfl (aC (aD rfl) rfl rfl (aC (aD rfl) rfl rfl (op_mulI (aD rfl) rfl rfl (by omega) (by omega) rfl (op_subI (aD rfl) rfl rfl (by omega) (by omega) rfl (op_shlU (a:=1) (aD rfl) rfl rfl (show _=(((n- 7*r:Nat)):Int)from by omega) rfl ?_))))))
     refine op_subU (b:=1) (aD rfl) rfl rfl rfl (op_shlU (a:=1) (aD rfl) rfl rfl (show _=((((shl64 1 (n- 7*r)- 1).toNat:Nat)):Int)from by omega) rfl ?_)
     refine op_orU (aD rfl) rfl rfl rfl ?_
     rw [←hw]
     refine aE (aD rfl) rfl rfl (aA (aB (jk_9 ?_ (.refl _) ⟨rfl,rfl,trivial⟩)))
     exact .cons (by first|exact aP rfl (by omega)|rfl) (.cons (by first|exact aP rfl (by omega)|rfl) (.cons (by first|exact aP rfl (by omega)|rfl) (.cons (by first|exact aP rfl (by omega)|rfl) .nil)))
    have hw:wJ r (n+1)=wJ r n:=by rw [wJ,if_neg (fun h=>by have:=h.2;contradiction)]
    refine At.skip ?_
    rw [←hw]
    refine aB (jk_9 ?_ (.refl _) ⟨rfl,rfl,trivial⟩)
    exact .cons (by first|exact aP rfl (by omega)|rfl) (.cons (by first|exact aP rfl (by omega)|rfl) (.cons (by first|exact aP rfl (by omega)|rfl) (.cons (by first|exact aP rfl (by omega)|rfl) .nil)))
   have hw:wJ r (n+1)=wJ r n:=by rw [wJ,if_neg (fun h=>by omega)]
   refine aH rfl rfl rfl rfl rfl rfl rfl (aH rfl rfl rfl rfl rfl rfl rfl (aH rfl rfl rfl rfl rfl rfl rfl (bR (aD rfl) rfl rfl rfl (aA (aB (s_10 (At.condF rfl (At.skip ?_))))))))
   rw [←hw]
   refine aB (jk_9 ?_ (.refl _) ⟨rfl,rfl,trivial⟩)
   exact .cons (by first|exact aP rfl (by omega)|rfl) (.cons (by first|exact aP rfl (by omega)|rfl) (.cons (by first|exact aP rfl (by omega)|rfl) (.cons (by first|exact aP rfl (by omega)|rfl) .nil)))
  rintro _ _ ⟨rfl,rfl,ht⟩
  refine s_9 (At.seq fun _ s_11=>At.region (aC (aD rfl) rfl rfl (op_shlW (aD rfl) rfl rfl (by omega) rfl ?_)))
  rw [wrap2 hj0 hj1]
  refine aE (aD rfl) rfl rfl (aA (aB (s_11 (At.seq fun _ s_12=>At.region (aC (aD rfl) rfl rfl (op_geq (aD rfl) rfl rfl rfl (aA (aB (s_12 (aK rfl (fun c34=>?_) (fun c34=>?_)))))))))))
  ·have hx:rJ (n+1)=bits .xor .i64 (rJ n*2- 256) 113:=by rw [rJ,if_pos (by omega)]
   refine At.region (aC (aD rfl) rfl rfl (op_subI (aD rfl) rfl rfl (by omega) (by omega) rfl (op_bits (by simp) (aD rfl) rfl rfl rfl ?_)))
   rw [←hx]
   refine aE (aD rfl) rfl rfl (aA (aR (aB (s_8 (At.region (aC (aD rfl) rfl rfl (aV (aD rfl) rfl rfl (by omega) (by omega) rfl (aE (aD rfl) rfl rfl (aA (aB (bD ?_ (.refl _) ⟨n+1,rfl,rfl,rfl,by omega⟩ ?_)))))))))))
   ·exact .cons (by first|exact aP rfl (by omega)|rfl) (.cons (by first|exact aP rfl (by omega)|rfl) (.cons (by first|exact aP rfl (by omega)|rfl) (.cons (by first|exact aP rfl (by omega)|rfl) .nil)))
   ·omega
  have hx:rJ (n+1)=rJ n*2:=by rw [rJ,if_neg (by omega)]
  rw [←hx]
  refine At.skip (aR (aB (s_8 (At.region (aC (aD rfl) rfl rfl (aV (aD rfl) rfl rfl (by omega) (by omega) rfl (aE (aD rfl) rfl rfl (aA (aB (bD ?_ (.refl _) ⟨n+1,rfl,rfl,rfl,by omega⟩ ?_))))))))))
  ·exact .cons (by first|exact aP rfl (by omega)|rfl) (.cons (by first|exact aP rfl (by omega)|rfl) (.cons (by first|exact aP rfl (by omega)|rfl) (.cons (by first|exact aP rfl (by omega)|rfl) .nil)))
  ·omega
 refine At.exit (aG (aG (bC (aB (s_4 (At.seq fun _ s_13=>At.region (aC (aD rfl) rfl rfl (aE (aD rfl) rfl rfl (aA (aB (s_13 (At.ret ((aW (L1:= []) rfl (.tmp rfl .nil) (.refl _) (.refl _) ?_))))))))))))))
 obtain rfl:n=7*r+7:=by omega
 exact⟨by rw [hfin],rfl⟩
end Go.Proofs.YtdpjbefeabokgaaGreat
/- The reference's permutation. No condition. -/
namespace Go.Proofs.YtdpjbefeabokgaaGreat
open Go Go.RowKit
theorem all_take {xs:List Value} {k:Nat} (h:xs.length=k):(xs.drop 0).take k=xs:=by rw [List.drop_zero,List.take_of_length_le (by omega)]
theorem len64s {l:List UInt64} {k:Nat} (h:l.length=k):(u64s l).length=k:=by simp [u64s,h]
set_option maxRecDepth 100000 in
set_option maxHeartbeats 4000000 in
theorem rPermute_f {a:List UInt64} (ha:a.length=25):Fn Tryz.prog 53 #[.agg (u64s a).toArray] [] [] (fun v L=>v=.agg (u64s (prm a 24)).toArray∧L= []):=by
 refine Fn.enter (vs:= [.agg (u64s a).toArray]) Tryz.func53 rfl rfl rfl ?_
 intro E R hR
 change At _ _ E [R] _
 refine At.seq fun _ s_1=>At.region (op_box (bA rfl) rfl rfl rfl (fun N1 b1 B1=>?_))
 change Blk N1 b1 _ (u64s (prm a 0))at B1
 refine bO (bA rfl) ze99 rfl (fun N2 b2 B2=>?_)
 change Blk N2 b2 _ [.int .u64 0,.int .u64 0,.int .u64 0,.int .u64 0,.int .u64 0,.int .u64 0,.int .u64 0,.int .u64 0,.int .u64 0,.int .u64 0,.int .u64 0,.int .u64 0,.int .u64 0,.int .u64 0,.int .u64 0,.int .u64 0,.int .u64 0,.int .u64 0,.int .u64 0,.int .u64 0,.int .u64 0,.int .u64 0,.int .u64 0,.int .u64 0,.int .u64 0]at B2
 refine aA (aB (s_1 (At.seq fun _ s_2=>At.seq fun _ s_3=>At.region (aE (aD rfl) rfl rfl (aA (aB (s_3 (At.block (At.perm sel2 (At.perm sel1 (At.perm sel2 (At.loop (fun fr_ hp_ ms_=> ∃(k:Nat) (N1:Heaplet),fr_= [(1,.pointer (some ⟨b1,0,none⟩)),(2,.pointer (some ⟨b2,0,none⟩)),(3,.int .i64 (k:Int))]∧hp_= [N1,N2,R]∧24- k=ms_∧(k≤24)∧(Blk N1 b1 99 (u64s (prm a k)))) ?_ (.refl _) ⟨0,N1,rfl,rfl,rfl,by omega,B1⟩ ?_))))))))))))
 ·exact .cons (by first|exact aP rfl (by omega)|rfl) (.cons (by first|exact aP rfl (by omega)|rfl) (.cons (by first|exact aP rfl (by omega)|rfl) .nil))
 rintro _ _ _ ⟨k,N1,rfl,rfl,rfl,hk,B1⟩
 have hpl:=(prm_len a k).trans ha
 refine At.seq fun _ s_4=>At.seq fun _ s_5=>At.region (aC (aD rfl) rfl rfl (op_lss (aD rfl) rfl rfl rfl (aA (aB (s_5 (aK rfl (fun c16=>?_) (fun c16=>?_)))))))
 ·refine At.skip (aB (s_4 (At.seq fun _ s_6=>At.block (At.seq fun _ s_7=>At.region (bO (bA rfl) ze132 rfl (fun N4 b4 B4=>?_))))))
  change Blk N4 b4 _ [.int .u64 0,.int .u64 0,.int .u64 0,.int .u64 0,.int .u64 0]at B4
  obtain⟨p,hp⟩: ∃p,prm a k=p:=⟨_,rfl⟩
  rw [hp]at B1 hpl
  change Blk N4 b4 _ (u64s (thC p 0))at B4
  refine aA (aB (s_7 (At.seq fun _ s_8=>At.seq fun _ s_9=>At.region (aE (aD rfl) rfl rfl (aA (aB (s_9 (At.block (At.loop (fun fr_ hp_ ms_=> ∃(i:Nat) (N4:Heaplet),fr_= [(1,.pointer (some ⟨b1,0,none⟩)),(2,.pointer (some ⟨b2,0,none⟩)),(3,.int .i64 (k:Int)),(4,.pointer (some ⟨b4,0,none⟩)),(5,.int .i64 (i:Int))]∧hp_= [N4,N1,N2,R]∧25- i=ms_∧(i≤25)∧(Blk N4 b4 132 (u64s (thC p i)))) ?_ (.refl _) ⟨0,N4,rfl,rfl,rfl,by omega,B4⟩ ?_)))))))))
  ·exact .cons (by first|exact aP rfl (by omega)|rfl) (.cons (by first|exact aP rfl (by omega)|rfl) (.cons (by first|exact aP rfl (by omega)|rfl) (.cons (by first|exact aP rfl (by omega)|rfl) (.cons (by first|exact aP rfl (by omega)|rfl) .nil))))
  rintro _ _ _ ⟨i,N4,rfl,rfl,rfl,hi,B4⟩
  have hcl:=thC_len p i
  refine At.seq fun _ s_10=>At.seq fun _ s_11=>At.region (aC (aD rfl) rfl rfl (op_lss (aD rfl) rfl rfl rfl (aA (aB (s_11 (aK rfl (fun c20=>?_) (fun c20=>?_)))))))
  ·refine At.skip (aB (s_10 (At.seq fun _ s_12=>At.block (At.drawn [11] [0,1,2,3,4,5,6,7,8,9,10,11] (by kernel_rfl) (by kernel_rfl) (aC (aN rfl rfl rfl (by kernel_rfl)) rfl rfl (op_rem (aN rfl rfl rfl (by kernel_rfl)) rfl rfl (by omega) (by omega) rfl (aC (aN rfl rfl rfl (by kernel_rfl)) rfl rfl (op_rem (aN rfl rfl rfl (by kernel_rfl)) rfl rfl (by omega) (by omega) rfl (op_idxA (aN rfl rfl rfl (by kernel_rfl)) ae132 rfl rfl (show _=(((i % 5:Nat)):Int)from by omega) (by omega) rfl ?_)))))))))
   -- an operation that writes, not last
   refine aI (aN rfl rfl rfl (by kernel_rfl)) sc70 rfl B4 (get64A (by omega)) (by first|exact aL|exact aZ|exact bB) rfl (aC (aN rfl rfl rfl (by kernel_rfl)) rfl rfl (op_idxA (aN rfl rfl rfl (by kernel_rfl)) ae99 rfl rfl (show _=(((i:Nat)):Int)from by omega) (by omega) rfl ?_))
   -- an operation that writes, not last
   refine aI (aN rfl rfl rfl (by kernel_rfl)) sc70 rfl B1 (get64A (by omega)) (by first|exact aL|exact aZ|exact bB) rfl (op_xorU (aN rfl rfl rfl (by kernel_rfl)) rfl rfl rfl (op_idxA (aN rfl rfl rfl (by kernel_rfl)) ae132 rfl rfl (show _=(((i % 5:Nat)):Int)from by omega) (by omega) rfl ?_))
   refine aO (nxos rfl rfl rfl rfl) sz70 rfl rfl rfl rfl rfl B4 (by simp<;>omega) sel0 (fun N4 B4=>?_)
   rw [set64A]at B4
   refine At.oneNil (aR (aB (s_12 (At.region (aC (aD rfl) rfl rfl (aV (aD rfl) rfl rfl (by omega) (by omega) rfl (aE (aD rfl) rfl rfl (aA (aB (bD ?_ (.refl _) ⟨i+1,N4,rfl,rfl,rfl,by omega,B4⟩ ?_))))))))))
   ·exact .cons (by first|exact aP rfl (by omega)|rfl) (.cons (by first|exact aP rfl (by omega)|rfl) (.cons (by first|exact aP rfl (by omega)|rfl) (.cons (by first|exact aP rfl (by omega)|rfl) (.cons (by first|exact aP rfl (by omega)|rfl) .nil))))
   ·omega
  refine At.exit (aG (aG (bC (aB (s_8 (At.seq fun _ s_13=>At.seq fun _ s_14=>At.region (aE (aD rfl) rfl rfl (aA (aB (s_14 (At.block ?_)))))))))))
  obtain rfl:i=25:=by omega
  obtain⟨c,hc⟩: ∃c,thC p 25=c:=⟨_,rfl⟩
  rw [hc]at B4 hcl
  change Blk N1 b1 _ (u64s (thA c p 0))at B1
  refine At.loop (fun fr_ hp_ ms_=> ∃(j:Nat) (N1:Heaplet),fr_= [(1,.pointer (some ⟨b1,0,none⟩)),(2,.pointer (some ⟨b2,0,none⟩)),(3,.int .i64 (k:Int)),(4,.pointer (some ⟨b4,0,none⟩)),(6,.int .i64 (j:Int))]∧hp_= [N4,N1,N2,R]∧25- j=ms_∧(j≤25)∧(Blk N1 b1 99 (u64s (thA c p j)))) ?_ (.refl _) ⟨0,N1,rfl,rfl,rfl,by omega,B1⟩ ?_
  ·exact .cons (by first|exact aP rfl (by omega)|rfl) (.cons (by first|exact aP rfl (by omega)|rfl) (.cons (by first|exact aP rfl (by omega)|rfl) (.cons (by first|exact aP rfl (by omega)|rfl) (.cons (by first|exact aP rfl (by omega)|rfl) .nil))))
  rintro _ _ _ ⟨j,N1,rfl,rfl,rfl,hj,B1⟩
  have htl:=(thA_len c p j).trans hpl
  refine At.seq fun _ s_15=>At.seq fun _ s_16=>At.region (aC (aD rfl) rfl rfl (op_lss (aD rfl) rfl rfl rfl (aA (aB (s_16 (aK rfl (fun c35=>?_) (fun c35=>?_)))))))
  ·refine At.skip (aB (s_15 (At.seq fun _ s_17=>At.block (At.drawn [19] [0,1,2,3,4,5,6,7,8,9,10,11,12,13,14,15,16,17,18,19] (by kernel_rfl) (by kernel_rfl) (aC (aN rfl rfl rfl (by kernel_rfl)) rfl rfl (aC (aN rfl rfl rfl (by kernel_rfl)) rfl rfl (op_idxA (aN rfl rfl rfl (by kernel_rfl)) ae99 rfl rfl (show _=(((j:Nat)):Int)from by omega) (by omega) rfl ?_)))))))
   -- an operation that writes, not last
   refine aI (aN rfl rfl rfl (by kernel_rfl)) sc70 rfl B1 (get64A (by omega)) (by first|exact aL|exact aZ|exact bB) rfl (aC (aN rfl rfl rfl (by kernel_rfl)) rfl rfl (aV (aN rfl rfl rfl (by kernel_rfl)) rfl rfl (by omega) (by omega) rfl (op_rem (aN rfl rfl rfl (by kernel_rfl)) rfl rfl (by omega) (by omega) rfl (op_idxA (aN rfl rfl rfl (by kernel_rfl)) ae132 rfl rfl (show _=((((j % 5+4) % 5:Nat)):Int)from by omega) (by omega) rfl ?_))))
   -- an operation that writes, not last
   refine aI (aN rfl rfl rfl (by kernel_rfl)) sc70 rfl B4 (get64A (by omega)) (by first|exact aL|exact aZ|exact bB) rfl (op_xorU (aN rfl rfl rfl (by kernel_rfl)) rfl rfl rfl (aC (aN rfl rfl rfl (by kernel_rfl)) rfl rfl (op_rem (aN rfl rfl rfl (by kernel_rfl)) rfl rfl (by omega) (by omega) rfl (aV (aN rfl rfl rfl (by kernel_rfl)) rfl rfl (by omega) (by omega) rfl (op_rem (aN rfl rfl rfl (by kernel_rfl)) rfl rfl (by omega) (by omega) rfl (op_idxA (aN rfl rfl rfl (by kernel_rfl)) ae132 rfl rfl (show _=((((j % 5+1) % 5:Nat)):Int)from by omega) (by omega) rfl ?_))))))
   -- an operation that writes, not last
   refine aI (aN rfl rfl rfl (by kernel_rfl)) sc70 rfl B4 (get64A (by omega)) (by first|exact aL|exact aZ|exact bB) rfl (aJ (nxoa rfl rfl rfl) (.cons rfl (.cons rfl .nil)) (rRol_f (c.getD ((j % 5+1) % 5) 0) 1 (by decide)) Tryz.func79 rfl rfl (by simp) rfl ?_)
   rintro v54 L54 ⟨rfl,rfl⟩
   change At _ _ _ [N4,N1,N2,R] _
   refine op_xorU (aN rfl rfl rfl (by kernel_rfl)) rfl rfl rfl ?_
   rw [UInt64.xor_assoc]
   refine op_idxA (aN rfl rfl rfl (by kernel_rfl)) ae99 rfl rfl (show _=(((j:Nat)):Int)from by omega) (by omega) rfl ?_
   refine aO (nxos rfl rfl rfl rfl) sz70 rfl rfl rfl rfl rfl B1 (by simp<;>omega) sel1 (fun N1 B1=>?_)
   rw [set64A]at B1
   refine At.oneNil (aR (aB (s_17 (At.region (aC (aD rfl) rfl rfl (aV (aD rfl) rfl rfl (by omega) (by omega) rfl (aE (aD rfl) rfl rfl (aA (aB (At.perm sel3 (At.perm sel3 (At.perm sel2 (At.perm sel3 (bD ?_ (.refl _) ⟨j+1,N1,rfl,rfl,rfl,by omega,B1⟩ ?_))))))))))))))
   ·exact .cons (by first|exact aP rfl (by omega)|rfl) (.cons (by first|exact aP rfl (by omega)|rfl) (.cons (by first|exact aP rfl (by omega)|rfl) (.cons (by first|exact aP rfl (by omega)|rfl) (.cons (by first|exact aP rfl (by omega)|rfl) .nil))))
   ·omega
  refine At.exit (aG (aG (bC (aB (s_13 (At.seq fun _ s_18=>At.region (bO (bA rfl) ze99 rfl (fun N7 b7 B7=>?_))))))))
  change Blk N7 b7 _ [.int .u64 0,.int .u64 0,.int .u64 0,.int .u64 0,.int .u64 0,.int .u64 0,.int .u64 0,.int .u64 0,.int .u64 0,.int .u64 0,.int .u64 0,.int .u64 0,.int .u64 0,.int .u64 0,.int .u64 0,.int .u64 0,.int .u64 0,.int .u64 0,.int .u64 0,.int .u64 0,.int .u64 0,.int .u64 0,.int .u64 0,.int .u64 0,.int .u64 0]at B7
  obtain rfl:j=25:=by omega
  have hth:thA c p 25=theta p:=by rw [theta,hc]
  obtain⟨q,hq⟩: ∃q,theta p=q:=⟨_,rfl⟩
  rw [hth,hq]at B1 htl
  change Blk N7 b7 _ (u64s (List.replicate 25 0))at B7
  refine aA (aB (s_18 (At.seq fun _ s_19=>At.region (op_idxA (aD rfl) ae99 rfl rfl (show _=(((0:Nat)):Int)from by omega) (by omega) rfl ?_))))
  refine aI (aD rfl) sc70 rfl B1 (get64A (by omega)) (by first|exact aL|exact aZ|exact bB) rfl (op_idxA (aD rfl) ae99 rfl rfl (show _=(((0:Nat)):Int)from by omega) (by omega) rfl ?_)
  refine aO (nxl rfl) sz70 rfl rfl rfl rfl rfl B7 (by simp<;>omega) sel0 (fun N7 B7=>?_)
  rw [set64A]at B7
  refine aA (aB (s_19 (At.seq fun _ s_20=>At.region (aE (aD rfl) rfl rfl (aE (aD rfl) rfl rfl (aA (aB (s_20 (At.seq fun _ s_21=>At.seq fun _ s_22=>At.region (aE (aD rfl) rfl rfl (aA (aB (s_22 (At.block ?_))))))))))))))
  change Blk N7 b7 _ (u64s (tuR q 0))at B7
  refine At.sub (L':= [N7,N1,N2,R]) (.cons_cons _ (.cons _ (.cons_cons _ (.cons_cons _ (.cons_cons _ (.slnil)))))) (At.loop (fun fr_ hp_ ms_=> ∃(t:Nat) (N7:Heaplet),fr_= [(1,.pointer (some ⟨b1,0,none⟩)),(2,.pointer (some ⟨b2,0,none⟩)),(3,.int .i64 (k:Int)),(7,.pointer (some ⟨b7,0,none⟩)),(8,.int .i64 ((pX t).1:Int)),(9,.int .i64 ((pX t).2:Int)),(10,.int .i64 (t:Int))]∧hp_= [N7,N1,N2,R]∧24- t=ms_∧(t≤24)∧(Blk N7 b7 99 (u64s (tuR q t)))) ?_ (.refl _) ⟨0,N7,rfl,rfl,rfl,by omega,B7⟩ ?_)
  ·exact .cons (by first|exact aP rfl (by omega)|rfl) (.cons (by first|exact aP rfl (by omega)|rfl) (.cons (by first|exact aP rfl (by omega)|rfl) (.cons (by first|exact aP rfl (by omega)|rfl) (.cons (by first|exact aP rfl (by omega)|rfl) (.cons (by first|exact aP rfl (by omega)|rfl) (.cons (by first|exact aP rfl (by omega)|rfl) .nil))))))
  rintro _ _ _ ⟨t,N7,rfl,rfl,rfl,ht,B7⟩
  have hul:=tuR_len q t
  have hx:=pX_lt t
  have hp1:(pX (t+1)).1=(pX t).2:=rfl
  have hp2:(pX (t+1)).2=(2*(pX t).1+3*(pX t).2) % 5:=rfl
  have hpos:pos (t+1)=(pX t).2+5*((2*(pX t).1+3*(pX t).2) % 5):=rfl
  have hpo0:pos t=(pX t).1+5*(pX t).2:=rfl
  have hpl1:=pos_lt (t+1)
  have hpl0:=pos_lt t
  have hm:((t:Int)+1)*((t:Int)+2)=(((t+1)*(t+2):Nat):Int):=by simp
  have hm2:(t+1)*(t+2)≤25*26:=Nat.mul_le_mul (by omega) (by omega)
  obtain⟨m,hmm⟩: ∃m,(t+1)*(t+2)=m:=⟨_,rfl⟩
  have hrot:rot t=m/2 % 64:=by rw [rot,hmm]
  rw [hmm]at hm hm2
  refine At.seq fun _ s_23=>At.seq fun _ s_24=>At.region (aC (aD rfl) rfl rfl (op_lss (aD rfl) rfl rfl rfl (aA (aB (s_24 (aK rfl (fun c61=>?_) (fun c61=>?_)))))))
  ·refine At.skip (aB (s_23 (At.seq fun _ s_25=>At.block (At.seq fun _ s_26=>At.region (aC (aD rfl) rfl rfl (aC (aD rfl) rfl rfl (op_mulI (aD rfl) rfl rfl (by omega) (by omega) rfl (aC (aD rfl) rfl rfl (op_mulI (aD rfl) rfl rfl (by omega) (by omega) rfl (aV (aD rfl) rfl rfl (by omega) (by omega) rfl (op_rem (aD rfl) rfl rfl (by omega) (by omega) rfl (aE (aD rfl) rfl rfl (aE (aD rfl) rfl rfl (aA (aB (s_26 (At.seq fun _ s_27=>At.region (aC (aD rfl) rfl rfl (aC (aD rfl) rfl rfl ?_)))))))))))))))))))
   refine op_mulI (aD rfl) rfl rfl (by omega) (by omega) rfl (aV (aD rfl) rfl rfl (by omega) (by omega) rfl (aC (aD rfl) rfl rfl (aC (aD rfl) rfl rfl (op_mulI (aD rfl) rfl rfl (by omega) (by omega) rfl (aV (aD rfl) rfl rfl (by omega) (by omega) rfl (op_idxA (aD rfl) ae99 rfl rfl (show _=(((pos t:Nat)):Int)from by omega) (by omega) rfl ?_))))))
   refine aI (aD rfl) sc70 rfl B1 (get64A (by omega)) (by first|exact aL|exact aZ|exact bB) rfl (aC (aD rfl) rfl rfl (aV (aD rfl) rfl rfl (by omega) (by omega) rfl (aC (aD rfl) rfl rfl (aV (aD rfl) rfl rfl (by omega) (by omega) rfl ?_))))
   refine op_mulI (aD rfl) rfl rfl (by rw [hm];omega) (by rw [hm];omega) rfl ?_
   rw [hm]
   refine op_quoI (aD rfl) rfl rfl (by omega) (by omega) (by omega) rfl (op_rem (aD rfl) rfl rfl (by omega) (by omega) rfl ?_)
   rw [show(m:Int)/2 % 64=((rot t:Nat):Int)from by omega]
   refine aJ (bA rfl) (.cons rfl (.cons rfl .nil)) (rRol_f (q.getD (pos t) 0) (rot t) (by omega)) Tryz.func79 rfl rfl (by simp) rfl ?_
   rintro v88 L88 ⟨rfl,rfl⟩
   change At _ _ _ [N7,N1,N2,R] _
   refine op_idxA (aD rfl) ae99 rfl rfl (show _=(((pos (t+1):Nat)):Int)from by omega) (by omega) rfl ?_
   refine aO (nxl rfl) sz70 rfl rfl rfl rfl rfl B7 (by simp<;>omega) sel0 (fun N7 B7=>?_)
   rw [set64A]at B7
   refine aA (aB (s_27 (At.region (aC (aD rfl) rfl rfl (aC (aD rfl) rfl rfl (aE (aD rfl) rfl rfl (aE (aD rfl) rfl rfl (aA (aR (aB (s_25 (At.region (aC (aD rfl) rfl rfl (aV (aD rfl) rfl rfl (by omega) (by omega) rfl (aE (aD rfl) rfl rfl (aA (aB (bD ?_ (.refl _) ⟨t+1,N7,rfl,rfl,rfl,by omega,B7⟩ ?_))))))))))))))))))
   ·exact .cons (by first|exact aP rfl (by omega)|rfl) (.cons (by first|exact aP rfl (by omega)|rfl) (.cons (by first|exact aP rfl (by omega)|rfl) (.cons (by first|exact aP rfl (by omega)|rfl) (.cons (by first|exact aP rfl (by omega)|rfl) (.cons (by first|exact aP rfl (by omega)|rfl) (.cons (by first|exact aP rfl (by omega)|rfl) .nil))))))
   ·omega
  refine At.exit (aG (aG (bC (aB (s_21 (At.seq fun _ s_28=>At.seq fun _ s_29=>At.region (aE (aD rfl) rfl rfl (aA (aB (s_29 (At.block ?_)))))))))))
  obtain rfl:t=24:=by omega
  obtain⟨w,hw⟩: ∃w,tuR q 24=w:=⟨_,rfl⟩
  rw [hw]at B7 hul
  change Blk N1 b1 _ (u64s (chR w q 0))at B1
  refine At.loop (fun fr_ hp_ ms_=> ∃(i:Nat) (N1:Heaplet),fr_= [(1,.pointer (some ⟨b1,0,none⟩)),(2,.pointer (some ⟨b2,0,none⟩)),(3,.int .i64 (k:Int)),(7,.pointer (some ⟨b7,0,none⟩)),(13,.int .i64 (i:Int))]∧hp_= [N7,N1,N2,R]∧25- i=ms_∧(i≤25)∧(Blk N1 b1 99 (u64s (chR w q i)))) ?_ (.refl _) ⟨0,N1,rfl,rfl,rfl,by omega,B1⟩ ?_
  ·exact .cons (by first|exact aP rfl (by omega)|rfl) (.cons (by first|exact aP rfl (by omega)|rfl) (.cons (by first|exact aP rfl (by omega)|rfl) (.cons (by first|exact aP rfl (by omega)|rfl) (.cons (by first|exact aP rfl (by omega)|rfl) .nil))))
  rintro _ _ _ ⟨i,N1,rfl,rfl,rfl,hi,B1⟩
  have hrl:=(chR_len w q i).trans htl
  refine At.seq fun _ s_30=>At.seq fun _ s_31=>At.region (aC (aD rfl) rfl rfl (op_lss (aD rfl) rfl rfl rfl (aA (aB (s_31 (aK rfl (fun c93=>?_) (fun c93=>?_)))))))
  ·refine At.skip (aB (s_30 (At.seq fun _ s_32=>At.block (At.seq fun _ s_33=>At.region (aC (aD rfl) rfl rfl (aC (aD rfl) rfl rfl (op_rem (aD rfl) rfl rfl (by omega) (by omega) rfl (op_subI (aD rfl) rfl rfl (by omega) (by omega) rfl (aE (aD rfl) rfl rfl (aA (aB (s_33 (At.drawn [22] [0,1,2,3,4,5,6,7,8,9,10,11,12,13,14,15,16,17,18,19,20,21,22] (by kernel_rfl) (by kernel_rfl) (aC (aN rfl rfl rfl (by kernel_rfl)) rfl rfl (aC (aN rfl rfl rfl (by kernel_rfl)) rfl rfl (op_idxA (aN rfl rfl rfl (by kernel_rfl)) ae99 rfl rfl (show _=(((i:Nat)):Int)from by omega) (by omega) rfl ?_))))))))))))))))
   -- an operation that writes, not last
   refine aI (aN rfl rfl rfl (by kernel_rfl)) sc70 rfl B7 (get64A (by omega)) (by first|exact aL|exact aZ|exact bB) rfl (aC (aN rfl rfl rfl (by kernel_rfl)) rfl rfl (aC (aN rfl rfl rfl (by kernel_rfl)) rfl rfl (aV (aN rfl rfl rfl (by kernel_rfl)) rfl rfl (by omega) (by omega) rfl (op_rem (aN rfl rfl rfl (by kernel_rfl)) rfl rfl (by omega) (by omega) rfl (aV (aN rfl rfl rfl (by kernel_rfl)) rfl rfl (by omega) (by omega) rfl (op_idxA (aN rfl rfl rfl (by kernel_rfl)) ae99 rfl rfl (show _=(((i- i % 5+(i+1) % 5:Nat)):Int)from by omega) (by omega) rfl ?_))))))
   -- an operation that writes, not last
   refine aI (aN rfl rfl rfl (by kernel_rfl)) sc70 rfl B7 (get64A (by omega)) (by first|exact aL|exact aZ|exact bB) rfl (op_compU (aN rfl rfl rfl (by kernel_rfl)) rfl rfl (aC (aN rfl rfl rfl (by kernel_rfl)) rfl rfl (aC (aN rfl rfl rfl (by kernel_rfl)) rfl rfl (aV (aN rfl rfl rfl (by kernel_rfl)) rfl rfl (by omega) (by omega) rfl (op_rem (aN rfl rfl rfl (by kernel_rfl)) rfl rfl (by omega) (by omega) rfl (aV (aN rfl rfl rfl (by kernel_rfl)) rfl rfl (by omega) (by omega) rfl (op_idxA (aN rfl rfl rfl (by kernel_rfl)) ae99 rfl rfl (show _=(((i- i % 5+(i+2) % 5:Nat)):Int)from by omega) (by omega) rfl ?_)))))))
   -- an operation that writes, not last
   refine aI (aN rfl rfl rfl (by kernel_rfl)) sc70 rfl B7 (get64A (by omega)) (by first|exact aL|exact aZ|exact bB) rfl (op_andU (aN rfl rfl rfl (by kernel_rfl)) rfl rfl rfl (op_xorU (aN rfl rfl rfl (by kernel_rfl)) rfl rfl rfl (op_idxA (aN rfl rfl rfl (by kernel_rfl)) ae99 rfl rfl (show _=(((i:Nat)):Int)from by omega) (by omega) rfl ?_)))
   refine aO (nxos rfl rfl rfl rfl) sz70 rfl rfl rfl rfl rfl B1 (by simp<;>omega) sel1 (fun N1 B1=>?_)
   rw [set64A]at B1
   refine At.oneNil (aR (aB (s_32 (At.region (aC (aD rfl) rfl rfl (aV (aD rfl) rfl rfl (by omega) (by omega) rfl (aE (aD rfl) rfl rfl (aA (aB (At.perm sel3 (At.perm sel3 (At.perm sel2 (At.perm sel3 (bD ?_ (.refl _) ⟨i+1,N1,rfl,rfl,rfl,by omega,B1⟩ ?_))))))))))))))
   ·exact .cons (by first|exact aP rfl (by omega)|rfl) (.cons (by first|exact aP rfl (by omega)|rfl) (.cons (by first|exact aP rfl (by omega)|rfl) (.cons (by first|exact aP rfl (by omega)|rfl) (.cons (by first|exact aP rfl (by omega)|rfl) .nil))))
   ·omega
  refine At.exit (aG (aG (bC (aB (s_28 (At.drawn [6] [0,1,2,3,4,5,6] (by kernel_rfl) (by kernel_rfl) ?_))))))
  obtain rfl:i=25:=by omega
  obtain⟨z,hz⟩: ∃z,chR w q 25=z:=⟨_,rfl⟩
  rw [hz]at B1 hrl
  have hR:kRound (prm a k) k=z.set 0 (z.getD 0 0^^^rcL.getD k 0):=by
   rw [kRound,hp,hq,tu_eq htl,hw,ch_eq hul htl,hz]
  refine op_idxA (aN rfl rfl rfl (by kernel_rfl)) ae99 rfl rfl (show _=(((0:Nat)):Int)from by omega) (by omega) rfl ?_
  -- an operation that writes, not last
  refine aI (aN rfl rfl rfl (by kernel_rfl)) sc70 rfl B1 (get64A (by omega)) (by first|exact aL|exact aZ|exact bB) rfl (aC (aN rfl rfl rfl (by kernel_rfl)) rfl rfl (aJ (nxoa rfl rfl rfl) (.cons rfl .nil) (rConst_f k (by omega)) Tryz.func80 rfl rfl (by simp) rfl ?_))
  rintro v125 L125 ⟨rfl,rfl⟩
  change At _ _ _ [N7,N1,N2,R] _
  refine op_xorU (aN rfl rfl rfl (by kernel_rfl)) rfl rfl rfl (op_idxA (aN rfl rfl rfl (by kernel_rfl)) ae99 rfl rfl (show _=(((0:Nat)):Int)from by omega) (by omega) rfl ?_)
  refine aO (nxos rfl rfl rfl rfl) sz70 rfl rfl rfl rfl rfl B1 (by simp<;>omega) sel1 (fun N1 B1=>?_)
  rw [set64A]at B1
  refine At.oneNil (aR (aB (s_6 (At.region (aC (aD rfl) rfl rfl (aV (aD rfl) rfl rfl (by omega) (by omega) rfl (aE (aD rfl) rfl rfl (aA (aB (At.sub (L':= [N1,N2,R]) (.cons_cons _ (.cons _ (.cons_cons _ (.cons_cons _ (.slnil))))) ?_))))))))))
  refine bD ?_ (.refl _) ⟨k+1,N1,rfl,rfl,rfl,by omega,by rw [prm,hR];exact B1⟩ ?_
  ·exact .cons (by first|exact aP rfl (by omega)|rfl) (.cons (by first|exact aP rfl (by omega)|rfl) (.cons (by first|exact aP rfl (by omega)|rfl) .nil))
  ·omega
 refine At.exit (aG (aG (bC (aB (s_2 (At.seq fun _ s_34=>At.region ?_))))))
 obtain rfl:k=24:=by omega
 obtain⟨o,ho⟩: ∃o,prm a 24=o:=⟨_,rfl⟩
 rw [ho]at B1 hpl
 refine op_loadAggB (ds:=u64s o) (aD rfl) ag99 rfl B1 (all_take (len64s hpl)) (len64s hpl) (by first|exact aL|exact aZ|exact bB) rfl ?_
 refine aO (nxl rfl) sz99 rfl rfl rfl (len64s hpl) (all64 _) B2 (by rw [len64s hpl];simp) sel1 (fun N2 B2=>?_)
 rw [setL_whole (by rw [len64s hpl];simp)]at B2
 refine aA (aB (s_34 (At.ret ((At.sub (L':= [N2,R]) (.cons_cons _ (.cons _ (.cons_cons _ (.slnil)))) (aW (L1:= []) rfl (.cell rfl (res_agg (ds:=u64s o) ag99 B2 (all_take (len64s hpl)) (len64s hpl) aL) .nil) (.cons _ (.refl _)) (.refl _) ?_))))))
 exact⟨by rw [ho],rfl⟩
end Go.Proofs.YtdpjbefeabokgaaGreat
