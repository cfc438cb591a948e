/- Several texts in one: see the remarks ahead of each part. No condition but those told there. -/
import Derived.Test.YtjfagifjajielaaGreatX1
import Derived.Test.YtjfagifjajielaaGreatX9
import Derived.Test.YtjfagifjajielaaGreatX4
import Derived.Test.YtjfagifjajielaaGreatX6
import Derived.Test.YtjfagifjajielaaGreatX5
import Derived.Test.YtjfagifjajielaaGreatX7
set_option linter.unusedSimpArgs false
set_option linter.unusedVariables false
namespace Go.Proofs.YtjfagifjajielaaGreat
open Go Go.RowKit
section
variable {P : Program} {n : Nat} {l : List (Nat × Value)} {E : World} {L Ls : List Heaplet} {X Y : Act → World → Prop} {d : Nat} {t ty e : TypeId} {x : Operand}
theorem op_toArr {alen size len cap:Nat} {ad:Addr} {pos:_} {aft:_} {g:_} (s:NxF P n l E L Ls ⟨some d,.sliceToArrayPointer t x,ty,pos,aft,g⟩ X Y) (ht:aelt P t=some (alen,e,size)) (hx:ev l x=some (.slice (some ad) len cap)) (hl:alen≤len) (hn:Nat.ble (d+1) n=true) (h:At n ((d,.pointer (some ad))::l) E L Y):At n l E L X:=by
 obtain⟨hu,i,hi,hsz⟩:=aelt_spec ht
 refine op_val s (fun a w hf hw=>?_) U hn h
 simp [execOp,hf.eval hx,Instr.arrayAt,run_underlying hu,Nat.not_lt.2 hl]
end
theorem getT {a:List UInt64} {T:List Value} {j:Nat} (h:j<a.length):(u64s a++T)[0+j*1]? =some (.int .u64 ((a.getD j 0).toNat:Int)):=by
 rw [Nat.zero_add,Nat.mul_one,List.getElem?_append_left (by simpa [u64s]using h)]
 exact get64 h
theorem setT {a:List UInt64} {T:List Value} {j:Nat} {x:UInt64} (h:j<a.length):setL (u64s a++T) (0+j*1) [.int .u64 (x.toNat:Int)]=u64s (a.set j x)++T:=by
 rw [Nat.zero_add,Nat.mul_one,setL,setL,List.set_append_left _ _ (by simpa [u64s]using h),set_u64s]
theorem lenT {a:List UInt64} {T:List Value} :(u64s a++T).length=a.length+T.length:=by simp [u64s]
theorem Rot_f (x:UInt64) (k:Nat) (hk:k<64):Fn Tryz.prog 185 #[.int .u64 (x.toNat:Int),.int .i64 (k:Int)] [] [] (fun v L=>v=.int .u64 ((rolN x k).toNat:Int)∧L= []):=by
 have e2:(UInt64.ofNat k).toNat=k:=by rw [UInt64.toNat_ofNat'];omega
 have e:UInt64.ofNat k&&&63=UInt64.ofNat k:=by
  apply UInt64.toNat_inj.1
  rw [UInt64.toNat_and,e2,show(63:UInt64).toNat=2^6- 1 from rfl,Nat.and_two_pow_sub_one_eq_mod,Nat.mod_eq_of_lt (show k<2^6 from hk)]
 have e3:(64- UInt64.ofNat k).toNat=64- k:=by
  rw [UInt64.toNat_sub_of_le _ _ (UInt64.le_iff_toNat_le.2 (by rw [e2];exact Nat.le_of_lt hk)),e2];rfl
 refine Fn.enter (vs:= [.int .u64 (x.toNat:Int),.int .i64 (k:Int)]) Tryz.func185 U U U ?_
 intro E R hR
 change At _ _ E [R] _
 refine aC fun _ s_1=>aA (aR U U (aB (s_1 (aC fun _ s_2=>aA (aH U U (op_conv64 aE (und_some Tryz.underlying3) Tryz.underlying222 U (show _=(((k:Nat)):Int)from by omega) U ?_))))))
 refine op_andU (b:=63) aE U U U ?_
 rw [e]
 refine aR U U (aB (s_2 (aC fun _ s_3=>aA (aH U U (aH U U (op_shlU aE U U (show _=(((k:Nat)):Int)from by omega) U ?_))))))
 refine aH U U (aH U U (op_subU (a:=64) aE U U U (op_shrU aE U U (show _=(((64- k:Nat)):Int)from by omega) U ?_)))
 refine op_orU aE U U U (aR U U (aB (s_3 (a0 ((cI (L1:= []) U (.tmp U .nil) (.refl _) aJ ?_))))))
 exact⟨by rw [rol_go hk],rfl⟩
set_option maxRecDepth 100000 in
theorem FTheta_f {N:Heaplet} {b0:Nat} {e0:TypeId} {a:List UInt64} {T:List Value} (ha:a.length=25) (B0:Blk N b0 e0 (u64s a++T)):Fn Tryz.prog 177 #[.pointer (some ⟨b0,0,none⟩)] [N] [] (fun v L=> ∃M,v=.tuple #[]∧L= [M]∧Blk M b0 e0 (u64s (theta a)++T)):=by
 obtain⟨N0,h0⟩: ∃N0,N0=N:=⟨_,rfl⟩
 rw [←h0]at B0⊢
 refine Fn.enter (vs:= [.pointer (some ⟨b0,0,none⟩)]) Tryz.func177 U U U ?_
 intro E R hR
 change At _ _ E [N0,R] _
 refine aC fun _ s_1=>aA (bK bU ze230 U (fun N2 b2 B2=>?_))
 change Blk N2 b2 _ [.int .u64 0,.int .u64 0,.int .u64 0,.int .u64 0,.int .u64 0]at B2
 change Blk N2 b2 _ (u64s (thC a 0))at B2
 refine aB (s_1 (aC fun _ s_2=>aC fun _ s_3=>aA (aH U U (aH U U (aB (s_3 (bZ (At.loop (fun fr_ hp_ ms_=> ∃(i:Nat) (N2:Heaplet),fr_= [(0,.pointer (some ⟨b0,0,none⟩)),(2,.pointer (some ⟨b2,0,none⟩)),(7,.pointer (some ⟨b0,0,none⟩)),(8,.int .i64 (i:Int))]∧hp_= [N2,N0,R]∧25- i=ms_∧(i≤25)∧(Blk N2 b2 230 (u64s (thC a i)))) ?_ aJ ⟨0,N2,rfl,rfl,rfl,by omega,B2⟩ ?_))))))))
 ·repeat first|apply cW|exact .nil|exact lkI rfl (by omega)|rfl
 rintro _ _ _ ⟨i,N2,rfl,rfl,rfl,hi,B2⟩
 have hcl:=thC_len a i
 refine aC fun _ s_4=>aA (op_lss aE U U U (aB (s_4 (aC fun _ s_5=>aQ U (fun c9=>?_) (fun c9=>?_)))))
 ·refine aT (aI (s_5 (aC fun _ s_6=>bZ (aC fun _ s_7=>At.drawn [] [0,1,2,3,4,5] (by kernel_rfl) (by kernel_rfl) (aP (bP U U U (by kernel_rfl)) U U (aW (bP U U U (by kernel_rfl)) U U (dD (bP U U U (by kernel_rfl)) ae187 U U (show _=(((i:Nat)):Int)from by omega) (by omega) U ?_)))))))
  refine aK (bP U U U (by kernel_rfl)) sc24 U B0 (by first|exact get64A (by omega)|rfl|exact getT (by first|omega|(rw [thA_len];omega))) mem1 U ?_
  refine cJ (bP U U U (by kernel_rfl)) U U (cJ (bP U U U (by kernel_rfl)) U U (dK (aI (s_7 (aA (aH U U (op_rem aE U U (by omega) (by omega) U (dD aE ae230 U U (show _=(((i % 5:Nat)):Int)from by omega) (by omega) U ?_))))))))
  refine aK aE sc24 U B2 (by first|exact get64A (by omega)|rfl|exact getT (by first|omega|(rw [thA_len];omega))) bI U ?_
  refine aH U U (op_xorU aE U U U (dD aE ae230 U U (show _=(((i % 5:Nat)):Int)from by omega) (by omega) U ?_))
  refine aF cL sz24 U U U U U B2 (by simp<;>omega) dB (fun N2 B2=>?_)
  rw [set64A]at B2
  refine cX (cS (aI (s_6 (aA (cU aE U U (by omega) (by omega) U (aH U U (aB (At.back ?_ aJ ⟨i+1,N2,rfl,rfl,rfl,by omega,B2⟩ ?_))))))))
  ·repeat first|apply cW|exact .nil|exact lkI rfl (by omega)|rfl
  ·omega
 refine At.exit (bB (bB (dE (aI (s_2 (aC fun _ s_8=>aA (aH U U (aB (s_8 (bZ ?_))))))))))
 obtain rfl:i=25:=by omega
 change Blk N0 b0 _ (u64s (thA (thC a 25) a 0)++T)at B0
 refine At.loop (fun fr_ hp_ ms_=> ∃(j:Nat) (N0:Heaplet),fr_= [(0,.pointer (some ⟨b0,0,none⟩)),(2,.pointer (some ⟨b2,0,none⟩)),(22,.int .i64 (j:Int))]∧hp_= [N2,N0,R]∧25- j=ms_∧(j≤25)∧(Blk N0 b0 e0 (u64s (thA (thC a 25) a j)++T))) ?_ aJ ⟨0,N0,rfl,rfl,rfl,by omega,B0⟩ ?_
 ·repeat first|apply cW|exact .nil|exact lkI rfl (by omega)|rfl
 rintro _ _ _ ⟨j,N0,rfl,rfl,rfl,hj,B0⟩
 have hal:=thA_len (thC a 25) a j
 refine aC fun _ s_9=>aA (op_lss aE U U U (aB (s_9 (aC fun _ s_10=>aQ U (fun c23=>?_) (fun c23=>?_)))))
 ·refine aT (aI (s_10 (aC fun _ s_11=>bZ (aC fun _ s_12=>aA (aH U U (aR U U (aB (s_12 (aC fun _ s_13=>aA (aH U U (op_rem aE U U (by omega) (by omega) U (aR U U (aB (s_13 (At.drawn [20] [0,1,2,3,4,5,6,7,8,9,10,11,12,13,14,18,15,16,17,19,20] (by kernel_rfl) (by kernel_rfl) (aP (bP U U U (by kernel_rfl)) U U (aP (bP U U U (by kernel_rfl)) U U (aW (bP U U U (by kernel_rfl)) U U (dD (bP U U U (by kernel_rfl)) ae187 U U (show _=(((j:Nat)):Int)from by omega) (by omega) U ?_)))))))))))))))))))
  refine aK (bP U U U (by kernel_rfl)) sc24 U B0 (by first|exact get64A (by omega)|rfl|exact getT (by first|omega|(rw [thA_len];omega))) mem1 U ?_
  refine aP (bP U U U (by kernel_rfl)) U U (cU (bP U U U (by kernel_rfl)) U U (by omega) (by omega) U (op_rem (bP U U U (by kernel_rfl)) U U (by omega) (by omega) U (dD (bP U U U (by kernel_rfl)) ae230 U U (show _=((((j % 5+4) % 5:Nat)):Int)from by omega) (by omega) U ?_)))
  refine aK (bP U U U (by kernel_rfl)) sc24 U B2 (by first|exact get64A (by omega)|rfl|exact getT (by first|omega|(rw [thA_len];omega))) bI U ?_
  refine aP (bP U U U (by kernel_rfl)) U U (cU (bP U U U (by kernel_rfl)) U U (by omega) (by omega) U (op_rem (bP U U U (by kernel_rfl)) U U (by omega) (by omega) U (dD (bP U U U (by kernel_rfl)) ae230 U U (show _=((((j % 5+1) % 5:Nat)):Int)from by omega) (by omega) U ?_)))
  refine aK (bP U U U (by kernel_rfl)) sc24 U B2 (by first|exact get64A (by omega)|rfl|exact getT (by first|omega|(rw [thA_len];omega))) bI U ?_
  refine aW (bP U U U (by kernel_rfl)) U U (bD (nxoa U U U) (.cons U (.cons U .nil)) (Rot_f ((thC a 25).getD ((j % 5+1) % 5) 0) 1 (by decide)) Tryz.func185 U U (by simp) U ?_)
  rintro _ _ ⟨rfl,rfl⟩
  show At _ _ _ [N2,N0,R] _
  refine op_xorU (bP U U U (by kernel_rfl)) U U U (op_xorU (bP U U U (by kernel_rfl)) U U U (dD (bP U U U (by kernel_rfl)) ae187 U U (show _=(((j:Nat)):Int)from by omega) (by omega) U ?_))
  refine aF (nxos U U U U) sz24 U U U U U B0 (by rw [lenT];simp;omega) sel1 (fun N0 B0=>?_)
  rw [setT (by omega)]at B0
  refine dK (cS (aI (s_11 (aA (cU aE U U (by omega) (by omega) U (aH U U (aB (aM (bO (aM (At.back ?_ aJ ⟨j+1,N0,rfl,rfl,rfl,by omega,B0⟩ ?_)))))))))))
  ·repeat first|apply cW|exact .nil|exact lkI rfl (by omega)|rfl
  ·omega
 refine At.exit (bB (bB (dE (cK (At.retNE (L1:= [N0]) U .nil U (.refl _) aJ ?_)))))
 obtain rfl:j=25:=by omega
 exact⟨N0,rfl,rfl,B0⟩
set_option maxRecDepth 100000 in
set_option maxHeartbeats 1000000 in
theorem FTurn_f {N:Heaplet} {b0:Nat} {e0:TypeId} {a:List UInt64} {T:List Value} (ha:a.length=25) (B0:Blk N b0 e0 (u64s a++T)):Fn Tryz.prog 178 #[.pointer (some ⟨b0,0,none⟩)] [N] [] (fun v L=> ∃M,v=.tuple #[]∧L= [M]∧Blk M b0 e0 (u64s (tuP a 24).1++T)):=by
 obtain⟨N0,h0⟩: ∃N0,N0=N:=⟨_,rfl⟩
 rw [←h0]at B0⊢
 refine Fn.enter (vs:= [.pointer (some ⟨b0,0,none⟩)]) Tryz.func178 U U U ?_
 intro E R hR
 change At _ _ E [N0,R] _
 refine aC fun _ s_1=>At.drawn [] [0,1,2,3,4,5,6] (by kernel_rfl) (by kernel_rfl) (aP (bP U U U (by kernel_rfl)) U U (aW (bP U U U (by kernel_rfl)) U U (dD (bP U U U (by kernel_rfl)) ae187 U U (show _=(((1:Nat)):Int)from by omega) (by omega) U ?_)))
 refine aK (bP U U U (by kernel_rfl)) sc24 U B0 (by first|exact get64A (by omega)|rfl|exact getT (by omega)) bI U ?_
 refine cJ (bP U U U (by kernel_rfl)) U U (cJ (bP U U U (by kernel_rfl)) U U (cJ (bP U U U (by kernel_rfl)) U U (dK (aI (s_1 (aC fun _ s_2=>aA (aH U U (aB (s_2 (bZ (At.loop (fun fr_ hp_ ms_=> ∃(t:Nat) (N0:Heaplet),fr_= [(0,.pointer (some ⟨b0,0,none⟩)),(2,.int .i64 ((pX t).1:Int)),(3,.int .i64 ((pX t).2:Int)),(4,.int .u64 ((tuP a t).2.toNat:Int)),(11,.int .i64 (t:Int))]∧hp_= [N0,R]∧24- t=ms_∧(t≤24)∧(Blk N0 b0 e0 (u64s (tuP a t).1++T))) ?_ aJ ⟨0,N0,rfl,rfl,rfl,by omega,B0⟩ ?_)))))))))))
 ·repeat first|apply cW|exact .nil|exact lkI rfl (by omega)|rfl
 rintro _ _ _ ⟨t,N0,rfl,rfl,rfl,ht,B0⟩
 have hal:=(tuP_len a t).trans ha
 have hx:=pX_lt t
 have hp1:(pX (t+1)).1=(pX t).2:=rfl
 have hp2:(pX (t+1)).2=(2*(pX t).1+3*(pX t).2) % 5:=rfl
 have hpos:pos (t+1)=(pX t).2+5*((2*(pX t).1+3*(pX t).2) % 5):=rfl
 have hpl:=pos_lt (t+1)
 have hm:((t:Int)+1)*((t:Int)+2)=(((t+1)*(t+2):Nat):Int):=by simp
 have hm2:(t+1)*(t+2)≤25*26:=Nat.mul_le_mul (by omega) (by omega)
 obtain⟨m,hmm⟩: ∃m,(t+1)*(t+2)=m:=⟨_,rfl⟩
 have hrot:rot t=m/2 % 64:=by rw [rot,hmm]
 rw [hmm]at hm hm2
 refine aC fun _ s_3=>aA (op_lss aE U U U (aB (s_3 (aC fun _ s_4=>aQ U (fun c12=>?_) (fun c12=>?_)))))
 ·refine aT (aI (s_4 (aC fun _ s_5=>bZ (aC fun _ s_6=>aA (aH U U (aR U U (aB (s_6 (aC fun _ s_7=>aA (aH U U (aH U U (op_mulI aE U U (by omega) (by omega) U (aH U U (op_mulI aE U U (by omega) (by omega) U (cU aE U U (by omega) (by omega) U (op_rem aE U U (by omega) (by omega) U (aR U U (aR U U (aB (s_7 (aC fun _ s_8=>aA (aH U U (aH U U (op_mulI aE U U (by omega) (by omega) U (cU aE U U (by omega) (by omega) U (aR U U (aB (s_8 (At.drawn [18] [0,1,2,3,4,5,6,7,8,9,11,12,13,14,15,16,10,17,18,19] (by kernel_rfl) (by kernel_rfl) (aP (bP U U U (by kernel_rfl)) U U (aP (bP U U U (by kernel_rfl)) U U (aP (bP U U U (by kernel_rfl)) U U (aP (bP U U U (by kernel_rfl)) U U (cU (bP U U U (by kernel_rfl)) U U (by omega) (by omega) U (aP (bP U U U (by kernel_rfl)) U U (cU (bP U U U (by kernel_rfl)) U U (by omega) (by omega) U ?_))))))))))))))))))))))))))))))))))))
  -- an operation that writes, not last
  refine op_mulI (bP U U U (by kernel_rfl)) U U (by rw [hm];omega) (by rw [hm];omega) U ?_
  rw [hm]
  refine op_quoI (bP U U U (by kernel_rfl)) U U (by omega) (by omega) (by omega) U (op_rem (bP U U U (by kernel_rfl)) U U (by omega) (by omega) U ?_)
  rw [show(m:Int)/2 % 64=((rot t:Nat):Int)from by omega]
  refine aP (bP U U U (by kernel_rfl)) U U (aP (bP U U U (by kernel_rfl)) U U (aW (bP U U U (by kernel_rfl)) U U (dD (bP U U U (by kernel_rfl)) ae187 U U (show _=(((pos (t+1):Nat)):Int)from by omega) (by omega) U ?_)))
  refine aK (bP U U U (by kernel_rfl)) sc24 U B0 (by first|exact get64A (by omega)|rfl|exact getT (by omega)) bI U ?_
  refine aW (bP U U U (by kernel_rfl)) U U (bD (nxoa U U U) (.cons U (.cons U .nil)) (Rot_f (tuP a t).2 (rot t) (by omega)) Tryz.func185 U U (by simp) U ?_)
  rintro _ _ ⟨rfl,rfl⟩
  show At _ _ _ [N0,R] _
  refine dD (bP U U U (by kernel_rfl)) ae187 U U (show _=(((pos (t+1):Nat)):Int)from by omega) (by omega) U ?_
  refine aF (nxos U U U U) sz24 U U U U U B0 (by rw [lenT];simp;omega) dB (fun N0 B0=>?_)
  rw [setT (by omega)]at B0
  refine cJ (bP U U U (by kernel_rfl)) U U (dK (cS (aI (s_5 (aA (cU aE U U (by omega) (by omega) U (aH U U (aB (At.back ?_ aJ ⟨t+1,N0,rfl,rfl,rfl,by omega,B0⟩ ?_)))))))))
  ·repeat first|apply cW|exact .nil|exact lkI rfl (by omega)|rfl
  ·omega
 refine At.exit (bB (bB (dE (At.retNE (L1:= [N0]) U .nil U (.refl _) aJ ?_))))
 obtain rfl:t=24:=by omega
 exact⟨N0,rfl,rfl,B0⟩
theorem cutL {a m b:List Value} {k n:Nat} (ha:a.length=k) (hm:m.length=n):((a++(m++b)).drop k).take n=m:=by
 subst ha;subst hm
 rw [List.drop_left,List.take_left]
theorem all64 (l:List UInt64):(u64s l).all (·.oneCell')=true:=List.all_eq_true.2 (one_u64s l)
theorem row_cells {a:List UInt64} {T:List Value} {y:Nat} (h:y+5≤a.length):((u64s a++T).drop (0+y*1)).take 5=u64s ((a.drop y).take 5):=by
 have e:u64s a=u64s (a.take y)++(u64s ((a.drop y).take 5)++u64s (a.drop (y+5))):=by
  conv=>lhs;rw [←List.take_append_drop y a, ←List.take_append_drop 5 (a.drop y),List.drop_drop]
  simp [u64s]
 rw [e,Nat.zero_add,Nat.mul_one,List.append_assoc,List.append_assoc]
 exact cutL (by simp [u64s];omega) (by simp [u64s];omega)
set_option maxRecDepth 100000 in
set_option maxHeartbeats 1000000 in
theorem FChi_f {N:Heaplet} {b0:Nat} {e0:TypeId} {a:List UInt64} {T:List Value} (ha:a.length=25) (B0:Blk N b0 e0 (u64s a++T)):Fn Tryz.prog 179 #[.pointer (some ⟨b0,0,none⟩)] [N] [] (fun v L=> ∃M,v=.tuple #[]∧L= [M]∧Blk M b0 e0 (u64s (chP a 5)++T)):=by
 obtain⟨N0,h0⟩: ∃N0,N0=N:=⟨_,rfl⟩
 rw [←h0]at B0⊢
 refine Fn.enter (vs:= [.pointer (some ⟨b0,0,none⟩)]) Tryz.func179 U U U ?_
 intro E R hR
 change At _ _ E [N0,R] _
 refine aC fun _ s_1=>aA (aR U U (aB (s_1 (bZ (At.loop (fun fr_ hp_ ms_=> ∃(k:Nat) (N0:Heaplet),fr_= [(0,.pointer (some ⟨b0,0,none⟩)),(2,.int .i64 (5*(k:Int)))]∧hp_= [N0,R]∧5- k=ms_∧(k≤5)∧(Blk N0 b0 e0 (u64s (chP a k)++T))) ?_ aJ ⟨0,N0,rfl,rfl,rfl,by omega,B0⟩ ?_)))))
 ·repeat first|apply cW|exact .nil|exact lkI rfl (by omega)|rfl
 rintro _ _ _ ⟨k,N0,rfl,rfl,rfl,hk,B0⟩
 have hal:=(chP_len a k).trans ha
 refine aC fun _ s_2=>aC fun _ s_3=>aA (aH U U (op_lss aE U U U (aB (s_3 (aQ U (fun c6=>?_) (fun c6=>?_))))))
 ·refine aT (aI (s_2 (aC fun _ s_4=>bZ (aC fun _ s_5=>aA (aH U U (aW aE U U (aH U U (aH U U (cU aE U U (by omega) (by omega) U (op_sliceA aE ae187 U (.some U (show _=(((5*k:Nat)):Int)from by omega)) (.some U (show _=(((5*k+5:Nat)):Int)from by omega)) .none (by omega) (by omega) (by omega) (by simp) U ?_))))))))))
  rw [if_neg (by omega)]
  have hrl:(((chP a k).drop (5*k)).take 5).length=5:=by rw [List.length_take,List.length_drop];omega
  have hrc:=row_cells (a:=chP a k) (T:=T) (y:=5*k) (by omega)
  obtain⟨row,hrow⟩: ∃row,row=((chP a k).drop (5*k)).take 5:=⟨_,rfl⟩
  rw [←hrow]at hrl hrc
  refine op_toArr aE ae230 U (by omega) U (aV (ds:=u64s row) aE ag230 U B0 hrc (by simp [u64s,hrl]) bI U ?_)
  refine bK bU ze230 U (fun N3 b3 B3=>?_)
  change Blk N3 b3 _ [.int .u64 0,.int .u64 0,.int .u64 0,.int .u64 0,.int .u64 0]at B3
  refine aF cL sz230 U U U (by simp [u64s,hrl]) (all64 _) B3 (by simp [u64s,hrl]) dB (fun N3 B3=>?_)
  rw [bG (by simp [u64s,hrl])]at B3
  refine aB (s_5 (aC fun _ s_6=>aA (aH U U (aB (s_6 (bZ ?_))))))
  change Blk N0 b0 _ (u64s (chI row (chP a k) (5*k) 0)++T)at B0
  refine At.loop (fun fr_ hp_ ms_=> ∃(x:Nat) (N0:Heaplet),fr_= [(0,.pointer (some ⟨b0,0,none⟩)),(2,.int .i64 (5*(k:Int))),(3,.pointer (some ⟨b3,0,none⟩)),(17,.int .i64 (x:Int))]∧hp_= [N3,N0,R]∧5- x=ms_∧(x≤5)∧(Blk N0 b0 e0 (u64s (chI row (chP a k) (5*k) x)++T))) ?_ aJ ⟨0,N0,rfl,rfl,rfl,by omega,B0⟩ ?_
  ·repeat first|apply cW|exact .nil|exact lkI rfl (by omega)|rfl
  rintro _ _ _ ⟨x,N0,rfl,rfl,rfl,hx,B0⟩
  have hcl:=chI_len row (chP a k) (5*k) x
  refine aC fun _ s_7=>aA (op_lss aE U U U (aB (s_7 (aC fun _ s_8=>aQ U (fun c18=>?_) (fun c18=>?_)))))
  ·refine aT (aI (s_8 (aC fun _ s_9=>bZ (aC fun _ s_10=>aA (aH U U (aR U U (aB (s_10 (At.drawn [22] [0,1,2,3,4,5,6,7,8,9,10,11,12,13,14,15,16,17,18,19,20,21,22] (by kernel_rfl) (by kernel_rfl) (aP (bP U U U (by kernel_rfl)) U U (aP (bP U U U (by kernel_rfl)) U U (aP (bP U U U (by kernel_rfl)) U U (cU (bP U U U (by kernel_rfl)) U U (by omega) (by omega) U (aP (bP U U U (by kernel_rfl)) U U (dD (bP U U U (by kernel_rfl)) ae230 U U (show _=(((x:Nat)):Int)from by omega) (by omega) U ?_)))))))))))))))
   refine aK (bP U U U (by kernel_rfl)) sc24 U B3 (by first|exact get64A (by omega)|rfl) bI U ?_
   refine aP (bP U U U (by kernel_rfl)) U U (cU (bP U U U (by kernel_rfl)) U U (by omega) (by omega) U (op_rem (bP U U U (by kernel_rfl)) U U (by omega) (by omega) U (dD (bP U U U (by kernel_rfl)) ae230 U U (show _=((((x+1) % 5:Nat)):Int)from by omega) (by omega) U ?_)))
   refine aK (bP U U U (by kernel_rfl)) sc24 U B3 (by first|exact get64A (by omega)|rfl) bI U ?_
   refine op_compU (bP U U U (by kernel_rfl)) U U (aP (bP U U U (by kernel_rfl)) U U (cU (bP U U U (by kernel_rfl)) U U (by omega) (by omega) U (op_rem (bP U U U (by kernel_rfl)) U U (by omega) (by omega) U (dD (bP U U U (by kernel_rfl)) ae230 U U (show _=((((x+2) % 5:Nat)):Int)from by omega) (by omega) U ?_))))
   refine aK (bP U U U (by kernel_rfl)) sc24 U B3 (by first|exact get64A (by omega)|rfl) bI U ?_
   refine op_andU (bP U U U (by kernel_rfl)) U U U (op_xorU (bP U U U (by kernel_rfl)) U U U (aW (bP U U U (by kernel_rfl)) U U (dD (bP U U U (by kernel_rfl)) ae187 U U (show _=(((5*k+x:Nat)):Int)from by omega) (by omega) U ?_)))
   refine aF (nxos U U U U) sz24 U U U U U B0 (by rw [lenT];simp;omega) sel1 (fun N0 B0=>?_)
   rw [setT (by omega)]at B0
   refine dK (cS (aI (s_9 (aA (cU aE U U (by omega) (by omega) U (aH U U (aB (aM (bO (aM (At.back ?_ aJ ⟨x+1,N0,rfl,rfl,rfl,by omega,B0⟩ ?_)))))))))))
   ·repeat first|apply cW|exact .nil|exact lkI rfl (by omega)|rfl
   ·omega
  refine At.exit (bB (bB (dE (cS (aI (s_4 (aA ?_)))))))
  obtain rfl:x=5:=by omega
  rw [hrow]at B0
  refine aH U U (cU aE U U (by omega) (by omega) U (aR U U (aB (cK (At.back ?_ aJ ⟨k+1,N0,rfl,rfl,rfl,by omega,B0⟩ ?_)))))
  ·repeat first|apply cW|exact .nil|exact lkI rfl (by omega)|rfl
  ·omega
 refine At.exit (bB (bB (dE (At.retNE (L1:= [N0]) U .nil U (.refl _) aJ ?_))))
 obtain rfl:k=5:=by omega
 exact⟨N0,rfl,rfl,B0⟩
set_option maxRecDepth 100000 in
set_option maxHeartbeats 1000000 in
theorem FConst_f:Fn Tryz.prog 176 #[] [] [] (fun v L=>v=.agg (u64s rcL).toArray∧L= []):=by
 refine Fn.enter (vs:= []) Tryz.func176 U U U ?_
 intro E R hR
 change At _ _ E [R] _
 refine aC fun _ s_1=>aA (bK bU ze249 U (fun N0 b0 B0=>?_))
 change Blk N0 b0 _ [.int .u64 0,.int .u64 0,.int .u64 0,.int .u64 0,.int .u64 0,.int .u64 0,.int .u64 0,.int .u64 0,.int .u64 0,.int .u64 0,.int .u64 0,.int .u64 0,.int .u64 0,.int .u64 0,.int .u64 0,.int .u64 0,.int .u64 0,.int .u64 0,.int .u64 0,.int .u64 0,.int .u64 0,.int .u64 0,.int .u64 0,.int .u64 0]at B0
 change Blk N0 b0 _ (u64s (List.replicate 24 0))at B0
 refine aB (s_1 (aC fun _ s_2=>aA (bK bU ze249 U (fun N1 b1 B1=>?_))))
 change Blk N1 b1 _ [.int .u64 0,.int .u64 0,.int .u64 0,.int .u64 0,.int .u64 0,.int .u64 0,.int .u64 0,.int .u64 0,.int .u64 0,.int .u64 0,.int .u64 0,.int .u64 0,.int .u64 0,.int .u64 0,.int .u64 0,.int .u64 0,.int .u64 0,.int .u64 0,.int .u64 0,.int .u64 0,.int .u64 0,.int .u64 0,.int .u64 0,.int .u64 0]at B1
 change Blk N1 b1 _ (u64s (cN (7*0)))at B1
 refine aB (s_2 (aC fun _ s_3=>aA (aR U U (aB (s_3 (aC fun _ s_4=>aC fun _ s_5=>aA (aH U U (aB (s_5 (bZ (At.loop (fun fr_ hp_ ms_=> ∃(i:Nat) (N1:Heaplet),fr_= [(0,.pointer (some ⟨b0,0,none⟩)),(1,.pointer (some ⟨b1,0,none⟩)),(2,.int .u8 (rI (7*i))),(6,.int .i64 (i:Int))]∧hp_= [N1,N0,R]∧24- i=ms_∧(i≤24)∧(Blk N1 b1 249 (u64s (cN (7*i))))) ?_ aJ ⟨0,N1,rfl,rfl,rfl,by omega,B1⟩ ?_)))))))))))
 ·repeat first|apply cW|exact .nil|exact lkI rfl (by omega)|rfl
 rintro _ _ _ ⟨i,N1,rfl,rfl,rfl,hi,B1⟩
 refine aC fun _ s_6=>aA (op_lss aE U U U (aB (s_6 (aC fun _ s_7=>aQ U (fun c7=>?_) (fun c7=>?_)))))
 ·refine aT (aI (s_7 (aC fun _ s_8=>bZ (aC fun _ s_9=>aA (aH U U (aR U U (aB (s_9 (aC fun _ s_10=>aA (aH U U (aB (s_10 (bZ (At.loop (fun fr_ hp_ ms_=> ∃(j:Nat) (N1:Heaplet),fr_= [(0,.pointer (some ⟨b0,0,none⟩)),(1,.pointer (some ⟨b1,0,none⟩)),(2,.int .u8 (rI (7*i+j))),(3,.int .i64 (i:Int)),(6,.int .i64 (i:Int)),(9,.int .i64 (j:Int))]∧hp_= [N1,N0,R]∧7- j=ms_∧(j≤7)∧(Blk N1 b1 249 (u64s (cN (7*i+j))))) ?_ aJ ⟨0,N1,rfl,rfl,rfl,by omega,B1⟩ ?_))))))))))))))
  ·repeat first|apply cW|exact .nil|exact lkI rfl (by omega)|rfl
  rintro _ _ _ ⟨j,N1,rfl,rfl,rfl,hj,B1⟩
  have hcl:=cN_len (7*i+j)
  obtain⟨hr0,hr1,hr2⟩:=rI_ok ⟨7*i+j,by omega⟩
  simp only at hr0 hr1 hr2
  refine aC fun _ s_11=>aA (op_lss aE U U U (aB (s_11 (aC fun _ s_12=>aQ U (fun c10=>?_) (fun c10=>?_)))))
  ·refine aT (aI (s_12 (aC fun _ s_13=>bZ (aC fun _ s_14=>aA (aH U U (aR U U (aB (s_14 (aC fun _ s_15=>At.drawn [12] [0,1,2,3,4,5,6,7,8,9,10,11,12] (by kernel_rfl) (by kernel_rfl) (aP (bP U U U (by kernel_rfl)) U U (dD (bP U U U (by kernel_rfl)) ae249 U U (show _=(((i:Nat)):Int)from by omega) (by omega) U ?_)))))))))))
   refine aK (bP U U U (by kernel_rfl)) sc24 U B1 (by first|exact get64A (by omega)|rfl) bI U ?_
   refine aP (bP U U U (by kernel_rfl)) U U (op_bits (by simp) (bP U U U (by kernel_rfl)) U U U (op_conv64 (bP U U U (by kernel_rfl)) (und_some Tryz.underlying5) Tryz.underlying24 U (show _=((((bits .and .u8 (rI (7*i+j)) 1).toNat:Nat)):Int)from by omega) U ?_))
   refine aP (bP U U U (by kernel_rfl)) U U (op_shlU (a:=1) (bP U U U (by kernel_rfl)) U U (show _=(((j:Nat)):Int)from by omega) U ?_)
   refine op_subU (b:=1) (bP U U U (by kernel_rfl)) U U U (op_shlU (bP U U U (by kernel_rfl)) U U (show _=((((shl64 1 j- 1).toNat:Nat)):Int)from by omega) U ?_)
   refine op_orU (bP U U U (by kernel_rfl)) U U U (dD (bP U U U (by kernel_rfl)) ae249 U U (show _=(((i:Nat)):Int)from by omega) (by omega) U ?_)
   refine aF (nxos U U U U) sz24 U U U U U B1 (by simp<;>omega) dB (fun N1 B1=>?_)
   rw [set64A]at B1
   refine dK (aI (s_15 (aC fun _ s_16=>aA (aH U U (op_shrW aE U U (by omega) (by omega) U (aR U U (aB (s_16 (aA (aH U U (op_shlW aE U U (by omega) U (aH U U (op_mulW aE U U U (op_bits (by simp) aE U U U (aR U U (cX (cS (aI (s_13 (aA (cU aE U U (by omega) (by omega) U (aH U U (aB ?_)))))))))))))))))))))))
   refine At.back ?_ aJ ⟨j+1,N1,rfl,rfl,rfl,by omega,by rw [show 7*i+(j+1)=(7*i+j)+1 by omega,cN,cStep,show(7*i+j)/7=i by omega,show(7*i+j) % 7=j by omega];exact B1⟩ ?_
   ·repeat first|apply cW|exact .nil|exact lkI rfl (by omega)|rfl
   ·omega
  refine At.exit (bB (bB (dE (cS (aI (s_8 (aA ?_)))))))
  obtain rfl:j=7:=by omega
  change Blk N1 b1 _ (u64s (cN (7*(i+1))))at B1
  refine cU aE U U (by omega) (by omega) U (aH U U (aB (At.back ?_ aJ ⟨i+1,N1,rfl,rfl,rfl,by omega,B1⟩ ?_)))
  ·repeat first|apply cW|exact .nil|exact lkI rfl (by omega)|rfl
  ·omega
 refine At.exit (bB (bB (dE (aI (s_4 (aC fun _ s_17=>aA ?_))))))
 obtain rfl:i=24:=by omega
 change Blk N1 b1 _ (u64s rcL)at B1
 have hrl:rcL.length=24:=cN_len 168
 refine aV (ds:=u64s rcL) aE ag249 U B1 (by rw [List.drop_zero,List.take_of_length_le (by simp [u64s,hrl])]) (by simp [u64s,hrl]) bI U ?_
 refine aF cL sz249 U U U (by simp [u64s,hrl]) (all64 _) B0 (by simp [u64s,hrl]) sel1 (fun N0 B0=>?_)
 rw [bG (by simp [u64s,hrl])]at B0
 refine aB (s_17 (a0 ((bH (cI (L1:= []) U (.cell U (bQ (ds:=u64s rcL) ag249 B0 (by rw [List.drop_zero,List.take_of_length_le (by simp [u64s,hrl])]) (by simp [u64s,hrl]) bI) .nil) (.cons _ (.refl _)) aJ ?_)))))
 exact⟨rfl,rfl⟩
set_option maxRecDepth 100000 in
set_option maxHeartbeats 1000000 in
theorem FPermute_f {N:Heaplet} {b0:Nat} {e0:TypeId} {a:List UInt64} {T:List Value} (ha:a.length=25) (B0:Blk N b0 e0 (u64s a++T)):Fn Tryz.prog 157 #[.pointer (some ⟨b0,0,none⟩)] [N] [] (fun v L=> ∃M,v=.tuple #[]∧L= [M]∧Blk M b0 e0 (u64s (prm a 24)++T)):=by
 obtain⟨N0,h0⟩: ∃N0,N0=N:=⟨_,rfl⟩
 rw [←h0]at B0⊢
 have hrl:rcL.length=24:=cN_len 168
 refine Fn.enter (vs:= [.pointer (some ⟨b0,0,none⟩)]) Tryz.func157 U U U ?_
 intro E R hR
 change At _ _ E [N0,R] _
 refine aC fun _ s_1=>aA (bD bU .nil (FConst_f) Tryz.func176 U U (by simp) U ?_)
 rintro _ _ ⟨rfl,rfl⟩
 show At _ _ _ [N0,R] _
 refine aH U U (aB (s_1 (bZ ?_)))
 change Blk N0 b0 _ (u64s (prm a 0)++T)at B0
 refine At.loop (fun fr_ hp_ ms_=> ∃(k:Nat) (N0:Heaplet),fr_= [(0,.pointer (some ⟨b0,0,none⟩)),(4,.agg (u64s rcL).toArray),(5,.int .i64 (k:Int))]∧hp_= [N0,R]∧24- k=ms_∧(k≤24)∧(Blk N0 b0 e0 (u64s (prm a k)++T))) ?_ aJ ⟨0,N0,rfl,rfl,rfl,by omega,B0⟩ ?_
 ·repeat first|apply cW|exact .nil|exact lkI rfl (by omega)|rfl
 rintro _ _ _ ⟨k,N0,rfl,rfl,rfl,hk,B0⟩
 have hal:=(prm_len a k).trans ha
 have hl1:(theta (prm a k)).length=25:=(theta_len _).trans hal
 have hl2:(tuP (theta (prm a k)) 24).1.length=25:=(tuP_len _ _).trans hl1
 have hl3:(chP (tuP (theta (prm a k)) 24).1 5).length=25:=(chP_len _ _).trans hl2
 refine aC fun _ s_2=>aA (op_lss aE U U U (aB (s_2 (aC fun _ s_3=>aQ U (fun c6=>?_) (fun c6=>?_)))))
 ·refine aT (aI (s_3 (aC fun _ s_4=>bZ (aC fun _ s_5=>aA ?_))))
  refine op_idxV aE ae249 sc24 U U (show _=(((k:Nat)):Int)from by omega) (by omega) (by rw [List.getElem?_toArray];exact get64 (by omega)) U ?_
  refine aR U U (aB (s_5 (aC fun _ s_6=>aA (aH U U (cA cL (.cons U .nil) (FTheta_f hal B0) (F:= [R]) Tryz.func177 U U aJ (by simp) U ?_)))))
  rintro _ _ ⟨N0,rfl,rfl,B0⟩
  show At _ _ _ [N0,R] _
  refine aB (s_6 (aC fun _ s_7=>aA (aH U U (cA cL (.cons U .nil) (FTurn_f hl1 B0) (F:= [R]) Tryz.func178 U U aJ (by simp) U ?_))))
  rintro _ _ ⟨N0,rfl,rfl,B0⟩
  show At _ _ _ [N0,R] _
  refine aB (s_7 (aC fun _ s_8=>aA (aH U U (cA cL (.cons U .nil) (FChi_f hl2 B0) (F:= [R]) Tryz.func179 U U aJ (by simp) U ?_))))
  rintro _ _ ⟨N0,rfl,rfl,B0⟩
  show At _ _ _ [N0,R] _
  obtain⟨q,hq⟩: ∃q,chP (tuP (theta (prm a k)) 24).1 5=q:=⟨_,rfl⟩
  rw [hq]at B0 hl3
  refine aB (s_8 (At.drawn [8] [0,1,2,3,4,5,6,7,8] (by kernel_rfl) (by kernel_rfl) (aP (bP U U U (by kernel_rfl)) U U (aW (bP U U U (by kernel_rfl)) U U (dD (bP U U U (by kernel_rfl)) ae187 U U (show _=(((0:Nat)):Int)from by omega) (by omega) U ?_)))))
  refine aK (bP U U U (by kernel_rfl)) sc24 U B0 (by first|exact get64A (by omega)|rfl|exact getT (by omega)) bI U ?_
  refine aP (bP U U U (by kernel_rfl)) U U (op_xorU (bP U U U (by kernel_rfl)) U U U (aW (bP U U U (by kernel_rfl)) U U (dD (bP U U U (by kernel_rfl)) ae187 U U (show _=(((0:Nat)):Int)from by omega) (by omega) U ?_)))
  refine aF (nxos U U U U) sz24 U U U U U B0 (by rw [lenT];simp;omega) dB (fun N0 B0=>?_)
  rw [setT (by omega)]at B0
  refine dK (cS (aI (s_4 (aA (cU aE U U (by omega) (by omega) U (aH U U (aB ?_)))))))
  refine At.back ?_ aJ ⟨k+1,N0,rfl,rfl,rfl,by omega,by rw [prm,kRound,hq];exact B0⟩ ?_
  ·repeat first|apply cW|exact .nil|exact lkI rfl (by omega)|rfl
  ·omega
 refine At.exit (bB (bB (dE (At.retNE (L1:= [N0]) U .nil U (.refl _) aJ ?_))))
 obtain rfl:k=24:=by omega
 exact⟨N0,rfl,rfl,B0⟩
theorem or128 (x:UInt8):bits .or .u8 (x.toNat:Int) 128=((x |||128).toNat:Int):=by
 have h: ∀i:Fin 256,bits .or .u8 (i.1:Int) 128=(((UInt8.ofNat i.1)|||128).toNat:Int):=by decide+kernel
 have e:UInt8.ofNat x.toNat=x:=by
  apply UInt8.toNat_inj.1
  rw [UInt8.toNat_ofNat'];exact Nat.mod_eq_of_lt x.toNat_lt
 have:=h ⟨x.toNat,x.toNat_lt⟩
 simp only [e]at this
 exact this
theorem all8 (l:List UInt8):(u8s l).all (·.oneCell')=true:=List.all_eq_true.2 (one_u8s l)
theorem blk8 {N:Heaplet} {b:Nat} {e:TypeId} {L:List UInt8} {k:Nat} (h:Blk N b e (u8s L)) (hk:L.length=k) (hm:k≤9223372036854775807):RSl N 1 (some ⟨b,0+0*1,none⟩) (k- 0) (k- 0) (u8s L):=by
 refine⟨by simp [u8s,hk],Nat.le_refl _,by unfold maxLen;omega,fun h0=>⟨b,0,rfl,h.rng⟩⟩
set_option maxRecDepth 100000 in
set_option maxHeartbeats 1000000 in
theorem FAbsorb_f {N M:Heaplet} {b0:Nat} {e0:TypeId} {a:List UInt64} {T:List Value} {ao:Option Addr} {n cap:Nat} {l:List UInt8} (ha:a.length=25) (B0:Blk N b0 e0 (u64s a++T)) (hb:RSl M 1 ao n cap (u8s l)) (hn:n=136):Fn Tryz.prog 121 #[.pointer (some ⟨b0,0,none⟩),.slice ao n cap] [N] [M] (fun v L=> ∃M,v=.tuple #[]∧L= [M]∧Blk M b0 e0 (u64s (absorb a l)++T)):=by
 obtain⟨N0,h0⟩: ∃N0,N0=N:=⟨_,rfl⟩
 rw [←h0]at B0⊢
 have hlen:=hb.len8
 have hcap:=hb.cap63
 refine Fn.enter (vs:= [.pointer (some ⟨b0,0,none⟩),.slice ao n cap]) Tryz.func121 U U U ?_
 intro E R hR
 have hb:=hb.le (hR M (by simp))
 change At _ _ E [N0,R] _
 refine aC fun _ s_1=>aC fun _ s_2=>aA (aH U U (cF aE se22 U U (aH U U (aB (s_2 (bZ ?_))))))
 change Blk N0 b0 _ (u64s (abI a l 0)++T)at B0
 refine At.loop (fun fr_ hp_ ms_=> ∃(i:Nat) (N0:Heaplet),fr_= [(0,.pointer (some ⟨b0,0,none⟩)),(6,.slice ao n cap),(7,.int .i64 (n:Int)),(8,.int .i64 (i:Int))]∧hp_= [N0,R]∧136- i=ms_∧(i≤136)∧(Blk N0 b0 e0 (u64s (abI a l i)++T))) ?_ aJ ⟨0,N0,rfl,rfl,rfl,by omega,B0⟩ ?_
 ·repeat first|apply cW|exact .nil|exact lkI rfl (by omega)|rfl
 rintro _ _ _ ⟨i,N0,rfl,rfl,rfl,hi,B0⟩
 have hal:=(abI_len a l i).trans ha
 refine aC fun _ s_3=>aA (op_lss aE U U U (aB (s_3 (aC fun _ s_4=>aQ U (fun c9=>?_) (fun c9=>?_)))))
 ·refine aT (aI (s_4 (aC fun _ s_5=>bZ (aC fun _ s_6=>aA (aH U U (cZ aE se22 U U hb (show _=(((i:Nat)):Int)from by omega) (by omega) U ?_))))))
  refine cO aE sc5 U hb (by first|exact get8 (by omega)|exact get64 (by omega)|exact get32 (by omega)) (by simp) U ?_
  refine aR U U (aR U U (aB (s_6 (At.drawn [15] [0,1,2,3,4,5,6,7,8,9,10,11,12,13,14,15] (by kernel_rfl) (by kernel_rfl) (aP (bP U U U (by kernel_rfl)) U U (aP (bP U U U (by kernel_rfl)) U U (op_quoI (bP U U U (by kernel_rfl)) U U (by omega) (by omega) (by omega) U (aW (bP U U U (by kernel_rfl)) U U (dD (bP U U U (by kernel_rfl)) ae187 U U (show _=(((i/8:Nat)):Int)from by omega) (by omega) U ?_)))))))))
  refine aK (bP U U U (by kernel_rfl)) sc24 U B0 (by first|exact get64A (by omega)|rfl|exact getT (by omega)) bI U ?_
  refine aP (bP U U U (by kernel_rfl)) U U (op_conv64 (bP U U U (by kernel_rfl)) (und_some Tryz.underlying5) Tryz.underlying24 U (show _=((((l.getD i 0).toNat:Nat)):Int)from by omega) U ?_)
  refine aP (bP U U U (by kernel_rfl)) U U (op_rem (bP U U U (by kernel_rfl)) U U (by omega) (by omega) U (op_mulI (bP U U U (by kernel_rfl)) U U (by omega) (by omega) U (op_shlU (bP U U U (by kernel_rfl)) U U (show _=(((i % 8*8:Nat)):Int)from by omega) U ?_)))
  refine op_xorU (bP U U U (by kernel_rfl)) U U U (aW (bP U U U (by kernel_rfl)) U U (dD (bP U U U (by kernel_rfl)) ae187 U U (show _=(((i/8:Nat)):Int)from by omega) (by omega) U ?_))
  refine aF (nxos U U U U) sz24 U U U U U B0 (by rw [lenT];simp;omega) dB (fun N0 B0=>?_)
  rw [setT (by omega)]at B0
  refine dK (cS (aI (s_5 (aA (cU aE U U (by omega) (by omega) U (aH U U (aB (At.back ?_ aJ ⟨i+1,N0,rfl,rfl,rfl,by omega,B0⟩ ?_))))))))
  ·repeat first|apply cW|exact .nil|exact lkI rfl (by omega)|rfl
  ·omega
 refine At.exit (bB (bB (dE (aI (s_1 (aA ?_))))))
 obtain rfl:i=136:=by omega
 refine aH U U (cA cL (.cons U .nil) (FPermute_f hal B0) (F:= [R]) Tryz.func157 U U aJ (by simp) U ?_)
 rintro _ _ ⟨N0,rfl,rfl,B0⟩
 show At _ _ _ [N0,R] _
 refine cX (At.retNE (L1:= [N0]) U .nil U (.refl _) aJ ?_)
 exact⟨N0,rfl,rfl,B0⟩
set_option maxRecDepth 100000 in
theorem FNew_f:Fn Tryz.prog 120 #[] [] [] (fun v L=> ∃M b e,v=.pointer (some ⟨b,0,none⟩)∧L= [M]∧Blk M b e (u64s (List.replicate 25 0)++ [.slice none 0 0])):=by
 refine Fn.enter (vs:= []) Tryz.func120 U U U ?_
 intro E R hR
 change At _ _ E [R] _
 refine aC fun _ s_1=>aA (aR U U (aB (s_1 (aC fun _ s_2=>aA (cM (out:= [.int .u64 0,.int .u64 0,.int .u64 0,.int .u64 0,.int .u64 0,.int .u64 0,.int .u64 0,.int .u64 0,.int .u64 0,.int .u64 0,.int .u64 0,.int .u64 0,.int .u64 0,.int .u64 0,.int .u64 0,.int .u64 0,.int .u64 0,.int .u64 0,.int .u64 0,.int .u64 0,.int .u64 0,.int .u64 0,.int .u64 0,.int .u64 0,.int .u64 0,.slice none 0 0]) aE ze189 pl189 .nil U U (op_box bU U U U (fun N2 b2 B2=>aR U U (aB (s_2 (a0 ((cI (L1:= [N2]) U (.tmp U .nil) (.refl _) aJ ?_))))))))))))
 exact⟨N2,b2,_,rfl,rfl,B2⟩
theorem copy_last {r:List UInt8} {o k:Nat} (ho:o=0) (hk:k=r.length) (hr:r.length≤136):(u8s (List.replicate 136 0)).take o++(u8s r).take k++(u8s (List.replicate 136 0)).drop (o+k)=u8s (r++List.replicate (136- r.length) 0):=by
 subst ho;subst hk
 rw [List.take_zero,List.nil_append,Nat.zero_add,List.take_of_length_le (by simp [u8s]),show u8s (List.replicate 136 0)=List.replicate 136 (vb 0)from List.map_replicate,List.drop_replicate,u8s,u8s,List.map_append,List.map_replicate]
theorem padZ_len {r:List UInt8} (hr:r.length<136):(r++List.replicate (136- r.length) 0).length=136:=by
 rw [List.length_append,List.length_replicate];omega
theorem padL_len {r:List UInt8} (hr:r.length<136):(padL r).length=136:=by
 unfold padL
 simp only [List.length_set]
 exact padZ_len hr
theorem zeBlk:zer Tryz.prog 229=some (.agg (u8s (List.replicate 136 0)).toArray):=by kernel_rfl
set_option maxRecDepth 100000 in
set_option maxHeartbeats 2000000 in
theorem FSum_f {N M:Heaplet} {b0:Nat} {e0:TypeId} {a:List UInt64} {ao:Option Addr} {n cap:Nat} {r:List UInt8} (ha:a.length=25) (B0:Blk N b0 e0 (u64s a++ [.slice ao n cap])) (hb:RSl M 1 ao n cap (u8s r)) (hn:n<136):Fn Tryz.prog 122 #[.pointer (some ⟨b0,0,none⟩)] [N] [M] (fun v L=>v=.agg (u8s (ouI (absorb a (padL r)) 32)).toArray∧L= []):=by
 obtain⟨N0,h0⟩: ∃N0,N0=N:=⟨_,rfl⟩
 rw [←h0]at B0⊢
 have hlen:=hb.len8
 have hcap:=hb.cap63
 have hrest:(u64s a++ [Value.slice ao n cap])[0+25]? =some (.slice ao n cap):=by
  rw [List.getElem?_append_right (by simp [u64s,ha]),show 0+25- (u64s a).length=0 by simp [u64s,ha]];rfl
 have hlan:((u64s a++ [Value.slice ao n cap]).drop (0+0)).take 25=u64s a:=by
  rw [List.drop_zero,List.take_append_of_le_length (by simp [u64s,ha]),List.take_of_length_le (by simp [u64s,ha])]
 have hpz:=padZ_len (r:=r) (by omega)
 have hpl:=padL_len (r:=r) (by omega)
 obtain⟨A,hA⟩: ∃A,absorb a (padL r)=A:=⟨_,rfl⟩
 have hAl:A.length=25:=by rw [←hA,absorb_len];exact ha
 refine Fn.enter (vs:= [.pointer (some ⟨b0,0,none⟩)]) Tryz.func122 U U U ?_
 intro E R hR
 have hb:=hb.le (hR M (by simp))
 change At _ _ E [N0,R] _
 refine aC fun _ s_1=>aA (bK bU ze39 U (fun N2 b2 B2=>?_))
 change Blk N2 b2 _ [.int .u8 0,.int .u8 0,.int .u8 0,.int .u8 0,.int .u8 0,.int .u8 0,.int .u8 0,.int .u8 0,.int .u8 0,.int .u8 0,.int .u8 0,.int .u8 0,.int .u8 0,.int .u8 0,.int .u8 0,.int .u8 0,.int .u8 0,.int .u8 0,.int .u8 0,.int .u8 0,.int .u8 0,.int .u8 0,.int .u8 0,.int .u8 0,.int .u8 0,.int .u8 0,.int .u8 0,.int .u8 0,.int .u8 0,.int .u8 0,.int .u8 0,.int .u8 0]at B2
 refine aB (s_1 (aC fun _ s_2=>aA (bK bU zeBlk U (fun N3 b3 B3=>?_))))
 change Blk N3 b3 _ (u8s (List.replicate 136 0))at B3
 refine aB (s_2 (aC fun _ s_3=>At.drawn [5] [0,1,2,3,4,5] (by kernel_rfl) (by kernel_rfl) (op_sliceA (bP U U U (by kernel_rfl)) ae229 U .none .none .none (by omega) (by omega) (by omega) (by simp) U (aP (bP U U U (by kernel_rfl)) U U (aW (bP U U U (by kernel_rfl)) U U (aD (bP U U U (by kernel_rfl)) fl189_1 U U (aK (bP U U U (by kernel_rfl)) sc22 U B0 (by first|rfl|exact hrest) mem2 U ?_)))))))
 refine op_copyB (nxos rfl rfl rfl rfl) se22 rfl rfl B3 hb (by simp) (by first|exact one_u8s _|exact one_u64s _|exact one_u32s _|(intro u hu;simp at hu;subst hu;rfl)) (by simp [u8s];omega) dB rfl (fun N3 B3=>?_)
 rw [copy_last rfl (by omega) (by omega)]at B3
 refine dK (aI (s_3 (aC fun _ s_4=>aA (aH U U (aW aE U U (aD aE fl189_1 U U (aK aE sc22 U B0 (by first|rfl|exact hrest) mem2 U ?_)))))))
 refine cF aE se22 U U (dD aE ae229 U U (show _=(((n:Nat)):Int)from by omega) (by omega) U ?_)
 refine aF cL sz5 U U U U U B3 (by simp [u8s];omega) dB (fun N3 B3=>?_)
 rw [show Value.int .u8 1=.int .u8 ((1:UInt8).toNat:Int)from rfl,set8A]at B3
 obtain⟨z,hz⟩: ∃z,(r++List.replicate (136- r.length) 0).set n 1=z:=⟨_,rfl⟩
 have hzl:z.length=136:=by rw [←hz,List.length_set];exact hpz
 have hpad:padL r=z.set 135 (z.getD 135 0 |||128):=by rw [←hz,padL,hlen]
 rw [hz]at B3
 refine aB (s_4 (aC fun _ s_5=>aA (dD aE ae229 U U (show _=(((135:Nat)):Int)from by omega) (by omega) U ?_)))
 refine aK aE sc5 U B3 (get8A (by omega)) (by simp) U (op_bits (by simp) aE U U U ?_)
 rw [or128]
 refine dD aE ae229 U U (show _=(((135:Nat)):Int)from by omega) (by omega) U ?_
 refine aF cL sz5 U U U U U B3 (by simp [u8s];omega) dB (fun N3 B3=>?_)
 rw [set8A, ←hpad]at B3
 refine aB (s_5 (aC fun _ s_6=>aA (aH U U (aW aE U U (aD aE fl189_0 U U (aV (ds:=u64s a) aE ag187 U B0 hlan (by simp [u64s,ha]) (by simp) U ?_))))))
 refine bK bU ze187 U (fun N4 b4 B4=>?_)
 change Blk N4 b4 _ [.int .u64 0,.int .u64 0,.int .u64 0,.int .u64 0,.int .u64 0,.int .u64 0,.int .u64 0,.int .u64 0,.int .u64 0,.int .u64 0,.int .u64 0,.int .u64 0,.int .u64 0,.int .u64 0,.int .u64 0,.int .u64 0,.int .u64 0,.int .u64 0,.int .u64 0,.int .u64 0,.int .u64 0,.int .u64 0,.int .u64 0,.int .u64 0,.int .u64 0]at B4
 refine aF cL sz187 U U U (by simp [u64s,ha]) (all64 _) B4 (by simp [u64s,ha]) dB (fun N4 B4=>?_)
 rw [bG (by simp [u64s,ha]), ←List.append_nil (u64s a)]at B4
 refine aB (s_6 (aC fun _ s_7=>aA (op_sliceA aE ae229 U .none .none .none (by omega) (by omega) (by omega) (by simp) U ?_)))
 have sL:=blk8 B3 hpl (by omega)
 refine cA cL (.cons U (.cons U .nil)) (FAbsorb_f ha B4 sL U) (F:= [N3,N2,N0,R]) Tryz.func121 U U aJ (by simp) U ?_
 rintro _ _ ⟨N4,rfl,rfl,B4⟩
 show At _ _ _ [N4,N3,N2,N0,R] _
 rw [List.append_nil,hA]at B4
 refine aB (s_7 (aC fun _ s_8=>aA (bK bU ze39 U (fun N5 b5 B5=>?_))))
 change Blk N5 b5 _ [.int .u8 0,.int .u8 0,.int .u8 0,.int .u8 0,.int .u8 0,.int .u8 0,.int .u8 0,.int .u8 0,.int .u8 0,.int .u8 0,.int .u8 0,.int .u8 0,.int .u8 0,.int .u8 0,.int .u8 0,.int .u8 0,.int .u8 0,.int .u8 0,.int .u8 0,.int .u8 0,.int .u8 0,.int .u8 0,.int .u8 0,.int .u8 0,.int .u8 0,.int .u8 0,.int .u8 0,.int .u8 0,.int .u8 0,.int .u8 0,.int .u8 0,.int .u8 0]at B5
 change Blk N5 b5 _ (u8s (ouI A 0))at B5
 refine aB (s_8 (aC fun _ s_9=>aC fun _ s_10=>aA (aH U U (aB (s_10 (bZ (dH (bJ (At.loop (fun fr_ hp_ ms_=> ∃(i:Nat) (N5:Heaplet),fr_= [(2,.pointer (some ⟨b2,0,none⟩)),(4,.pointer (some ⟨b4,0,none⟩)),(5,.pointer (some ⟨b5,0,none⟩)),(29,.int .i64 (i:Int))]∧hp_= [N5,N4,N2,R]∧32- i=ms_∧(i≤32)∧(Blk N5 b5 39 (u8s (ouI A i)))) ?_ aJ ⟨0,N5,rfl,rfl,rfl,by omega,B5⟩ ?_)))))))))
 ·repeat first|apply cW|exact .nil|exact lkI rfl (by omega)|rfl
 rintro _ _ _ ⟨i,N5,rfl,rfl,rfl,hi,B5⟩
 have hol:=ouI_len A i
 refine aC fun _ s_11=>aA (op_lss aE U U U (aB (s_11 (aC fun _ s_12=>aQ U (fun c30=>?_) (fun c30=>?_)))))
 ·refine aT (aI (s_12 (aC fun _ s_13=>bZ (aC fun _ s_14=>aA (aH U U (aR U U (aB (s_14 (aA (aH U U (aH U U (op_quoI aE U U (by omega) (by omega) (by omega) U (dD aE ae187 U U (show _=(((i/8:Nat)):Int)from by omega) (by omega) U ?_)))))))))))))
  refine aK aE sc24 U B4 (get64A (by omega)) (by simp) U (aH U U (op_rem aE U U (by omega) (by omega) U (op_mulI aE U U (by omega) (by omega) U (op_shrU aE U U (show _=(((i % 8*8:Nat)):Int)from by omega) U ?_))))
  refine op_conv8 aE (und_some Tryz.underlying24) Tryz.underlying5 U (show _=((((shr64 (A.getD (i/8) 0) (i % 8*8)).toNat:Nat)):Int)from by omega) U ?_
  refine dD aE ae39 U U (show _=(((i:Nat)):Int)from by omega) (by omega) U ?_
  refine aF cL sz5 U U U U U B5 (by simp<;>omega) dB (fun N5 B5=>?_)
  rw [set8A]at B5
  refine cX (cS (aI (s_13 (aA (cU aE U U (by omega) (by omega) U (aH U U (aB (At.back ?_ aJ ⟨i+1,N5,rfl,rfl,rfl,by omega,B5⟩ ?_))))))))
  ·repeat first|apply cW|exact .nil|exact lkI rfl (by omega)|rfl
  ·omega
 refine At.exit (bB (bB (dE (aI (s_9 (aC fun _ s_15=>aA ?_))))))
 obtain rfl:i=32:=by omega
 obtain⟨o,ho⟩: ∃o,ouI A 32=o:=⟨_,rfl⟩
 rw [ho]at B5 hol
 refine aV (ds:=u8s o) aE ag39 U B5 (by rw [List.drop_zero,List.take_of_length_le (by simp [u8s,hol])]) (by simp [u8s,hol]) (by simp) U ?_
 refine aF cL sz39 U U U (by simp [u8s,hol]) (all8 _) B2 (by simp [u8s,hol]) sel2 (fun N2 B2=>?_)
 rw [bG (by simp [u8s,hol])]at B2
 refine aB (s_15 (a0 ((bJ (bH (cI (L1:= []) U (.cell U (bQ (ds:=u8s o) ag39 B2 (by rw [List.drop_zero,List.take_of_length_le (by simp [u8s,hol])]) (by simp [u8s,hol]) bI) .nil) (.cons _ (.refl _)) aJ ?_))))))
 exact⟨by rw [hA,ho],rfl⟩
theorem all_take {xs:List Value} {k:Nat} (h:xs.length=k):(xs.drop 0).take k=xs:=by rw [List.drop_zero,List.take_of_length_le (by omega)]
theorem len64s {l:List UInt64} {k:Nat} (h:l.length=k):(u64s l).length=k:=by simp [u64s,h]
end Go.Proofs.YtjfagifjajielaaGreat
