/- Several texts in one: see the remarks ahead of each part. No condition but those told there. -/
import Derived.Test.YtalmjkcapecpiaaGreatX1
import Derived.Test.YtalmjkcapecpiaaGreatX12
import Derived.Test.YtalmjkcapecpiaaGreatX5
import Derived.Test.YtalmjkcapecpiaaGreatX6
import Derived.Test.YtalmjkcapecpiaaGreatX7
import Derived.Test.YtalmjkcapecpiaaGreatX9
set_option linter.unusedSimpArgs false
set_option linter.unusedVariables false
namespace Go.Proofs.YtalmjkcapecpiaaGreat
open Go Go.RowKit
section
variable {P : Program} {n : Nat} {l : List (Nat × Value)} {E : World} {L Ls : List Heaplet} {X Y : Act → World → Prop} {d : Nat} {t ty e : TypeId} {x : Operand}
theorem op_toArr {alen size len cap:Nat} {ad:Addr} {pos:_} {aft:_} {g:_} (s:NxF P n l E L Ls ⟨some d,.sliceToArrayPointer t x,ty,pos,aft,g⟩ X Y) (ht:aelt P t=some (alen,e,size)) (hx:ev l x=some (.slice (some ad) len cap)) (hl:alen≤len) (hn:Nat.ble (d+1) n=true) (h:At n ((d,.pointer (some ad))::l) E L Y):At n l E L X:=by
 obtain⟨hu,i,hi,hsz⟩:=aelt_spec ht
 refine op_val s (fun a w hf hw=>?_) U hn h
 simp [execOp,hf.eval hx,Instr.arrayAt,run_underlying hu,Nat.not_lt.2 hl]
end
theorem getT {a:List UInt64} {T:List Value} {j:Nat} (h:j<a.length):(u64s a++T)[0+j*1]? =some (.int .u64 ((a.getD j 0).toNat:Int)):=by
 rw [Nat.zero_add,Nat.mul_one,List.getElem?_append_left (by simpa [u64s]using h)]
 exact get64 h
theorem setT {a:List UInt64} {T:List Value} {j:Nat} {x:UInt64} (h:j<a.length):setL (u64s a++T) (0+j*1) [.int .u64 (x.toNat:Int)]=u64s (a.set j x)++T:=by
 rw [Nat.zero_add,Nat.mul_one,setL,setL,List.set_append_left _ _ (by simpa [u64s]using h),set_u64s]
theorem lenT {a:List UInt64} {T:List Value} :(u64s a++T).length=a.length+T.length:=by simp [u64s]
theorem Rot_f (x:UInt64) (k:Nat) (hk:k<64):Fn Tryz.prog 166 #[.int .u64 (x.toNat:Int),.int .i64 (k:Int)] [] [] (fun v L=>v=.int .u64 ((rolN x k).toNat:Int)∧L= []):=by
 have e2:(UInt64.ofNat k).toNat=k:=by rw [UInt64.toNat_ofNat'];omega
 have e:UInt64.ofNat k&&&63=UInt64.ofNat k:=by
  apply UInt64.toNat_inj.1
  rw [UInt64.toNat_and,e2,show(63:UInt64).toNat=2^6- 1 from rfl,Nat.and_two_pow_sub_one_eq_mod,Nat.mod_eq_of_lt (show k<2^6 from hk)]
 have e3:(64- UInt64.ofNat k).toNat=64- k:=by
  rw [UInt64.toNat_sub_of_le _ _ (UInt64.le_iff_toNat_le.2 (by rw [e2];exact Nat.le_of_lt hk)),e2];rfl
 refine Fn.enter (vs:= [.int .u64 (x.toNat:Int),.int .i64 (k:Int)]) Tryz.func166 U U U ?_
 intro E R hR
 change At _ _ E [R] _
 refine aH fun _ s_1=>aB (bV U U (aI (s_1 (aH fun _ s_2=>aB (bC U U (op_conv64 aN (und_some Tryz.underlying3) Tryz.underlying178 U (show _=(((k:Nat)):Int)from by omega) U ?_))))))
 refine op_andU (b:=63) aN U U U ?_
 rw [e]
 refine bV U U (aI (s_2 (aH fun _ s_3=>aB (bC U U (bC U U (op_shlU aN U U (show _=(((k:Nat)):Int)from by omega) U ?_))))))
 refine bC U U (bC U U (op_subU (a:=64) aN U U U (op_shrU aN U U (show _=(((64- k:Nat)):Int)from by omega) U ?_)))
 refine op_orU aN U U U (bV U U (aI (s_3 (cK ((cF (L1:= []) U (.tmp U .nil) (.refl _) aZ ?_))))))
 exact⟨by rw [rol_go hk],rfl⟩
set_option maxRecDepth 100000 in
theorem FTheta_f {N:Heaplet} {b0:Nat} {e0:TypeId} {a:List UInt64} {T:List Value} (ha:a.length=25) (B0:Blk N b0 e0 (u64s a++T)):Fn Tryz.prog 150 #[.pointer (some ⟨b0,0,none⟩)] [N] [] (fun v L=> ∃M,v=.tuple #[]∧L= [M]∧Blk M b0 e0 (u64s (theta a)++T)):=by
 obtain⟨N0,h0⟩: ∃N0,N0=N:=⟨_,rfl⟩
 rw [←h0]at B0⊢
 refine Fn.enter (vs:= [.pointer (some ⟨b0,0,none⟩)]) Tryz.func150 U U U ?_
 intro E R hR
 change At _ _ E [N0,R] _
 refine aH fun _ s_1=>aB (bZ bT ze223 U (fun N2 b2 B2=>?_))
 change Blk N2 b2 _ [.int .u64 0,.int .u64 0,.int .u64 0,.int .u64 0,.int .u64 0]at B2
 change Blk N2 b2 _ (u64s (thC a 0))at B2
 refine aI (s_1 (aH fun _ s_2=>aH fun _ s_3=>aB (bC U U (bC U U (aI (s_3 (bX (At.loop (fun fr_ hp_ ms_=> ∃(i:Nat) (N2:Heaplet),fr_= [(0,.pointer (some ⟨b0,0,none⟩)),(2,.pointer (some ⟨b2,0,none⟩)),(7,.pointer (some ⟨b0,0,none⟩)),(8,.int .i64 (i:Int))]∧hp_= [N2,N0,R]∧25- i=ms_∧(i≤25)∧(Blk N2 b2 223 (u64s (thC a i)))) ?_ aZ ⟨0,N2,rfl,rfl,rfl,by omega,B2⟩ ?_))))))))
 ·repeat first|apply cW|exact .nil|exact lkI rfl (by omega)|rfl
 rintro _ _ _ ⟨i,N2,rfl,rfl,rfl,hi,B2⟩
 have hcl:=thC_len a i
 refine aH fun _ s_4=>aB (op_lss aN U U U (aI (s_4 (aH fun _ s_5=>cD U (fun c9=>?_) (fun c9=>?_)))))
 ·refine cG (aS (s_5 (aH fun _ s_6=>bX (aH fun _ s_7=>At.drawn [] [0,1,2,3,4,5] (by kernel_rfl) (by kernel_rfl) (aR (cX U U U (by kernel_rfl)) U U (bH (cX U U U (by kernel_rfl)) U U (op_idxA (cX U U U (by kernel_rfl)) ae159 U U (show _=(((i:Nat)):Int)from by omega) (by omega) U ?_)))))))
  refine aU (cX U U U (by kernel_rfl)) sc34 U B0 (by first|exact get64A (by omega)|rfl|exact getT (by first|omega|(rw [thA_len];omega))) dG U ?_
  refine cZ (cX U U U (by kernel_rfl)) U U (cZ (cX U U U (by kernel_rfl)) U U (At.oneNil (aS (s_7 (aB (bC U U (op_rem aN U U (by omega) (by omega) U (op_idxA aN ae223 U U (show _=(((i % 5:Nat)):Int)from by omega) (by omega) U ?_))))))))
  refine aU aN sc34 U B2 (by first|exact get64A (by omega)|rfl|exact getT (by first|omega|(rw [thA_len];omega))) cO U ?_
  refine bC U U (op_xorU aN U U U (op_idxA aN ae223 U U (show _=(((i % 5:Nat)):Int)from by omega) (by omega) U ?_))
  refine bP nxQ sz34 U U U U U B2 (by simp<;>omega) sel0 (fun N2 B2=>?_)
  rw [set64A]at B2
  refine cE (cJ (aS (s_6 (aB (dD aN U U (by omega) (by omega) U (bC U U (aI (At.back ?_ aZ ⟨i+1,N2,rfl,rfl,rfl,by omega,B2⟩ ?_))))))))
  ·repeat first|apply cW|exact .nil|exact lkI rfl (by omega)|rfl
  ·omega
 refine At.exit (bD (bD (dE (aS (s_2 (aH fun _ s_8=>aB (bC U U (aI (s_8 (bX ?_))))))))))
 obtain rfl:i=25:=by omega
 change Blk N0 b0 _ (u64s (thA (thC a 25) a 0)++T)at B0
 refine At.loop (fun fr_ hp_ ms_=> ∃(j:Nat) (N0:Heaplet),fr_= [(0,.pointer (some ⟨b0,0,none⟩)),(2,.pointer (some ⟨b2,0,none⟩)),(22,.int .i64 (j:Int))]∧hp_= [N2,N0,R]∧25- j=ms_∧(j≤25)∧(Blk N0 b0 e0 (u64s (thA (thC a 25) a j)++T))) ?_ aZ ⟨0,N0,rfl,rfl,rfl,by omega,B0⟩ ?_
 ·repeat first|apply cW|exact .nil|exact lkI rfl (by omega)|rfl
 rintro _ _ _ ⟨j,N0,rfl,rfl,rfl,hj,B0⟩
 have hal:=thA_len (thC a 25) a j
 refine aH fun _ s_9=>aB (op_lss aN U U U (aI (s_9 (aH fun _ s_10=>cD U (fun c23=>?_) (fun c23=>?_)))))
 ·refine cG (aS (s_10 (aH fun _ s_11=>bX (aH fun _ s_12=>aB (bC U U (bV U U (aI (s_12 (aH fun _ s_13=>aB (bC U U (op_rem aN U U (by omega) (by omega) U (bV U U (aI (s_13 (At.drawn [20] [0,1,2,3,4,5,6,7,8,9,10,11,12,13,14,18,15,16,17,19,20] (by kernel_rfl) (by kernel_rfl) (aR (cX U U U (by kernel_rfl)) U U (aR (cX U U U (by kernel_rfl)) U U (bH (cX U U U (by kernel_rfl)) U U (op_idxA (cX U U U (by kernel_rfl)) ae159 U U (show _=(((j:Nat)):Int)from by omega) (by omega) U ?_)))))))))))))))))))
  refine aU (cX U U U (by kernel_rfl)) sc34 U B0 (by first|exact get64A (by omega)|rfl|exact getT (by first|omega|(rw [thA_len];omega))) dG U ?_
  refine aR (cX U U U (by kernel_rfl)) U U (dD (cX U U U (by kernel_rfl)) U U (by omega) (by omega) U (op_rem (cX U U U (by kernel_rfl)) U U (by omega) (by omega) U (op_idxA (cX U U U (by kernel_rfl)) ae223 U U (show _=((((j % 5+4) % 5:Nat)):Int)from by omega) (by omega) U ?_)))
  refine aU (cX U U U (by kernel_rfl)) sc34 U B2 (by first|exact get64A (by omega)|rfl|exact getT (by first|omega|(rw [thA_len];omega))) cO U ?_
  refine aR (cX U U U (by kernel_rfl)) U U (dD (cX U U U (by kernel_rfl)) U U (by omega) (by omega) U (op_rem (cX U U U (by kernel_rfl)) U U (by omega) (by omega) U (op_idxA (cX U U U (by kernel_rfl)) ae223 U U (show _=((((j % 5+1) % 5:Nat)):Int)from by omega) (by omega) U ?_)))
  refine aU (cX U U U (by kernel_rfl)) sc34 U B2 (by first|exact get64A (by omega)|rfl|exact getT (by first|omega|(rw [thA_len];omega))) cO U ?_
  refine bH (cX U U U (by kernel_rfl)) U U (bG (nxoa U U U) (.cons U (.cons U .nil)) (Rot_f ((thC a 25).getD ((j % 5+1) % 5) 0) 1 (by decide)) Tryz.func166 U U (by simp) U ?_)
  rintro _ _ ⟨rfl,rfl⟩
  show At _ _ _ [N2,N0,R] _
  refine op_xorU (cX U U U (by kernel_rfl)) U U U (op_xorU (cX U U U (by kernel_rfl)) U U U (op_idxA (cX U U U (by kernel_rfl)) ae159 U U (show _=(((j:Nat)):Int)from by omega) (by omega) U ?_))
  refine bP (nxos U U U U) sz34 U U U U U B0 (by rw [lenT];simp;omega) sel1 (fun N0 B0=>?_)
  rw [setT (by omega)]at B0
  refine At.oneNil (cJ (aS (s_11 (aB (dD aN U U (by omega) (by omega) U (bC U U (aI (bF (cH (bF (At.back ?_ aZ ⟨j+1,N0,rfl,rfl,rfl,by omega,B0⟩ ?_)))))))))))
  ·repeat first|apply cW|exact .nil|exact lkI rfl (by omega)|rfl
  ·omega
 refine At.exit (bD (bD (dE (dropAt0 (cQ (L1:= [N0]) U .nil U (.refl _) aZ ?_)))))
 obtain rfl:j=25:=by omega
 exact⟨N0,rfl,rfl,B0⟩
set_option maxRecDepth 100000 in
set_option maxHeartbeats 1000000 in
theorem FTurn_f {N:Heaplet} {b0:Nat} {e0:TypeId} {a:List UInt64} {T:List Value} (ha:a.length=25) (B0:Blk N b0 e0 (u64s a++T)):Fn Tryz.prog 151 #[.pointer (some ⟨b0,0,none⟩)] [N] [] (fun v L=> ∃M,v=.tuple #[]∧L= [M]∧Blk M b0 e0 (u64s (tuP a 24).1++T)):=by
 obtain⟨N0,h0⟩: ∃N0,N0=N:=⟨_,rfl⟩
 rw [←h0]at B0⊢
 refine Fn.enter (vs:= [.pointer (some ⟨b0,0,none⟩)]) Tryz.func151 U U U ?_
 intro E R hR
 change At _ _ E [N0,R] _
 refine aH fun _ s_1=>At.drawn [] [0,1,2,3,4,5,6] (by kernel_rfl) (by kernel_rfl) (aR (cX U U U (by kernel_rfl)) U U (bH (cX U U U (by kernel_rfl)) U U (op_idxA (cX U U U (by kernel_rfl)) ae159 U U (show _=(((1:Nat)):Int)from by omega) (by omega) U ?_)))
 refine aU (cX U U U (by kernel_rfl)) sc34 U B0 (by first|exact get64A (by omega)|rfl|exact getT (by omega)) cO U ?_
 refine cZ (cX U U U (by kernel_rfl)) U U (cZ (cX U U U (by kernel_rfl)) U U (cZ (cX U U U (by kernel_rfl)) U U (At.oneNil (aS (s_1 (aH fun _ s_2=>aB (bC U U (aI (s_2 (bX (At.loop (fun fr_ hp_ ms_=> ∃(t:Nat) (N0:Heaplet),fr_= [(0,.pointer (some ⟨b0,0,none⟩)),(2,.int .i64 ((pX t).1:Int)),(3,.int .i64 ((pX t).2:Int)),(4,.int .u64 ((tuP a t).2.toNat:Int)),(11,.int .i64 (t:Int))]∧hp_= [N0,R]∧24- t=ms_∧(t≤24)∧(Blk N0 b0 e0 (u64s (tuP a t).1++T))) ?_ aZ ⟨0,N0,rfl,rfl,rfl,by omega,B0⟩ ?_)))))))))))
 ·repeat first|apply cW|exact .nil|exact lkI rfl (by omega)|rfl
 rintro _ _ _ ⟨t,N0,rfl,rfl,rfl,ht,B0⟩
 have hal:=(tuP_len a t).trans ha
 have hx:=pX_lt t
 have hp1:(pX (t+1)).1=(pX t).2:=rfl
 have hp2:(pX (t+1)).2=(2*(pX t).1+3*(pX t).2) % 5:=rfl
 have hpos:pos (t+1)=(pX t).2+5*((2*(pX t).1+3*(pX t).2) % 5):=rfl
 have hpl:=pos_lt (t+1)
 have hm:((t:Int)+1)*((t:Int)+2)=(((t+1)*(t+2):Nat):Int):=by simp
 have hm2:(t+1)*(t+2)≤25*26:=Nat.mul_le_mul (by omega) (by omega)
 obtain⟨m,hmm⟩: ∃m,(t+1)*(t+2)=m:=⟨_,rfl⟩
 have hrot:rot t=m/2 % 64:=by rw [rot,hmm]
 rw [hmm]at hm hm2
 refine aH fun _ s_3=>aB (op_lss aN U U U (aI (s_3 (aH fun _ s_4=>cD U (fun c12=>?_) (fun c12=>?_)))))
 ·refine cG (aS (s_4 (aH fun _ s_5=>bX (aH fun _ s_6=>aB (bC U U (bV U U (aI (s_6 (aH fun _ s_7=>aB (bC U U (bC U U (op_mulI aN U U (by omega) (by omega) U (bC U U (op_mulI aN U U (by omega) (by omega) U (dD aN U U (by omega) (by omega) U (op_rem aN U U (by omega) (by omega) U (bV U U (bV U U (aI (s_7 (aH fun _ s_8=>aB (bC U U (bC U U (op_mulI aN U U (by omega) (by omega) U (dD aN U U (by omega) (by omega) U (bV U U (aI (s_8 (At.drawn [18] [0,1,2,3,4,5,6,7,8,9,11,12,13,14,15,16,10,17,18,19] (by kernel_rfl) (by kernel_rfl) (aR (cX U U U (by kernel_rfl)) U U (aR (cX U U U (by kernel_rfl)) U U (aR (cX U U U (by kernel_rfl)) U U (aR (cX U U U (by kernel_rfl)) U U (dD (cX U U U (by kernel_rfl)) U U (by omega) (by omega) U (aR (cX U U U (by kernel_rfl)) U U (dD (cX U U U (by kernel_rfl)) U U (by omega) (by omega) U ?_))))))))))))))))))))))))))))))))))))
  -- an operation that writes, not last
  refine op_mulI (cX U U U (by kernel_rfl)) U U (by rw [hm];omega) (by rw [hm];omega) U ?_
  rw [hm]
  refine op_quoI (cX U U U (by kernel_rfl)) U U (by omega) (by omega) (by omega) U (op_rem (cX U U U (by kernel_rfl)) U U (by omega) (by omega) U ?_)
  rw [show(m:Int)/2 % 64=((rot t:Nat):Int)from by omega]
  refine aR (cX U U U (by kernel_rfl)) U U (aR (cX U U U (by kernel_rfl)) U U (bH (cX U U U (by kernel_rfl)) U U (op_idxA (cX U U U (by kernel_rfl)) ae159 U U (show _=(((pos (t+1):Nat)):Int)from by omega) (by omega) U ?_)))
  refine aU (cX U U U (by kernel_rfl)) sc34 U B0 (by first|exact get64A (by omega)|rfl|exact getT (by omega)) cO U ?_
  refine bH (cX U U U (by kernel_rfl)) U U (bG (nxoa U U U) (.cons U (.cons U .nil)) (Rot_f (tuP a t).2 (rot t) (by omega)) Tryz.func166 U U (by simp) U ?_)
  rintro _ _ ⟨rfl,rfl⟩
  show At _ _ _ [N0,R] _
  refine op_idxA (cX U U U (by kernel_rfl)) ae159 U U (show _=(((pos (t+1):Nat)):Int)from by omega) (by omega) U ?_
  refine bP (nxos U U U U) sz34 U U U U U B0 (by rw [lenT];simp;omega) sel0 (fun N0 B0=>?_)
  rw [setT (by omega)]at B0
  refine cZ (cX U U U (by kernel_rfl)) U U (At.oneNil (cJ (aS (s_5 (aB (dD aN U U (by omega) (by omega) U (bC U U (aI (At.back ?_ aZ ⟨t+1,N0,rfl,rfl,rfl,by omega,B0⟩ ?_)))))))))
  ·repeat first|apply cW|exact .nil|exact lkI rfl (by omega)|rfl
  ·omega
 refine At.exit (bD (bD (dE (cQ (L1:= [N0]) U .nil U (.refl _) aZ ?_))))
 obtain rfl:t=24:=by omega
 exact⟨N0,rfl,rfl,B0⟩
theorem cutL {a m b:List Value} {k n:Nat} (ha:a.length=k) (hm:m.length=n):((a++(m++b)).drop k).take n=m:=by
 subst ha;subst hm
 rw [List.drop_left,List.take_left]
theorem all64 (l:List UInt64):(u64s l).all (·.oneCell')=true:=List.all_eq_true.2 (one_u64s l)
theorem row_cells {a:List UInt64} {T:List Value} {y:Nat} (h:y+5≤a.length):((u64s a++T).drop (0+y*1)).take 5=u64s ((a.drop y).take 5):=by
 have e:u64s a=u64s (a.take y)++(u64s ((a.drop y).take 5)++u64s (a.drop (y+5))):=by
  conv=>lhs;rw [←List.take_append_drop y a, ←List.take_append_drop 5 (a.drop y),List.drop_drop]
  simp [u64s]
 rw [e,Nat.zero_add,Nat.mul_one,List.append_assoc,List.append_assoc]
 exact cutL (by simp [u64s];omega) (by simp [u64s];omega)
set_option maxRecDepth 100000 in
set_option maxHeartbeats 1000000 in
theorem FChi_f {N:Heaplet} {b0:Nat} {e0:TypeId} {a:List UInt64} {T:List Value} (ha:a.length=25) (B0:Blk N b0 e0 (u64s a++T)):Fn Tryz.prog 152 #[.pointer (some ⟨b0,0,none⟩)] [N] [] (fun v L=> ∃M,v=.tuple #[]∧L= [M]∧Blk M b0 e0 (u64s (chP a 5)++T)):=by
 obtain⟨N0,h0⟩: ∃N0,N0=N:=⟨_,rfl⟩
 rw [←h0]at B0⊢
 refine Fn.enter (vs:= [.pointer (some ⟨b0,0,none⟩)]) Tryz.func152 U U U ?_
 intro E R hR
 change At _ _ E [N0,R] _
 refine aH fun _ s_1=>aB (bV U U (aI (s_1 (bX (At.loop (fun fr_ hp_ ms_=> ∃(k:Nat) (N0:Heaplet),fr_= [(0,.pointer (some ⟨b0,0,none⟩)),(2,.int .i64 (5*(k:Int)))]∧hp_= [N0,R]∧5- k=ms_∧(k≤5)∧(Blk N0 b0 e0 (u64s (chP a k)++T))) ?_ aZ ⟨0,N0,rfl,rfl,rfl,by omega,B0⟩ ?_)))))
 ·repeat first|apply cW|exact .nil|exact lkI rfl (by omega)|rfl
 rintro _ _ _ ⟨k,N0,rfl,rfl,rfl,hk,B0⟩
 have hal:=(chP_len a k).trans ha
 refine aH fun _ s_2=>aH fun _ s_3=>aB (bC U U (op_lss aN U U U (aI (s_3 (cD U (fun c6=>?_) (fun c6=>?_))))))
 ·refine cG (aS (s_2 (aH fun _ s_4=>bX (aH fun _ s_5=>aB (bC U U (bH aN U U (bC U U (bC U U (dD aN U U (by omega) (by omega) U (op_sliceA aN ae159 U (.some U (show _=(((5*k:Nat)):Int)from by omega)) (.some U (show _=(((5*k+5:Nat)):Int)from by omega)) .none (by omega) (by omega) (by omega) (by simp) U ?_))))))))))
  rw [if_neg (by omega)]
  have hrl:(((chP a k).drop (5*k)).take 5).length=5:=by rw [List.length_take,List.length_drop];omega
  have hrc:=row_cells (a:=chP a k) (T:=T) (y:=5*k) (by omega)
  obtain⟨row,hrow⟩: ∃row,row=((chP a k).drop (5*k)).take 5:=⟨_,rfl⟩
  rw [←hrow]at hrl hrc
  refine op_toArr aN ae223 U (by omega) U (aK (ds:=u64s row) aN ag223 U B0 hrc (by simp [u64s,hrl]) cO U ?_)
  refine bZ bT ze223 U (fun N3 b3 B3=>?_)
  change Blk N3 b3 _ [.int .u64 0,.int .u64 0,.int .u64 0,.int .u64 0,.int .u64 0]at B3
  refine bP nxQ sz223 U U U (by simp [u64s,hrl]) (all64 _) B3 (by simp [u64s,hrl]) sel0 (fun N3 B3=>?_)
  rw [setL_whole (by simp [u64s,hrl])]at B3
  refine aI (s_5 (aH fun _ s_6=>aB (bC U U (aI (s_6 (bX ?_))))))
  change Blk N0 b0 _ (u64s (chI row (chP a k) (5*k) 0)++T)at B0
  refine At.loop (fun fr_ hp_ ms_=> ∃(x:Nat) (N0:Heaplet),fr_= [(0,.pointer (some ⟨b0,0,none⟩)),(2,.int .i64 (5*(k:Int))),(3,.pointer (some ⟨b3,0,none⟩)),(17,.int .i64 (x:Int))]∧hp_= [N3,N0,R]∧5- x=ms_∧(x≤5)∧(Blk N0 b0 e0 (u64s (chI row (chP a k) (5*k) x)++T))) ?_ aZ ⟨0,N0,rfl,rfl,rfl,by omega,B0⟩ ?_
  ·repeat first|apply cW|exact .nil|exact lkI rfl (by omega)|rfl
  rintro _ _ _ ⟨x,N0,rfl,rfl,rfl,hx,B0⟩
  have hcl:=chI_len row (chP a k) (5*k) x
  refine aH fun _ s_7=>aB (op_lss aN U U U (aI (s_7 (aH fun _ s_8=>cD U (fun c18=>?_) (fun c18=>?_)))))
  ·refine cG (aS (s_8 (aH fun _ s_9=>bX (aH fun _ s_10=>aB (bC U U (bV U U (aI (s_10 (At.drawn [22] [0,1,2,3,4,5,6,7,8,9,10,11,12,13,14,15,16,17,18,19,20,21,22] (by kernel_rfl) (by kernel_rfl) (aR (cX U U U (by kernel_rfl)) U U (aR (cX U U U (by kernel_rfl)) U U (aR (cX U U U (by kernel_rfl)) U U (dD (cX U U U (by kernel_rfl)) U U (by omega) (by omega) U (aR (cX U U U (by kernel_rfl)) U U (op_idxA (cX U U U (by kernel_rfl)) ae223 U U (show _=(((x:Nat)):Int)from by omega) (by omega) U ?_)))))))))))))))
   refine aU (cX U U U (by kernel_rfl)) sc34 U B3 (by first|exact get64A (by omega)|rfl) cO U ?_
   refine aR (cX U U U (by kernel_rfl)) U U (dD (cX U U U (by kernel_rfl)) U U (by omega) (by omega) U (op_rem (cX U U U (by kernel_rfl)) U U (by omega) (by omega) U (op_idxA (cX U U U (by kernel_rfl)) ae223 U U (show _=((((x+1) % 5:Nat)):Int)from by omega) (by omega) U ?_)))
   refine aU (cX U U U (by kernel_rfl)) sc34 U B3 (by first|exact get64A (by omega)|rfl) cO U ?_
   refine op_compU (cX U U U (by kernel_rfl)) U U (aR (cX U U U (by kernel_rfl)) U U (dD (cX U U U (by kernel_rfl)) U U (by omega) (by omega) U (op_rem (cX U U U (by kernel_rfl)) U U (by omega) (by omega) U (op_idxA (cX U U U (by kernel_rfl)) ae223 U U (show _=((((x+2) % 5:Nat)):Int)from by omega) (by omega) U ?_))))
   refine aU (cX U U U (by kernel_rfl)) sc34 U B3 (by first|exact get64A (by omega)|rfl) cO U ?_
   refine op_andU (cX U U U (by kernel_rfl)) U U U (op_xorU (cX U U U (by kernel_rfl)) U U U (bH (cX U U U (by kernel_rfl)) U U (op_idxA (cX U U U (by kernel_rfl)) ae159 U U (show _=(((5*k+x:Nat)):Int)from by omega) (by omega) U ?_)))
   refine bP (nxos U U U U) sz34 U U U U U B0 (by rw [lenT];simp;omega) sel1 (fun N0 B0=>?_)
   rw [setT (by omega)]at B0
   refine At.oneNil (cJ (aS (s_9 (aB (dD aN U U (by omega) (by omega) U (bC U U (aI (bF (cH (bF (At.back ?_ aZ ⟨x+1,N0,rfl,rfl,rfl,by omega,B0⟩ ?_)))))))))))
   ·repeat first|apply cW|exact .nil|exact lkI rfl (by omega)|rfl
   ·omega
  refine At.exit (bD (bD (dE (cJ (aS (s_4 (aB ?_)))))))
  obtain rfl:x=5:=by omega
  rw [hrow]at B0
  refine bC U U (dD aN U U (by omega) (by omega) U (bV U U (aI (dropAt0 (At.back ?_ aZ ⟨k+1,N0,rfl,rfl,rfl,by omega,B0⟩ ?_)))))
  ·repeat first|apply cW|exact .nil|exact lkI rfl (by omega)|rfl
  ·omega
 refine At.exit (bD (bD (dE (cQ (L1:= [N0]) U .nil U (.refl _) aZ ?_))))
 obtain rfl:k=5:=by omega
 exact⟨N0,rfl,rfl,B0⟩
set_option maxRecDepth 100000 in
set_option maxHeartbeats 1000000 in
theorem FConst_f:Fn Tryz.prog 149 #[] [] [] (fun v L=>v=.agg (u64s rcL).toArray∧L= []):=by
 refine Fn.enter (vs:= []) Tryz.func149 U U U ?_
 intro E R hR
 change At _ _ E [R] _
 refine aH fun _ s_1=>aB (bZ bT ze208 U (fun N0 b0 B0=>?_))
 change Blk N0 b0 _ [.int .u64 0,.int .u64 0,.int .u64 0,.int .u64 0,.int .u64 0,.int .u64 0,.int .u64 0,.int .u64 0,.int .u64 0,.int .u64 0,.int .u64 0,.int .u64 0,.int .u64 0,.int .u64 0,.int .u64 0,.int .u64 0,.int .u64 0,.int .u64 0,.int .u64 0,.int .u64 0,.int .u64 0,.int .u64 0,.int .u64 0,.int .u64 0]at B0
 change Blk N0 b0 _ (u64s (List.replicate 24 0))at B0
 refine aI (s_1 (aH fun _ s_2=>aB (bZ bT ze208 U (fun N1 b1 B1=>?_))))
 change Blk N1 b1 _ [.int .u64 0,.int .u64 0,.int .u64 0,.int .u64 0,.int .u64 0,.int .u64 0,.int .u64 0,.int .u64 0,.int .u64 0,.int .u64 0,.int .u64 0,.int .u64 0,.int .u64 0,.int .u64 0,.int .u64 0,.int .u64 0,.int .u64 0,.int .u64 0,.int .u64 0,.int .u64 0,.int .u64 0,.int .u64 0,.int .u64 0,.int .u64 0]at B1
 change Blk N1 b1 _ (u64s (cN (7*0)))at B1
 refine aI (s_2 (aH fun _ s_3=>aB (bV U U (aI (s_3 (aH fun _ s_4=>aH fun _ s_5=>aB (bC U U (aI (s_5 (bX (At.loop (fun fr_ hp_ ms_=> ∃(i:Nat) (N1:Heaplet),fr_= [(0,.pointer (some ⟨b0,0,none⟩)),(1,.pointer (some ⟨b1,0,none⟩)),(2,.int .u8 (rI (7*i))),(6,.int .i64 (i:Int))]∧hp_= [N1,N0,R]∧24- i=ms_∧(i≤24)∧(Blk N1 b1 208 (u64s (cN (7*i))))) ?_ aZ ⟨0,N1,rfl,rfl,rfl,by omega,B1⟩ ?_)))))))))))
 ·repeat first|apply cW|exact .nil|exact lkI rfl (by omega)|rfl
 rintro _ _ _ ⟨i,N1,rfl,rfl,rfl,hi,B1⟩
 refine aH fun _ s_6=>aB (op_lss aN U U U (aI (s_6 (aH fun _ s_7=>cD U (fun c7=>?_) (fun c7=>?_)))))
 ·refine cG (aS (s_7 (aH fun _ s_8=>bX (aH fun _ s_9=>aB (bC U U (bV U U (aI (s_9 (aH fun _ s_10=>aB (bC U U (aI (s_10 (bX (At.loop (fun fr_ hp_ ms_=> ∃(j:Nat) (N1:Heaplet),fr_= [(0,.pointer (some ⟨b0,0,none⟩)),(1,.pointer (some ⟨b1,0,none⟩)),(2,.int .u8 (rI (7*i+j))),(3,.int .i64 (i:Int)),(6,.int .i64 (i:Int)),(9,.int .i64 (j:Int))]∧hp_= [N1,N0,R]∧7- j=ms_∧(j≤7)∧(Blk N1 b1 208 (u64s (cN (7*i+j))))) ?_ aZ ⟨0,N1,rfl,rfl,rfl,by omega,B1⟩ ?_))))))))))))))
  ·repeat first|apply cW|exact .nil|exact lkI rfl (by omega)|rfl
  rintro _ _ _ ⟨j,N1,rfl,rfl,rfl,hj,B1⟩
  have hcl:=cN_len (7*i+j)
  obtain⟨hr0,hr1,hr2⟩:=rI_ok ⟨7*i+j,by omega⟩
  simp only at hr0 hr1 hr2
  refine aH fun _ s_11=>aB (op_lss aN U U U (aI (s_11 (aH fun _ s_12=>cD U (fun c10=>?_) (fun c10=>?_)))))
  ·refine cG (aS (s_12 (aH fun _ s_13=>bX (aH fun _ s_14=>aB (bC U U (bV U U (aI (s_14 (aH fun _ s_15=>At.drawn [12] [0,1,2,3,4,5,6,7,8,9,10,11,12] (by kernel_rfl) (by kernel_rfl) (aR (cX U U U (by kernel_rfl)) U U (op_idxA (cX U U U (by kernel_rfl)) ae208 U U (show _=(((i:Nat)):Int)from by omega) (by omega) U ?_)))))))))))
   refine aU (cX U U U (by kernel_rfl)) sc34 U B1 (by first|exact get64A (by omega)|rfl) cO U ?_
   refine aR (cX U U U (by kernel_rfl)) U U (op_bits (by simp) (cX U U U (by kernel_rfl)) U U U (op_conv64 (cX U U U (by kernel_rfl)) (und_some Tryz.underlying5) Tryz.underlying34 U (show _=((((bits .and .u8 (rI (7*i+j)) 1).toNat:Nat)):Int)from by omega) U ?_))
   refine aR (cX U U U (by kernel_rfl)) U U (op_shlU (a:=1) (cX U U U (by kernel_rfl)) U U (show _=(((j:Nat)):Int)from by omega) U ?_)
   refine op_subU (b:=1) (cX U U U (by kernel_rfl)) U U U (op_shlU (cX U U U (by kernel_rfl)) U U (show _=((((shl64 1 j- 1).toNat:Nat)):Int)from by omega) U ?_)
   refine op_orU (cX U U U (by kernel_rfl)) U U U (op_idxA (cX U U U (by kernel_rfl)) ae208 U U (show _=(((i:Nat)):Int)from by omega) (by omega) U ?_)
   refine bP (nxos U U U U) sz34 U U U U U B1 (by simp<;>omega) sel0 (fun N1 B1=>?_)
   rw [set64A]at B1
   refine At.oneNil (aS (s_15 (aH fun _ s_16=>aB (bC U U (op_shrW aN U U (by omega) (by omega) U (bV U U (aI (s_16 (aB (bC U U (op_shlW aN U U (by omega) U (bC U U (op_mulW aN U U U (op_bits (by simp) aN U U U (bV U U (cE (cJ (aS (s_13 (aB (dD aN U U (by omega) (by omega) U (bC U U (aI ?_)))))))))))))))))))))))
   refine At.back ?_ aZ ⟨j+1,N1,rfl,rfl,rfl,by omega,by rw [show 7*i+(j+1)=(7*i+j)+1 by omega,cN,cStep,show(7*i+j)/7=i by omega,show(7*i+j) % 7=j by omega];exact B1⟩ ?_
   ·repeat first|apply cW|exact .nil|exact lkI rfl (by omega)|rfl
   ·omega
  refine At.exit (bD (bD (dE (cJ (aS (s_8 (aB ?_)))))))
  obtain rfl:j=7:=by omega
  change Blk N1 b1 _ (u64s (cN (7*(i+1))))at B1
  refine dD aN U U (by omega) (by omega) U (bC U U (aI (At.back ?_ aZ ⟨i+1,N1,rfl,rfl,rfl,by omega,B1⟩ ?_)))
  ·repeat first|apply cW|exact .nil|exact lkI rfl (by omega)|rfl
  ·omega
 refine At.exit (bD (bD (dE (aS (s_4 (aH fun _ s_17=>aB ?_))))))
 obtain rfl:i=24:=by omega
 change Blk N1 b1 _ (u64s rcL)at B1
 have hrl:rcL.length=24:=cN_len 168
 refine aK (ds:=u64s rcL) aN ag208 U B1 (by rw [List.drop_zero,List.take_of_length_le (by simp [u64s,hrl])]) (by simp [u64s,hrl]) cO U ?_
 refine bP nxQ sz208 U U U (by simp [u64s,hrl]) (all64 _) B0 (by simp [u64s,hrl]) sel1 (fun N0 B0=>?_)
 rw [setL_whole (by simp [u64s,hrl])]at B0
 refine aI (s_17 (cK ((cT (cF (L1:= []) U (.cell U (res_agg (ds:=u64s rcL) ag208 B0 (by rw [List.drop_zero,List.take_of_length_le (by simp [u64s,hrl])]) (by simp [u64s,hrl]) cO) .nil) (.cons _ (.refl _)) aZ ?_)))))
 exact⟨rfl,rfl⟩
set_option maxRecDepth 100000 in
set_option maxHeartbeats 1000000 in
theorem FPermute_f {N:Heaplet} {b0:Nat} {e0:TypeId} {a:List UInt64} {T:List Value} (ha:a.length=25) (B0:Blk N b0 e0 (u64s a++T)):Fn Tryz.prog 118 #[.pointer (some ⟨b0,0,none⟩)] [N] [] (fun v L=> ∃M,v=.tuple #[]∧L= [M]∧Blk M b0 e0 (u64s (prm a 24)++T)):=by
 obtain⟨N0,h0⟩: ∃N0,N0=N:=⟨_,rfl⟩
 rw [←h0]at B0⊢
 have hrl:rcL.length=24:=cN_len 168
 refine Fn.enter (vs:= [.pointer (some ⟨b0,0,none⟩)]) Tryz.func118 U U U ?_
 intro E R hR
 change At _ _ E [N0,R] _
 refine aH fun _ s_1=>aB (bG bT .nil (FConst_f) Tryz.func149 U U (by simp) U ?_)
 rintro _ _ ⟨rfl,rfl⟩
 show At _ _ _ [N0,R] _
 refine bC U U (aI (s_1 (bX ?_)))
 change Blk N0 b0 _ (u64s (prm a 0)++T)at B0
 refine At.loop (fun fr_ hp_ ms_=> ∃(k:Nat) (N0:Heaplet),fr_= [(0,.pointer (some ⟨b0,0,none⟩)),(4,.agg (u64s rcL).toArray),(5,.int .i64 (k:Int))]∧hp_= [N0,R]∧24- k=ms_∧(k≤24)∧(Blk N0 b0 e0 (u64s (prm a k)++T))) ?_ aZ ⟨0,N0,rfl,rfl,rfl,by omega,B0⟩ ?_
 ·repeat first|apply cW|exact .nil|exact lkI rfl (by omega)|rfl
 rintro _ _ _ ⟨k,N0,rfl,rfl,rfl,hk,B0⟩
 have hal:=(prm_len a k).trans ha
 have hl1:(theta (prm a k)).length=25:=(theta_len _).trans hal
 have hl2:(tuP (theta (prm a k)) 24).1.length=25:=(tuP_len _ _).trans hl1
 have hl3:(chP (tuP (theta (prm a k)) 24).1 5).length=25:=(chP_len _ _).trans hl2
 refine aH fun _ s_2=>aB (op_lss aN U U U (aI (s_2 (aH fun _ s_3=>cD U (fun c6=>?_) (fun c6=>?_)))))
 ·refine cG (aS (s_3 (aH fun _ s_4=>bX (aH fun _ s_5=>aB ?_))))
  refine op_idxV aN ae208 sc34 U U (show _=(((k:Nat)):Int)from by omega) (by omega) (by rw [List.getElem?_toArray];exact get64 (by omega)) U ?_
  refine bV U U (aI (s_5 (aH fun _ s_6=>aB (bC U U (cR nxQ (.cons U .nil) (FTheta_f hal B0) (F:= [R]) Tryz.func150 U U aZ (by simp) U ?_)))))
  rintro _ _ ⟨N0,rfl,rfl,B0⟩
  show At _ _ _ [N0,R] _
  refine aI (s_6 (aH fun _ s_7=>aB (bC U U (cR nxQ (.cons U .nil) (FTurn_f hl1 B0) (F:= [R]) Tryz.func151 U U aZ (by simp) U ?_))))
  rintro _ _ ⟨N0,rfl,rfl,B0⟩
  show At _ _ _ [N0,R] _
  refine aI (s_7 (aH fun _ s_8=>aB (bC U U (cR nxQ (.cons U .nil) (FChi_f hl2 B0) (F:= [R]) Tryz.func152 U U aZ (by simp) U ?_))))
  rintro _ _ ⟨N0,rfl,rfl,B0⟩
  show At _ _ _ [N0,R] _
  obtain⟨q,hq⟩: ∃q,chP (tuP (theta (prm a k)) 24).1 5=q:=⟨_,rfl⟩
  rw [hq]at B0 hl3
  refine aI (s_8 (At.drawn [8] [0,1,2,3,4,5,6,7,8] (by kernel_rfl) (by kernel_rfl) (aR (cX U U U (by kernel_rfl)) U U (bH (cX U U U (by kernel_rfl)) U U (op_idxA (cX U U U (by kernel_rfl)) ae159 U U (show _=(((0:Nat)):Int)from by omega) (by omega) U ?_)))))
  refine aU (cX U U U (by kernel_rfl)) sc34 U B0 (by first|exact get64A (by omega)|rfl|exact getT (by omega)) cO U ?_
  refine aR (cX U U U (by kernel_rfl)) U U (op_xorU (cX U U U (by kernel_rfl)) U U U (bH (cX U U U (by kernel_rfl)) U U (op_idxA (cX U U U (by kernel_rfl)) ae159 U U (show _=(((0:Nat)):Int)from by omega) (by omega) U ?_)))
  refine bP (nxos U U U U) sz34 U U U U U B0 (by rw [lenT];simp;omega) sel0 (fun N0 B0=>?_)
  rw [setT (by omega)]at B0
  refine At.oneNil (cJ (aS (s_4 (aB (dD aN U U (by omega) (by omega) U (bC U U (aI ?_)))))))
  refine At.back ?_ aZ ⟨k+1,N0,rfl,rfl,rfl,by omega,by rw [prm,kRound,hq];exact B0⟩ ?_
  ·repeat first|apply cW|exact .nil|exact lkI rfl (by omega)|rfl
  ·omega
 refine At.exit (bD (bD (dE (cQ (L1:= [N0]) U .nil U (.refl _) aZ ?_))))
 obtain rfl:k=24:=by omega
 exact⟨N0,rfl,rfl,B0⟩
theorem or128 (x:UInt8):bits .or .u8 (x.toNat:Int) 128=((x |||128).toNat:Int):=by
 have h: ∀i:Fin 256,bits .or .u8 (i.1:Int) 128=(((UInt8.ofNat i.1)|||128).toNat:Int):=by decide+kernel
 have e:UInt8.ofNat x.toNat=x:=by
  apply UInt8.toNat_inj.1
  rw [UInt8.toNat_ofNat'];exact Nat.mod_eq_of_lt x.toNat_lt
 have:=h ⟨x.toNat,x.toNat_lt⟩
 simp only [e]at this
 exact this
theorem all8 (l:List UInt8):(u8s l).all (·.oneCell')=true:=List.all_eq_true.2 (one_u8s l)
theorem blk8 {N:Heaplet} {b:Nat} {e:TypeId} {L:List UInt8} {k:Nat} (h:Blk N b e (u8s L)) (hk:L.length=k) (hm:k≤9223372036854775807):RSl N 1 (some ⟨b,0+0*1,none⟩) (k- 0) (k- 0) (u8s L):=by
 refine⟨by simp [u8s,hk],Nat.le_refl _,by unfold maxLen;omega,fun h0=>⟨b,0,rfl,h.rng⟩⟩
set_option maxRecDepth 100000 in
set_option maxHeartbeats 1000000 in
theorem FAbsorb_f {N M:Heaplet} {b0:Nat} {e0:TypeId} {a:List UInt64} {T:List Value} {ao:Option Addr} {n cap:Nat} {l:List UInt8} (ha:a.length=25) (B0:Blk N b0 e0 (u64s a++T)) (hb:RSl M 1 ao n cap (u8s l)) (hn:n=136):Fn Tryz.prog 103 #[.pointer (some ⟨b0,0,none⟩),.slice ao n cap] [N] [M] (fun v L=> ∃M,v=.tuple #[]∧L= [M]∧Blk M b0 e0 (u64s (absorb a l)++T)):=by
 obtain⟨N0,h0⟩: ∃N0,N0=N:=⟨_,rfl⟩
 rw [←h0]at B0⊢
 have hlen:=hb.len8
 have hcap:=hb.cap63
 refine Fn.enter (vs:= [.pointer (some ⟨b0,0,none⟩),.slice ao n cap]) Tryz.func103 U U U ?_
 intro E R hR
 have hb:=hb.le (hR M (by simp))
 change At _ _ E [N0,R] _
 refine aH fun _ s_1=>aH fun _ s_2=>aB (bC U U (dB aN se37 U U (bC U U (aI (s_2 (bX ?_))))))
 change Blk N0 b0 _ (u64s (abI a l 0)++T)at B0
 refine At.loop (fun fr_ hp_ ms_=> ∃(i:Nat) (N0:Heaplet),fr_= [(0,.pointer (some ⟨b0,0,none⟩)),(6,.slice ao n cap),(7,.int .i64 (n:Int)),(8,.int .i64 (i:Int))]∧hp_= [N0,R]∧136- i=ms_∧(i≤136)∧(Blk N0 b0 e0 (u64s (abI a l i)++T))) ?_ aZ ⟨0,N0,rfl,rfl,rfl,by omega,B0⟩ ?_
 ·repeat first|apply cW|exact .nil|exact lkI rfl (by omega)|rfl
 rintro _ _ _ ⟨i,N0,rfl,rfl,rfl,hi,B0⟩
 have hal:=(abI_len a l i).trans ha
 refine aH fun _ s_3=>aB (op_lss aN U U U (aI (s_3 (aH fun _ s_4=>cD U (fun c9=>?_) (fun c9=>?_)))))
 ·refine cG (aS (s_4 (aH fun _ s_5=>bX (aH fun _ s_6=>aB (bC U U (op_idx1 aN se37 U U hb (show _=(((i:Nat)):Int)from by omega) (by omega) U ?_))))))
  refine op_loadE aN sc5 U hb (by first|exact get8 (by omega)|exact get64 (by omega)|exact get32 (by omega)) (by simp) U ?_
  refine bV U U (bV U U (aI (s_6 (At.drawn [15] [0,1,2,3,4,5,6,7,8,9,10,11,12,13,14,15] (by kernel_rfl) (by kernel_rfl) (aR (cX U U U (by kernel_rfl)) U U (aR (cX U U U (by kernel_rfl)) U U (op_quoI (cX U U U (by kernel_rfl)) U U (by omega) (by omega) (by omega) U (bH (cX U U U (by kernel_rfl)) U U (op_idxA (cX U U U (by kernel_rfl)) ae159 U U (show _=(((i/8:Nat)):Int)from by omega) (by omega) U ?_)))))))))
  refine aU (cX U U U (by kernel_rfl)) sc34 U B0 (by first|exact get64A (by omega)|rfl|exact getT (by omega)) cO U ?_
  refine aR (cX U U U (by kernel_rfl)) U U (op_conv64 (cX U U U (by kernel_rfl)) (und_some Tryz.underlying5) Tryz.underlying34 U (show _=((((l.getD i 0).toNat:Nat)):Int)from by omega) U ?_)
  refine aR (cX U U U (by kernel_rfl)) U U (op_rem (cX U U U (by kernel_rfl)) U U (by omega) (by omega) U (op_mulI (cX U U U (by kernel_rfl)) U U (by omega) (by omega) U (op_shlU (cX U U U (by kernel_rfl)) U U (show _=(((i % 8*8:Nat)):Int)from by omega) U ?_)))
  refine op_xorU (cX U U U (by kernel_rfl)) U U U (bH (cX U U U (by kernel_rfl)) U U (op_idxA (cX U U U (by kernel_rfl)) ae159 U U (show _=(((i/8:Nat)):Int)from by omega) (by omega) U ?_))
  refine bP (nxos U U U U) sz34 U U U U U B0 (by rw [lenT];simp;omega) sel0 (fun N0 B0=>?_)
  rw [setT (by omega)]at B0
  refine At.oneNil (cJ (aS (s_5 (aB (dD aN U U (by omega) (by omega) U (bC U U (aI (At.back ?_ aZ ⟨i+1,N0,rfl,rfl,rfl,by omega,B0⟩ ?_))))))))
  ·repeat first|apply cW|exact .nil|exact lkI rfl (by omega)|rfl
  ·omega
 refine At.exit (bD (bD (dE (aS (s_1 (aB ?_))))))
 obtain rfl:i=136:=by omega
 refine bC U U (cR nxQ (.cons U .nil) (FPermute_f hal B0) (F:= [R]) Tryz.func118 U U aZ (by simp) U ?_)
 rintro _ _ ⟨N0,rfl,rfl,B0⟩
 show At _ _ _ [N0,R] _
 refine cE (cQ (L1:= [N0]) U .nil U (.refl _) aZ ?_)
 exact⟨N0,rfl,rfl,B0⟩
set_option maxRecDepth 100000 in
theorem FNew_f:Fn Tryz.prog 102 #[] [] [] (fun v L=> ∃M b e,v=.pointer (some ⟨b,0,none⟩)∧L= [M]∧Blk M b e (u64s (List.replicate 25 0)++ [.slice none 0 0])):=by
 refine Fn.enter (vs:= []) Tryz.func102 U U U ?_
 intro E R hR
 change At _ _ E [R] _
 refine aH fun _ s_1=>aB (bV U U (aI (s_1 (aH fun _ s_2=>aB (op_build (out:= [.int .u64 0,.int .u64 0,.int .u64 0,.int .u64 0,.int .u64 0,.int .u64 0,.int .u64 0,.int .u64 0,.int .u64 0,.int .u64 0,.int .u64 0,.int .u64 0,.int .u64 0,.int .u64 0,.int .u64 0,.int .u64 0,.int .u64 0,.int .u64 0,.int .u64 0,.int .u64 0,.int .u64 0,.int .u64 0,.int .u64 0,.int .u64 0,.int .u64 0,.slice none 0 0]) aN ze161 pl161 .nil U U (cU bT U U U (fun N2 b2 B2=>bV U U (aI (s_2 (cK ((cF (L1:= [N2]) U (.tmp U .nil) (.refl _) aZ ?_))))))))))))
 exact⟨N2,b2,_,rfl,rfl,B2⟩
theorem copy_last {r:List UInt8} {o k:Nat} (ho:o=0) (hk:k=r.length) (hr:r.length≤136):(u8s (List.replicate 136 0)).take o++(u8s r).take k++(u8s (List.replicate 136 0)).drop (o+k)=u8s (r++List.replicate (136- r.length) 0):=by
 subst ho;subst hk
 rw [List.take_zero,List.nil_append,Nat.zero_add,List.take_of_length_le (by simp [u8s]),show u8s (List.replicate 136 0)=List.replicate 136 (vb 0)from List.map_replicate,List.drop_replicate,u8s,u8s,List.map_append,List.map_replicate]
theorem padZ_len {r:List UInt8} (hr:r.length<136):(r++List.replicate (136- r.length) 0).length=136:=by
 rw [List.length_append,List.length_replicate];omega
theorem padL_len {r:List UInt8} (hr:r.length<136):(padL r).length=136:=by
 unfold padL
 simp only [List.length_set]
 exact padZ_len hr
theorem zeBlk:zer Tryz.prog 182=some (.agg (u8s (List.replicate 136 0)).toArray):=by kernel_rfl
set_option maxRecDepth 100000 in
set_option maxHeartbeats 2000000 in
theorem FSum_f {N M:Heaplet} {b0:Nat} {e0:TypeId} {a:List UInt64} {ao:Option Addr} {n cap:Nat} {r:List UInt8} (ha:a.length=25) (B0:Blk N b0 e0 (u64s a++ [.slice ao n cap])) (hb:RSl M 1 ao n cap (u8s r)) (hn:n<136):Fn Tryz.prog 104 #[.pointer (some ⟨b0,0,none⟩)] [N] [M] (fun v L=>v=.agg (u8s (ouI (absorb a (padL r)) 32)).toArray∧L= []):=by
 obtain⟨N0,h0⟩: ∃N0,N0=N:=⟨_,rfl⟩
 rw [←h0]at B0⊢
 have hlen:=hb.len8
 have hcap:=hb.cap63
 have hrest:(u64s a++ [Value.slice ao n cap])[0+25]? =some (.slice ao n cap):=by
  rw [List.getElem?_append_right (by simp [u64s,ha]),show 0+25- (u64s a).length=0 by simp [u64s,ha]];rfl
 have hlan:((u64s a++ [Value.slice ao n cap]).drop (0+0)).take 25=u64s a:=by
  rw [List.drop_zero,List.take_append_of_le_length (by simp [u64s,ha]),List.take_of_length_le (by simp [u64s,ha])]
 have hpz:=padZ_len (r:=r) (by omega)
 have hpl:=padL_len (r:=r) (by omega)
 obtain⟨A,hA⟩: ∃A,absorb a (padL r)=A:=⟨_,rfl⟩
 have hAl:A.length=25:=by rw [←hA,absorb_len];exact ha
 refine Fn.enter (vs:= [.pointer (some ⟨b0,0,none⟩)]) Tryz.func104 U U U ?_
 intro E R hR
 have hb:=hb.le (hR M (by simp))
 change At _ _ E [N0,R] _
 refine aH fun _ s_1=>aB (bZ bT ze44 U (fun N2 b2 B2=>?_))
 change Blk N2 b2 _ [.int .u8 0,.int .u8 0,.int .u8 0,.int .u8 0,.int .u8 0,.int .u8 0,.int .u8 0,.int .u8 0,.int .u8 0,.int .u8 0,.int .u8 0,.int .u8 0,.int .u8 0,.int .u8 0,.int .u8 0,.int .u8 0,.int .u8 0,.int .u8 0,.int .u8 0,.int .u8 0,.int .u8 0,.int .u8 0,.int .u8 0,.int .u8 0,.int .u8 0,.int .u8 0,.int .u8 0,.int .u8 0,.int .u8 0,.int .u8 0,.int .u8 0,.int .u8 0]at B2
 refine aI (s_1 (aH fun _ s_2=>aB (bZ bT zeBlk U (fun N3 b3 B3=>?_))))
 change Blk N3 b3 _ (u8s (List.replicate 136 0))at B3
 refine aI (s_2 (aH fun _ s_3=>At.drawn [5] [0,1,2,3,4,5] (by kernel_rfl) (by kernel_rfl) (op_sliceA (cX U U U (by kernel_rfl)) ae182 U .none .none .none (by omega) (by omega) (by omega) (by simp) U (aR (cX U U U (by kernel_rfl)) U U (bH (cX U U U (by kernel_rfl)) U U (aJ (cX U U U (by kernel_rfl)) fl161_1 U U (aU (cX U U U (by kernel_rfl)) sc37 U B0 (by first|rfl|exact hrest) mem2 U ?_)))))))
 refine op_copyB (nxos rfl rfl rfl rfl) se37 rfl rfl B3 hb (by simp) (by first|exact one_u8s _|exact one_u64s _|exact one_u32s _|(intro u hu;simp at hu;subst hu;rfl)) (by simp [u8s];omega) sel0 rfl (fun N3 B3=>?_)
 rw [copy_last rfl (by omega) (by omega)]at B3
 refine At.oneNil (aS (s_3 (aH fun _ s_4=>aB (bC U U (bH aN U U (aJ aN fl161_1 U U (aU aN sc37 U B0 (by first|rfl|exact hrest) mem2 U ?_)))))))
 refine dB aN se37 U U (op_idxA aN ae182 U U (show _=(((n:Nat)):Int)from by omega) (by omega) U ?_)
 refine bP nxQ sz5 U U U U U B3 (by simp [u8s];omega) sel0 (fun N3 B3=>?_)
 rw [show Value.int .u8 1=.int .u8 ((1:UInt8).toNat:Int)from rfl,set8A]at B3
 obtain⟨z,hz⟩: ∃z,(r++List.replicate (136- r.length) 0).set n 1=z:=⟨_,rfl⟩
 have hzl:z.length=136:=by rw [←hz,List.length_set];exact hpz
 have hpad:padL r=z.set 135 (z.getD 135 0 |||128):=by rw [←hz,padL,hlen]
 rw [hz]at B3
 refine aI (s_4 (aH fun _ s_5=>aB (op_idxA aN ae182 U U (show _=(((135:Nat)):Int)from by omega) (by omega) U ?_)))
 refine aU aN sc5 U B3 (get8A (by omega)) (by simp) U (op_bits (by simp) aN U U U ?_)
 rw [or128]
 refine op_idxA aN ae182 U U (show _=(((135:Nat)):Int)from by omega) (by omega) U ?_
 refine bP nxQ sz5 U U U U U B3 (by simp [u8s];omega) sel0 (fun N3 B3=>?_)
 rw [set8A, ←hpad]at B3
 refine aI (s_5 (aH fun _ s_6=>aB (bC U U (bH aN U U (aJ aN fl161_0 U U (aK (ds:=u64s a) aN ag159 U B0 hlan (by simp [u64s,ha]) (by simp) U ?_))))))
 refine bZ bT ze159 U (fun N4 b4 B4=>?_)
 change Blk N4 b4 _ [.int .u64 0,.int .u64 0,.int .u64 0,.int .u64 0,.int .u64 0,.int .u64 0,.int .u64 0,.int .u64 0,.int .u64 0,.int .u64 0,.int .u64 0,.int .u64 0,.int .u64 0,.int .u64 0,.int .u64 0,.int .u64 0,.int .u64 0,.int .u64 0,.int .u64 0,.int .u64 0,.int .u64 0,.int .u64 0,.int .u64 0,.int .u64 0,.int .u64 0]at B4
 refine bP nxQ sz159 U U U (by simp [u64s,ha]) (all64 _) B4 (by simp [u64s,ha]) sel0 (fun N4 B4=>?_)
 rw [setL_whole (by simp [u64s,ha]), ←List.append_nil (u64s a)]at B4
 refine aI (s_6 (aH fun _ s_7=>aB (op_sliceA aN ae182 U .none .none .none (by omega) (by omega) (by omega) (by simp) U ?_)))
 have sL:=blk8 B3 hpl (by omega)
 refine cR nxQ (.cons U (.cons U .nil)) (FAbsorb_f ha B4 sL U) (F:= [N3,N2,N0,R]) Tryz.func103 U U aZ (by simp) U ?_
 rintro _ _ ⟨N4,rfl,rfl,B4⟩
 show At _ _ _ [N4,N3,N2,N0,R] _
 rw [List.append_nil,hA]at B4
 refine aI (s_7 (aH fun _ s_8=>aB (bZ bT ze44 U (fun N5 b5 B5=>?_))))
 change Blk N5 b5 _ [.int .u8 0,.int .u8 0,.int .u8 0,.int .u8 0,.int .u8 0,.int .u8 0,.int .u8 0,.int .u8 0,.int .u8 0,.int .u8 0,.int .u8 0,.int .u8 0,.int .u8 0,.int .u8 0,.int .u8 0,.int .u8 0,.int .u8 0,.int .u8 0,.int .u8 0,.int .u8 0,.int .u8 0,.int .u8 0,.int .u8 0,.int .u8 0,.int .u8 0,.int .u8 0,.int .u8 0,.int .u8 0,.int .u8 0,.int .u8 0,.int .u8 0,.int .u8 0]at B5
 change Blk N5 b5 _ (u8s (ouI A 0))at B5
 refine aI (s_8 (aH fun _ s_9=>aH fun _ s_10=>aB (bC U U (aI (s_10 (bX (dropAt4 (dropAt2 (At.loop (fun fr_ hp_ ms_=> ∃(i:Nat) (N5:Heaplet),fr_= [(2,.pointer (some ⟨b2,0,none⟩)),(4,.pointer (some ⟨b4,0,none⟩)),(5,.pointer (some ⟨b5,0,none⟩)),(29,.int .i64 (i:Int))]∧hp_= [N5,N4,N2,R]∧32- i=ms_∧(i≤32)∧(Blk N5 b5 44 (u8s (ouI A i)))) ?_ aZ ⟨0,N5,rfl,rfl,rfl,by omega,B5⟩ ?_)))))))))
 ·repeat first|apply cW|exact .nil|exact lkI rfl (by omega)|rfl
 rintro _ _ _ ⟨i,N5,rfl,rfl,rfl,hi,B5⟩
 have hol:=ouI_len A i
 refine aH fun _ s_11=>aB (op_lss aN U U U (aI (s_11 (aH fun _ s_12=>cD U (fun c30=>?_) (fun c30=>?_)))))
 ·refine cG (aS (s_12 (aH fun _ s_13=>bX (aH fun _ s_14=>aB (bC U U (bV U U (aI (s_14 (aB (bC U U (bC U U (op_quoI aN U U (by omega) (by omega) (by omega) U (op_idxA aN ae159 U U (show _=(((i/8:Nat)):Int)from by omega) (by omega) U ?_)))))))))))))
  refine aU aN sc34 U B4 (get64A (by omega)) (by simp) U (bC U U (op_rem aN U U (by omega) (by omega) U (op_mulI aN U U (by omega) (by omega) U (op_shrU aN U U (show _=(((i % 8*8:Nat)):Int)from by omega) U ?_))))
  refine op_conv8 aN (und_some Tryz.underlying34) Tryz.underlying5 U (show _=((((shr64 (A.getD (i/8) 0) (i % 8*8)).toNat:Nat)):Int)from by omega) U ?_
  refine op_idxA aN ae44 U U (show _=(((i:Nat)):Int)from by omega) (by omega) U ?_
  refine bP nxQ sz5 U U U U U B5 (by simp<;>omega) sel0 (fun N5 B5=>?_)
  rw [set8A]at B5
  refine cE (cJ (aS (s_13 (aB (dD aN U U (by omega) (by omega) U (bC U U (aI (At.back ?_ aZ ⟨i+1,N5,rfl,rfl,rfl,by omega,B5⟩ ?_))))))))
  ·repeat first|apply cW|exact .nil|exact lkI rfl (by omega)|rfl
  ·omega
 refine At.exit (bD (bD (dE (aS (s_9 (aH fun _ s_15=>aB ?_))))))
 obtain rfl:i=32:=by omega
 obtain⟨o,ho⟩: ∃o,ouI A 32=o:=⟨_,rfl⟩
 rw [ho]at B5 hol
 refine aK (ds:=u8s o) aN ag44 U B5 (by rw [List.drop_zero,List.take_of_length_le (by simp [u8s,hol])]) (by simp [u8s,hol]) (by simp) U ?_
 refine bP nxQ sz44 U U U (by simp [u8s,hol]) (all8 _) B2 (by simp [u8s,hol]) sel2 (fun N2 B2=>?_)
 rw [setL_whole (by simp [u8s,hol])]at B2
 refine aI (s_15 (cK ((dropAt2 (cT (cF (L1:= []) U (.cell U (res_agg (ds:=u8s o) ag44 B2 (by rw [List.drop_zero,List.take_of_length_le (by simp [u8s,hol])]) (by simp [u8s,hol]) cO) .nil) (.cons _ (.refl _)) aZ ?_))))))
 exact⟨by rw [hA,ho],rfl⟩
theorem all_take {xs:List Value} {k:Nat} (h:xs.length=k):(xs.drop 0).take k=xs:=by rw [List.drop_zero,List.take_of_length_le (by omega)]
theorem len64s {l:List UInt64} {k:Nat} (h:l.length=k):(u64s l).length=k:=by simp [u64s,h]
def refX (l:List UInt8) (j:Nat):List UInt8:=l++1::List.replicate j 0
def refB (l:List UInt8) (j:Nat):List UInt8:=(refX l j).set (l.length+j) ((refX l j).getD (l.length+j) 0 |||128)
theorem len8s {l:List UInt8} {k:Nat} (h:l.length=k):(u8s l).length=k:=by simp [u8s,h]
set_option maxRecDepth 100000 in
set_option maxHeartbeats 4000000 in
theorem FKeccak_f {N:Heaplet} {ao:Option Addr} {n cap:Nat} {l:List UInt8} (hb:RSl N 1 ao n cap (u8s l)) (hn:n≤1099511627776):Fn Tryz.prog 80 #[.slice ao n cap] [] [N] (fun v L=>v=.agg (u8s (kec l)).toArray∧L= []):=by
 have hlen:=hb.len8
 have hcap:=hb.cap63
 refine Fn.enter (vs:= [.slice ao n cap]) Tryz.func80 U U U ?_
 intro E R hR
 have hb:=hb.le (hR N (by simp))
 change At _ _ E [R] _
 refine aH fun _ s_1=>aB (bZ bT ze44 U (fun N2 b2 B2=>?_))
 change Blk N2 b2 _ [.int .u8 0,.int .u8 0,.int .u8 0,.int .u8 0,.int .u8 0,.int .u8 0,.int .u8 0,.int .u8 0,.int .u8 0,.int .u8 0,.int .u8 0,.int .u8 0,.int .u8 0,.int .u8 0,.int .u8 0,.int .u8 0,.int .u8 0,.int .u8 0,.int .u8 0,.int .u8 0,.int .u8 0,.int .u8 0,.int .u8 0,.int .u8 0,.int .u8 0,.int .u8 0,.int .u8 0,.int .u8 0,.int .u8 0,.int .u8 0,.int .u8 0,.int .u8 0]at B2
 refine aI (s_1 (aH fun _ s_2=>aB (bG bT .nil (FNew_f) Tryz.func102 U U (by simp) U ?_)))
 rintro _ _ ⟨N4,b4,e4,rfl,rfl,B4⟩
 show At _ _ _ [N4,N2,R] _
 refine bV U U (aI (s_2 (aH fun _ s_3=>bX (At.loop (fun fr_ hp_ ms_=> ∃(k:Nat) (po:Option Addr) (pn pc:Nat) (N4:Heaplet),fr_= [(0,.slice po pn pc),(2,.pointer (some ⟨b2,0,none⟩)),(3,.pointer (some ⟨b4,0,none⟩))]∧hp_= [N4,N2,R]∧n- 136*k=ms_∧(136*k≤n)∧(pn=n- 136*k)∧(RSl R 1 po pn pc (u8s (l.drop (136*k))))∧(Blk N4 b4 e4 (u64s (absN l k)++ [.slice none 0 0]))) ?_ aZ ⟨0,ao,n,cap,N4,rfl,rfl,rfl,by omega,by omega,hb,B4⟩ ?_))))
 ·repeat first|apply cW|exact .nil|exact lkI rfl (by omega)|rfl
 rintro _ _ _ ⟨k,po,pn,pc,N4,rfl,rfl,rfl,hk,hpn,hp,B4⟩
 have hal:=absN_len l k
 have hpc:=hp.cap63
 refine aH fun _ s_4=>aH fun _ s_5=>aB (bC U U (dB aN se37 U U (op_geq aN U U U (aI (s_5 (cD U (fun c7=>?_) (fun c7=>?_)))))))
 ·refine cG (aS (s_4 (aH fun _ s_6=>bX (At.drawn [5] [0,1,2,3,4,5] (by kernel_rfl) (by kernel_rfl) (aR (cX U U U (by kernel_rfl)) U U (bH (cX U U U (by kernel_rfl)) U U (aJ (cX U U U (by kernel_rfl)) fl161_0 U U (aR (cX U U U (by kernel_rfl)) U U (op_slice0 (cX U U U (by kernel_rfl)) se37 U (.some U (show _=(((136:Nat)):Int)from by omega)) .none (by omega) (by omega) (by simp) U ?_)))))))))
  have s14:=hp.take8 (hi:=136) (m:=pc) (by omega) (Nat.le_refl _) (by omega)
  refine cR (nxos U U U U) (.cons U (.cons U .nil)) (FAbsorb_f hal B4 s14 U) (F:= [N2,R]) Tryz.func103 U U aZ (by simp) U ?_
  rintro _ _ ⟨N4,rfl,rfl,B4⟩
  show At _ _ _ [N4,N2,R] _
  refine At.oneNil (cJ (aS (s_6 (aB (bC U U (op_slice aN se37 U (.some U (show _=(((136:Nat)):Int)from by omega)) .none .none (by omega) (by omega) (by omega) (by simp) U ?_))))))
  refine bV U U (aI ?_)
  refine At.back ?_ aZ ⟨k+1,sadr po 136 pc 1,pn- 136,pc- 136,N4,rfl,rfl,rfl,by omega,by omega,by rw [show 136*(k+1)=136*k+136 by omega, ←List.drop_drop];exact hp.drop8 (lo:=136) (by omega),B4⟩ ?_
  ·repeat first|apply cW|exact .nil|exact lkI rfl (by omega)|rfl
  ·omega
 refine At.exit (bD (bD (dE (aS (s_3 (aH fun _ s_7=>aB (bC U U (bC U U (bH aN U U (aJ aN fl161_1 U U ?_))))))))))
 refine aU aN sc37 U B4 (by first|rfl|(rw [List.getElem?_append_right (by rw [len64s hal];decide),len64s hal];rfl)) cO U ?_
 refine bC U U ?_
 refine op_append0 bT Tryz.underlying37 Tryz.underlying37 te5 rfl rfl hp (by simp) (by first|exact one_u8s _|exact one_u64s _|exact one_u32s _|(intro u hu;simp at hu;subst hu;rfl)) (by omega) (by omega) rfl (fun N22 a22 p22 r22=>?_)
 have s22:=r22.rsl
 refine bH aN U U (aJ aN fl161_1 U U (bP nxQ sz37 U U U U U B4 (by simp [u64s,hal]) sel1 (fun N4 B4=>?_)))
 have B4:Blk N4 b4 e4 (u64s (absN l k)++ [.slice a22 pn p22]):=by
  rw [setL,setL,List.set_append_right _ _ (by rw [len64s hal];decide),len64s hal]at B4
  exact B4
 refine aI (s_7 (aH fun _ s_8=>aB (bC U U ?_)))
 have hkm:k=n/136:=by omega
 have hkec:ouI (absorb (absN l k) (padL (l.drop (136*k)))) 32=kec l:=by rw [kec,hlen, ←hkm]
 have hol:=kec_len l
 refine cR nxQ (.cons U .nil) (FSum_f hal B4 s22 (by omega)) (F:= [N22,N2,R]) Tryz.func104 U U aZ (by simp) U ?_
 rintro _ _ ⟨rfl,rfl⟩
 show At _ _ _ [N22,N2,R] _
 rw [hkec]
 refine bP nxQ sz44 U U U (len8s hol) (all8 _) B2 (by rw [len8s hol];simp) sel1 (fun N2 B2=>?_)
 rw [setL_whole (by rw [len8s hol];simp)]at B2
 refine aI (s_8 (cK ((cT (cF (L1:= []) U (.cell U (res_agg (ds:=u8s (kec l)) ag44 B2 (all_take (len8s hol)) (len8s hol) cO) .nil) (.cons _ (.refl _)) aZ ?_)))))
 exact⟨rfl,rfl⟩
theorem WOf_f (n:UInt64):Fn Tryz.prog 84 #[.int .u64 (n.toNat:Int)] [] [] (fun v L=>v=wo n.toNat∧L= []):=by
 refine Fn.enter (vs:= [.int .u64 (n.toNat:Int)]) Tryz.func84 U U U ?_
 intro E R hR
 change At _ _ E [R] _
 refine aH fun _ s_1=>aB (bZ bT ze36 U (fun N2 b2 B2=>?_))
 change Blk N2 b2 _ [.int .u64 0,.int .u64 0,.int .u64 0,.int .u64 0]at B2
 refine aI (s_1 (aH fun _ s_2=>aB (bC U U (op_buildA (out:= [_,.int .u64 0,.int .u64 0,.int .u64 0]) aN ze36 ae36 (.cons U .nil) U U (bP nxQ sz36 U U U U U B2 (by simp) sel0 (fun N2 B2=>?_))))))
 simp only [setL,List.set]at B2
 refine aI (s_2 (cK ((cF (L1:= []) U (.cell U (res_agg (ds:= [_,_,_,_]) ag36 B2 U U cO) .nil) (.cons _ (.refl _)) aZ ?_))))
 exact⟨(wo_small n).symm,rfl⟩
def modZ (x y:Nat):Nat:=if y=0 then 0 else x % y
def HW:Nat:=2^255
def negB (x:Nat):Bool:=decide (HW≤x)
def sgn (m:Bool) (x:Nat):Nat:=if m then WW- x else x
def absW (x:Nat):Nat:=sgn (negB x) x
def BytesP (V:Nat) (v:Value) (L:List Heaplet):Prop:=
 ∃M a c,v=.slice a (bytesOf V).length c∧L= [M]∧Row M 5 1 a (bytesOf V).length c (u8s (bytesOf V))
section
variable {N M : Heaplet} {ao bo : Option Addr} {n m ca cb : Nat} {a b : List UInt8}
def SubP (A B:Nat) (v:Value) (L:List Heaplet):Prop:=
 ∃M p c,v=.tuple #[.slice p (bytesOf (A- B)).length c,.bool (decide (B≤A))]∧L= [M]∧Row M 5 1 p (bytesOf (A- B)).length c (u8s (bytesOf (A- B)))
def DivModP (A B:Nat) (v:Value) (L:List Heaplet):Prop:=
 ∃M1 p1 c1 M2 p2 c2,v=.tuple #[.slice p1 (bytesOf (A/B)).length c1,.slice p2 (bytesOf (A % B)).length c2,.bool true]∧L= [M1,M2]∧Row M1 5 1 p1 (bytesOf (A/B)).length c1 (u8s (bytesOf (A/B)))∧Row M2 5 1 p2 (bytesOf (A % B)).length c2 (u8s (bytesOf (A % B)))
end
theorem Blk.one {N:Heaplet} {b:Nat} {e:TypeId} {v:Value} (h:Blk N b e [v]):RSl N 1 (some ⟨b,0,none⟩) 1 1 [v]:=
 ⟨rfl,Nat.le_refl _,by decide,fun _=>⟨b,0,rfl,h.rng⟩⟩
section
variable {N M Nb Nm : Heaplet} {ao bo mo : Option Addr} {n m nm ca cb cm bb : Nat} {e : TypeId} {a b l : List UInt64}
end
section
variable {N M Nm : Heaplet} {ao bo mo : Option Addr} {n m nm ca cb cm : Nat} {a b l : List UInt8}
end
end Go.Proofs.YtalmjkcapecpiaaGreat
