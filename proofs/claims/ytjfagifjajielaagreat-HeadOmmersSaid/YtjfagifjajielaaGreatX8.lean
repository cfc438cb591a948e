/- Several texts in one: see the remarks ahead of each part. No condition but those told there. -/
import Derived.Test.YtjfagifjajielaaGreatX1
import Derived.Test.YtjfagifjajielaaGreatX4
import Derived.Test.YtjfagifjajielaaGreatX7
import Derived.Test.YtjfagifjajielaaGreatX5
import Derived.Test.YtjfagifjajielaaGreatX6
import Derived.Deep.Strs
set_option linter.unusedSimpArgs false
set_option linter.unusedVariables false
namespace Go.Proofs.YtjfagifjajielaaGreat
open Go Go.RowKit
theorem u32_zero {x:UInt32} (h:(x.toNat:Int)=0):x=0:=by rw [←UInt32.toNat_inj];simpa using h
theorem trim32_f {N:Heaplet} {ao:Option Addr} {n cap:Nat} {l:List UInt32} (h:RSl N 1 ao n cap (u32s l)):
 Fn Tryz.prog 150 #[.slice ao n cap] [] [N] (fun v L=>v=.slice ao (digsOf (v32 l)).length cap∧L= []∧l.take (digsOf (v32 l)).length=digsOf (v32 l)∧(digsOf (v32 l)).length≤n):=by
 have hlen:=h.len32
 have hcap:=h.cap63
 refine Fn.enter (vs:= [.slice ao n cap]) Tryz.func150 U U U ?_
 intro E R hR
 have h:=h.le (hR N (by simp))
 change At _ _ E [R] _
 refine aC fun _ s_1=>aA (aG U U (aB (s_1 (aC fun _ s_2=>aA (aF U U (bG aD se168 U U (aG U U (aB (s_2 (aC fun _ s_3=>aT ?_))))))))))
 refine cF (fun fr_ hp_ ms_=> ∃(k:Nat),fr_= [(0,.slice ao n cap),(3,.int .i64 (k:Int))]∧hp_= [R]∧k=ms_∧(k≤n)∧(∀i,k≤i→l.getD i 0=0)) ?_ aM ⟨n,rfl,rfl,rfl,Nat.le_refl _,fun i hi=>by rw [List.getD_eq_getElem?_getD,List.getElem?_eq_none (by omega)];rfl⟩ ?_
 ·repeat first|apply bD|exact .nil|exact lkI rfl (by omega)|rfl
 rintro _ _ _ ⟨k,rfl,rfl,rfl,hk,hz⟩
 refine aC fun _ s_4=>aC fun _ s_5=>aA (aF U U (op_gtr aD U U U (aF U U (cJ (d:=8) U (fun g8=>?_) (fun g8=>?_)))))
 ·refine aL (cL U U U U) U U (aL (cL U U U U) U U (op_subI (cL U U U U) U U (by omega) (by omega) U (bU (cL U U U U) se168 U U (by assumption) (show _=(((k- 1:Nat)):Int)from by omega) (by omega) U ?_)))
  refine cC (cL U U U U) sc172 U (by assumption) (by first|exact get8 (by omega)|exact get64 (by omega)|exact get32 (by omega)) (by simp) U ?_
  refine op_eql (cL U U U U) U U U (bO aD U U U (aB (s_5 (aO U (fun c15=>?_) (fun c15=>?_)))))
  ·refine aQ (aE (s_4 (aT (aA (aF U U (op_subI aD U U (by omega) (by omega) U (aG U U (At.opsNil (a0 (aE ?_))))))))))
   refine bQ ?_ aM ⟨k- 1,rfl,rfl,rfl,by omega,fun i hi=>by rcases Nat.lt_or_ge i k with h|h;(rw [show i=k- 1 by omega];exact u32_zero c15);exact hz i h⟩ ?_
   ·repeat first|apply bD|exact .nil|exact lkI rfl (by omega)|rfl
   ·omega
  refine bW (aK (aK (bH (aE (s_3 (aC fun _ s_6=>aA (aF U U (aF U U (op_slice0 aD se168 U (.some U (show _=(((k:Nat)):Int)from by omega)) .none (by omega) (by omega) (by simp) U ?_)))))))))
  refine aG U U (aB (s_6 (aR ((aW (L1:= []) U (.tmp U .nil) (.refl _) aM ?_)))))
  have ⟨e1,e2⟩:=trim_len32 (by omega) hz (.inr ⟨by omega,fun e=>c15 (by rw [e];rfl)⟩);rw [e2];exact⟨rfl,rfl,e1,hk⟩
 refine aU U U U U U U U (aU U U U U U U U (aU U U U U U U U (aU U U U U U U U (aU U U U U U U U (aU U U U U U U U (cB aD U U U (aB (s_5 (At.condF U (bW (aK (aK (bH (aE (s_3 (aC fun _ s_7=>aA (aF U U (aF U U (op_slice0 aD se168 U (.some U (show _=(((k:Nat)):Int)from by omega)) .none (by omega) (by omega) (by simp) U ?_)))))))))))))))))))
 refine aG U U (aB (s_7 (aR ((aW (L1:= []) U (.tmp U .nil) (.refl _) aM ?_)))))
 have ⟨e1,e2⟩:=trim_len32 (by omega) hz (.inl (by omega));rw [e2];exact⟨rfl,rfl,e1,hk⟩
theorem Of32_f (x:UInt64):Fn Tryz.prog 100 #[.int .u64 (x.toNat:Int)] [] [] (fun v L=> ∃M a cap,v=.slice a (digsOf x.toNat).length cap∧L= [M]∧RSl M 1 a (digsOf x.toNat).length cap (u32s (digsOf x.toNat))):=by
 refine Fn.enter (vs:= [.int .u64 (x.toNat:Int)]) Tryz.func100 U U U ?_
 intro E R hR
 change At _ _ E [R] _
 refine aC fun _ s_1=>aA (aG U U (aB (s_1 (aC fun _ s_2=>aA (aF U U (op_conv32 aD (und_some Tryz.underlying24) Tryz.underlying172 U (by first|rfl|exact(Int.toNat_of_nonneg (by omega)).symm) U ?_))))))
 refine aF U U (op_shrU aD U U (show _=((32:Nat):Int)from U) U (op_conv32 aD (und_some Tryz.underlying24) Tryz.underlying172 U (by first|rfl|exact(Int.toNat_of_nonneg (by omega)).symm) U ?_))
 refine op_lit aZ Tryz.underlying168 ze172 sz172 (.cons U (.cons U .nil)) U U (by simp [Value.cells]) U U U (fun N8 a8 r8=>?_)
 simp only [flatV,List.flatMap_cons,List.flatMap_nil,Value.cells,List.append_nil,List.cons_append,List.nil_append]at r8
 have s8:=r8.rsl
 refine aH aZ (.cons U .nil) (trim32_f (l:= [UInt32.ofNat x.toNat,UInt32.ofNat (shr64 x 32).toNat]) s8) Tryz.func150 U U (by simp) U ?_
 rintro _ _ ⟨rfl,rfl,e1,e2⟩
 show At _ _ _ [N8,R] _
 rw [v32_two]at e1 e2⊢
 have s9:=s8.take e2 (Nat.le_refl _) e2
 refine aG U U (aB (s_2 (aR ((aW (L1:= [N8]) U (.tmp U .nil) (.refl _) aM (⟨N8,a8,2,rfl,rfl,?_⟩))))))
 have e:List.take ((digsOf x.toNat).length*1) [Value.int IntKind.u32 ↑(UInt32.ofNat x.toNat).toNat,Value.int IntKind.u32 ↑(UInt32.ofNat (shr64 x 32).toNat).toNat]=u32s (digsOf x.toNat):=by
  rw [Nat.mul_one, ←e1, ←u32s_take,e1];rfl
 rw [e]at s9
 exact s9
theorem Bytes32_f {N:Heaplet} {ao:Option Addr} {n cap:Nat} {l:List UInt32} (h:RSl N 1 ao n cap (u32s l)) (hn:n≤17592186044416):
 Fn Tryz.prog 171 #[.slice ao n cap] [] [N] (fun v L=> ∃M a cap,v=.slice a (bytesOf (v32 l)).length cap∧L= [M]∧Row M 5 1 a (bytesOf (v32 l)).length cap (u8s (bytesOf (v32 l)))):=by
 have hlen:=h.len32
 have hcap:=h.cap63
 have hlim:v32 l<256^(4*n):=by
  rw [show(256:Nat)=2^8 from rfl, ←Nat.pow_mul,show 8*(4*n)=32*l.length from by omega];exact v32_lt l
 have hb4: ∀j,(bytesOf (v32 l/256^j)).length≤4*n:=fun j=>by
  rw [length_bytesOf];exact byteLen_le.2 (Nat.lt_of_le_of_lt (Nat.div_le_self _ _) hlim)
 refine Fn.enter (vs:= [.slice ao n cap]) Tryz.func171 U U U ?_
 intro E R hR
 have h:=h.le (hR N (by simp))
 change At _ _ E [R] _
 refine aC fun _ s_1=>aA (aG U U (aB (s_1 (aC fun _ s_2=>aA (aG U U (aB (s_2 (aC fun _ s_3=>aC fun _ s_4=>aA (aF U U (bG aD se168 U U (op_mulI aD U U (by omega) (by omega) U (op_subI aD U U (by omega) (by omega) U (aG U U (aB (s_4 (aT (At.empty ?_)))))))))))))))))
 refine cF (fun fr_ hp_ ms_=> ∃(j:Nat) (ap:Option Addr) (np cp:Nat) (Np:Heaplet),fr_= [(0,.slice ao n cap),(3,.slice ap np cp),(4,.int .i64 ((j:Int)- 1))]∧hp_= [Np,R]∧j=ms_∧(j≤4*n)∧(np=(bytesOf (v32 l/256^j)).length)∧(Row Np 5 1 ap np cp (u8s (bytesOf (v32 l/256^j))))) ?_ aM ⟨4*n,none,0,0,nilH,rfl,rfl,rfl,Nat.le_refl _,by rw [Nat.div_eq_of_lt hlim];rfl,by rw [Nat.div_eq_of_lt hlim];exact Row.nil _ _ _⟩ ?_
 ·repeat first|apply bD|exact .nil|exact lkI rfl (by omega)|rfl
 rintro _ _ _ ⟨j,ap,np,cp,Np,rfl,rfl,rfl,hj,hnp,rp⟩
 have hb:=hb4 j
 refine aC fun _ s_5=>aC fun _ s_6=>aA (aF U U (op_geq aD U U U (aB (s_6 (aO U (fun c11=>?_) (fun c11=>?_))))))
 ·have hbyte:=byte32_at (l:=l) (i:=j- 1) (by omega)
  obtain⟨i,hi⟩: ∃i,j=i+1:=⟨j- 1,by omega⟩
  have hj1:j- 1=i:=by omega
  have hj1':j=i+1:=hi
  have hst:(0<np∨(UInt8.ofNat (shr32 (l.getD ((j- 1)/4) 0) (8*((j- 1) % 4))).toNat).toNat≠0)→bytesOf (v32 l/256^(j- 1))=bytesOf (v32 l/256^j)++ [UInt8.ofNat (shr32 (l.getD ((j- 1)/4) 0) (8*((j- 1) % 4))).toNat]:=fun hh=>by
   rw [hbyte]at hh⊢
   rw [hnp]at hh
   rw [hj1,hj1']at*
   exact bytesOf_down (down_ne hh)
  refine aQ (aE (s_5 (aC fun _ s_7=>aT (aC fun _ s_8=>aA (aF U U (aF U U (op_quoI aD U U (by omega) (by omega) (by omega) U (bU aD se168 U U (by assumption) (show _=((((j- 1)/4:Nat)):Int)from by omega) (by omega) U ?_))))))))
  refine cC aD sc172 U (by assumption) (by first|exact get8 (by omega)|exact get64 (by omega)|exact get32 (by omega)) (by simp) U ?_
  refine aF U U (op_rem aD U U (by omega) (by omega) U (op_mulI aD U U (by omega) (by omega) U (op_shrU32 aD U U (show _=(((8*((j- 1) % 4):Nat)):Int)from by omega) U ?_)))
  refine op_conv8 aD (und_some Tryz.underlying172) Tryz.underlying5 U (by first|rfl|exact(Int.toNat_of_nonneg (by omega)).symm) U ?_
  refine aG U U (aB (s_8 (aC fun _ s_9=>aA (aF U U (bG aD se22 U U (op_gtr aD U U U (aF U U (cJ (d:=27) U (fun g27=>?_) (fun g27=>?_)))))))))
  ·refine aU U U U U U U U (aU U U U U U U U (bO aD U U U (aB (s_9 (At.condT U (aA (aF U U (aF U U (op_lit aZ Tryz.underlying22 ze5 sz5 (.cons U .nil) U U (by simp [Value.cells]) U U U (fun N33 a33 r33=>?_))))))))))
   simp only [flatV,List.flatMap_cons,List.flatMap_nil,Value.cells,List.append_nil,List.cons_append,List.nil_append]at r33
   have s33:=r33.rsl
   refine op_append nxQ Tryz.underlying22 Tryz.underlying22 te5 rfl rfl rp (by assumption) (by simp) (by first|exact one_u8s _|exact one_u64s _|exact one_u32s _|(intro u hu;simp at hu;subst hu;rfl)) (by omega) (by omega) sel1 rfl (fun N34 a34 p34 r34=>?_)
   have s34:=r34.rsl
   refine aG U U (At.opsNil (a0 (aE (s_7 (aA (aF U U (op_subI aD U U (by omega) (by omega) U (aG U U (aB (a7 ?_))))))))))
   refine bQ ?_ aM ⟨j- 1,a34,np+1,p34,N34,rfl,rfl,rfl,by omega,by rw [hst (.inl (by omega)),List.length_append,hnp];rfl,by rw [hst (.inl (by omega)),u8s,List.map_append];exact r34⟩ ?_
   ·repeat first|apply bD|exact .nil|exact lkI rfl (by omega)|rfl
   ·omega
  refine aL (cL U U U U) U U (op_neq (cL U U U U) U U U (cB aD U U U (aB (s_9 (aO U (fun c30=>?_) (fun c30=>?_))))))
  ·refine aA (aF U U (aF U U (op_lit aZ Tryz.underlying22 ze5 sz5 (.cons U .nil) U U (by simp [Value.cells]) U U U (fun N33 a33 r33=>?_))))
   simp only [flatV,List.flatMap_cons,List.flatMap_nil,Value.cells,List.append_nil,List.cons_append,List.nil_append]at r33
   have s33:=r33.rsl
   refine op_append nxQ Tryz.underlying22 Tryz.underlying22 te5 rfl rfl rp (by assumption) (by simp) (by first|exact one_u8s _|exact one_u64s _|exact one_u32s _|(intro u hu;simp at hu;subst hu;rfl)) (by omega) (by omega) sel1 rfl (fun N34 a34 p34 r34=>?_)
   have s34:=r34.rsl
   refine aG U U (At.opsNil (a0 (aE (s_7 (aA (aF U U (op_subI aD U U (by omega) (by omega) U (aG U U (aB (a7 ?_))))))))))
   refine bQ ?_ aM ⟨j- 1,a34,np+1,p34,N34,rfl,rfl,rfl,by omega,by rw [hst (.inr (by omega)),List.length_append,hnp];rfl,by rw [hst (.inr (by omega)),u8s,List.map_append];exact r34⟩ ?_
   ·repeat first|apply bD|exact .nil|exact lkI rfl (by omega)|rfl
   ·omega
  refine aQ (a0 (aE (s_7 (aA (aF U U (op_subI aD U U (by omega) (by omega) U (aG U U (aB ?_))))))))
  have hc0: ¬(UInt8.ofNat (v32 l/256^(j- 1))).toNat≠0:=by rw [←hbyte];omega
  have hl0: ¬0<(bytesOf (v32 l/256^(i+1))).length:=by rw [←hj1', ←hnp];omega
  rw [hj1]at hc0
  refine bQ ?_ aM ⟨j- 1,ap,np,cp,Np,rfl,rfl,rfl,by omega,by rw [hj1,down_eq hl0 hc0, ←hj1'];exact hnp,by rw [hj1,down_eq hl0 hc0, ←hj1'];exact rp⟩ ?_
  ·repeat first|apply bD|exact .nil|exact lkI rfl (by omega)|rfl
  ·omega
 refine bW (aK (aK (bH (aE (s_3 (aC fun _ s_10=>aA (aF U U (aG U U (aB (s_10 (aR ((aW (L1:= [Np]) U (.tmp U .nil) (.refl _) aM ?_)))))))))))))
 obtain rfl:j=0:=by omega
 rw [Nat.pow_zero,Nat.div_one]at hnp rp
 subst hnp
 exact⟨Np,ap,cp,rfl,rfl,rp⟩
theorem ofNat_shl32 (x:UInt8) (m:Nat):shl32 (UInt32.ofNat x.toNat) m=UInt32.ofNat (x.toNat*2^m):=shl32_of _ (by have:=x.toNat_lt;omega) m
theorem rFrom_f {N:Heaplet} {ao:Option Addr} {n cap:Nat} {l:List UInt8} (h:RSl N 1 ao n cap (u8s l)) (hn:n≤140737488351232):
 Fn Tryz.prog 149 #[.slice ao n cap] [] [N] (fun v L=> ∃M a c,v=.slice a (digsOf (be l)).length c∧L= [M]∧RSl M 1 a (digsOf (be l)).length c (u32s (digsOf (be l)))):=by
 have hlen:=h.len8
 have hcap:=h.cap63
 refine Fn.enter (vs:= [.slice ao n cap]) Tryz.func149 U U U ?_
 intro E R hR
 have h:=h.le (hR N (by simp))
 change At _ _ E [R] _
 refine aC fun _ s_1=>aA (aG U U (aB (s_1 (aC fun _ s_2=>aA (aF U U (bG aD se22 U U (a6 aD U U (by omega) (by omega) U (op_quoI aD U U (by omega) (by omega) (by omega) U ?_))))))))
 refine op_make aZ Tryz.underlying168 te172 U U (show _=((((n+3)/4:Nat)):Int)from by omega) (show _=((((n+3)/4:Nat)):Int)from by omega) (by omega) (by unfold maxLen;omega) U (fun N10 a10 r10=>?_)
 rw [made_one _ _ rfl,zero_u32s]at r10
 have s10:=r10.rsl
 refine aG U U (aB (s_2 (aC fun _ s_3=>aC fun _ s_4=>aA (aG U U (aB (s_4 (aT (cF (fun fr_ hp_ ms_=> ∃(k:Nat) (Nq:Heaplet),fr_= [(0,.slice ao n cap),(3,.slice a10 ((n+3)/4) ((n+3)/4)),(4,.int .i64 (k:Int))]∧hp_= [Nq,R]∧n- k=ms_∧(k≤n)∧(Row Nq 172 1 a10 ((n+3)/4) ((n+3)/4) (u32s (rfromSt l k)))) ?_ aM ⟨0,N10,rfl,rfl,rfl,by omega,by simpa [rfromSt,hlen]using r10⟩ ?_))))))))
 ·repeat first|apply bD|exact .nil|exact lkI rfl (by omega)|rfl
 rintro _ _ _ ⟨k,Nq,rfl,rfl,rfl,hk,rq⟩
 have sq:=rq.rsl
 have hlq:=sq.len32
 refine aC fun _ s_5=>aC fun _ s_6=>aA (aF U U (aF U U (bG aD se22 U U (op_lss aD U U U (aB (s_6 (aO U (fun c14=>?_) (fun c14=>?_))))))))
 ·refine aQ (aE (s_5 (aC fun _ s_7=>aT (aC fun _ s_8=>aA (aF U U (bG aD se22 U U (op_subI aD U U (by omega) (by omega) U (aF U U (op_subI aD U U (by omega) (by omega) U (aG U U (aB (s_8 (At.drawn [19] [0,1,2,3,4,5,6,7,8,9,10,11,12,13,14,15,16,17,18,19] (by kernel_rfl) (by kernel_rfl) (aL (aS U U U (by kernel_rfl)) U U (aL (aS U U U (by kernel_rfl)) U U (op_quoI (aS U U U (by kernel_rfl)) U U (by omega) (by omega) (by omega) U (aL (aS U U U (by kernel_rfl)) U U (aL (aS U U U (by kernel_rfl)) U U (op_quoI (aS U U U (by kernel_rfl)) U U (by omega) (by omega) (by omega) U (bU (aS U U U (by kernel_rfl)) se168 U U (by assumption) (show _=(((k/4:Nat)):Int)from by omega) (by omega) U ?_))))))))))))))))))))
  refine cC (aS U U U (by kernel_rfl)) sc172 U (by assumption) (by first|exact get8 (by omega)|exact get64 (by omega)|exact get32 (by omega)) (by simp) U ?_
  refine aL (aS U U U (by kernel_rfl)) U U (aL (aS U U U (by kernel_rfl)) U U (bU (aS U U U (by kernel_rfl)) se22 U U (by assumption) (show _=(((n- 1- k:Nat)):Int)from by omega) (by omega) U ?_))
  refine cC (aS U U U (by kernel_rfl)) sc5 U (by assumption) (by first|exact get8 (by omega)|exact get64 (by omega)|exact get32 (by omega)) (by simp) U ?_
  refine op_conv32 (aS U U U (by kernel_rfl)) (und_some Tryz.underlying5) Tryz.underlying172 U (by first|rfl|exact(Int.toNat_of_nonneg (by omega)).symm) U ?_
  refine aL (aS U U U (by kernel_rfl)) U U (op_rem (aS U U U (by kernel_rfl)) U U (by omega) (by omega) U (op_mulI (aS U U U (by kernel_rfl)) U U (by omega) (by omega) U (op_shlU32 (aS U U U (by kernel_rfl)) U U (show _=(((8*(k % 4):Nat)):Int)from by omega) U ?_)))
  refine op_orU32 (aS U U U (by kernel_rfl)) U U U (bU (aS U U U (by kernel_rfl)) se168 U U (by assumption) (show _=(((k/4:Nat)):Int)from by omega) (by omega) U ?_)
  refine op_storeE (nxos U U U U) sz172 U U U U U rq (by simp<;>omega) (by simp) sel0 (fun Nq rq=>?_)
  simp only [setL]at rq
  have sq:=rq.rsl
  refine cG (a0 (aE (s_7 (aA (aF U U (a6 aD U U (by omega) (by omega) U (aG U U (aB ?_))))))))
  refine bQ ?_ aM ⟨k+1,Nq,rfl,rfl,rfl,by omega,by rw [rfromSt,rfromStep,hlen, ←ofNat_shl32, ←set_u32s];exact rq⟩ ?_
  ·repeat first|apply bD|exact .nil|exact lkI rfl (by omega)|rfl
  ·omega
 refine bW (aK (aK (bH (aE (s_3 (aC fun _ s_9=>aA (aF U U (aH aZ (.cons U .nil) (trim32_f sq) Tryz.func150 U U (by simp) U ?_))))))))
 rintro _ _ ⟨rfl,rfl,e1,e2⟩
 show At _ _ _ [Nq,R] _
 refine aG U U (aB (s_9 (aR ((aW (L1:= [Nq]) U (.tmp U .nil) (.refl _) aM ?_)))))
 obtain rfl:k=l.length:=by omega
 rw [rfromSt_all]at e1 e2⊢
 have h2:=sq.take e2 (Nat.le_refl _) e2
 rw [Nat.mul_one,u32s_take,e1]at h2
 exact⟨Nq,a10,_,rfl,rfl,h2⟩
def cmpI (x y:Nat):Int:=if x<y then-1 else if y<x then 1 else 0
theorem digs_lt {x y:Nat} (h:(digsOf x).length<(digsOf y).length):x<y:=by
 rw [length_digsOf,length_digsOf]at h
 rcases Nat.lt_or_ge x y with h1|h1
 ·exact h1
 ·have:=bitLen_mono h1;omega
theorem digs_eq_len {x y:Nat} (h:(digsOf x).length=(digsOf y).length):x/2^(32*(digsOf x).length)=y/2^(32*(digsOf x).length):=by
 have h1:=v32_lt (digsOf x)
 have h2:=v32_lt (digsOf y)
 rw [v32_digsOf]at h1 h2
 rw [Nat.div_eq_of_lt h1,h,Nat.div_eq_of_lt h2]
theorem digs_at {x j:Nat} (h:j<(digsOf x).length):x/2^(32*j)=x/2^(32*(j+1))*2^32+((digsOf x).getD j 0).toNat:=by
 have e:=dig_v32 h
 rw [v32_digsOf]at e
 rw [List.getD_eq_getElem?_getD,List.getElem?_eq_getElem h,Option.getD_some, ←e,show 32*(j+1)=32*j+32 by omega,Nat.pow_add, ←Nat.div_div_eq_div_mul]
 omega
theorem lt_of_div {x y p:Nat} (h:x/p<y/p):x<y:=by
 rcases Nat.lt_or_ge x y with h1|h1
 ·exact h1
 ·have:=Nat.div_le_div_right (c:=p) h1;omega
theorem cmpI_le {x y:Nat} :cmpI x y≤0↔x≤y:=by
 unfold cmpI
 split
 ·omega
 ·split<;>omega
theorem Cmp32_f {N M:Heaplet} {ax ay:Option Addr} {nx ny cx cy x y:Nat} (hx:RSl N 1 ax nx cx (u32s (digsOf x))) (hy:RSl M 1 ay ny cy (u32s (digsOf y))):
 Fn Tryz.prog 99 #[.slice ax nx cx,.slice ay ny cy] [] [N,M] (fun v L=>v=.int .i64 (cmpI x y)∧L= []):=by
 have lx:=hx.len32
 have ly:=hy.len32
 have hcx:=hx.cap63
 have hcy:=hy.cap63
 refine Fn.enter (vs:= [.slice ax nx cx,.slice ay ny cy]) Tryz.func99 U U U ?_
 intro E R hR
 have hx:=hx.le (hR N (by simp))
 have hy:=hy.le (hR M (by simp))
 change At _ _ E [R] _
 refine aC fun _ s_1=>aA (aG U U (aB (s_1 (aC fun _ s_2=>aC fun _ s_3=>aA (aF U U (bG aD se168 U U (aF U U (bG aD se168 U U (op_neq aD U U U (aB (s_3 (aO U (fun c10=>?_) (fun c10=>?_)))))))))))))
 ·refine aC fun _ s_4=>aC fun _ s_5=>aA (aF U U (bG aD se168 U U (aF U U (bG aD se168 U U (op_lss aD U U U (aB (s_5 (aO U (fun c15=>?_) (fun c15=>?_)))))))))
  ·refine aC fun _ s_6=>aA (aG U U (aB (s_6 (aR (aJ (aJ ((aW (L1:= []) U (.tmp U .nil) (.refl _) aM ?_))))))))
   have:= @digs_lt x y (by omega);exact⟨by rw [cmpI,if_pos this],rfl⟩
  refine aQ (aE (s_4 (aC fun _ s_7=>aA (aG U U (aB (s_7 (aR (aJ ((aW (L1:= []) U (.tmp U .nil) (.refl _) aM ?_))))))))))
  have:= @digs_lt y x (by omega);exact⟨by rw [cmpI,if_neg (by omega),if_pos this],rfl⟩
 refine aQ (aE (s_2 (aC fun _ s_8=>aC fun _ s_9=>aA (aF U U (bG aD se168 U U (op_subI aD U U (by omega) (by omega) U (aG U U (aB (s_9 (aT ?_))))))))))
 refine cF (fun fr_ hp_ ms_=> ∃(j:Nat),fr_= [(0,.slice ax nx cx),(1,.slice ay ny cy),(5,.int .i64 ((j:Int)- 1))]∧hp_= [R]∧j=ms_∧(j≤nx)∧(x/2^(32*j)=y/2^(32*j))) ?_ aM ⟨nx,rfl,rfl,rfl,Nat.le_refl _,by have e:=digs_eq_len (x:=x) (y:=y) (by omega);rwa [lx]at e⟩ ?_
 ·repeat first|apply bD|exact .nil|exact lkI rfl (by omega)|rfl
 rintro _ _ _ ⟨j,rfl,rfl,rfl,hj,hd⟩
 have hat:0<j→x/2^(32*(j- 1))=x/2^(32*j)*2^32+((digsOf x).getD (j- 1) 0).toNat∧y/2^(32*(j- 1))=y/2^(32*j)*2^32+((digsOf y).getD (j- 1) 0).toNat:=fun h0=>by
  have e1:=digs_at (x:=x) (j:=j- 1) (by omega)
  have e2:=digs_at (x:=y) (j:=j- 1) (by omega)
  rw [show j- 1+1=j by omega]at e1 e2
  exact⟨e1,e2⟩
 refine aC fun _ s_10=>aC fun _ s_11=>aA (aF U U (op_geq aD U U U (aB (s_11 (aO U (fun c20=>?_) (fun c20=>?_))))))
 ·refine aQ (aE (s_10 (aC fun _ s_12=>aT (aC fun _ s_13=>aC fun _ s_14=>At.drawn [] [0,1,2,3,4,5,6,7,8] (by kernel_rfl) (by kernel_rfl) (aL (aS U U U (by kernel_rfl)) U U (aL (aS U U U (by kernel_rfl)) U U (bU (aS U U U (by kernel_rfl)) se168 U U (by assumption) (show _=(((j- 1:Nat)):Int)from by omega) (by omega) U ?_)))))))
  refine cC (aS U U U (by kernel_rfl)) sc172 U (by assumption) (by first|exact get8 (by omega)|exact get64 (by omega)|exact get32 (by omega)) (by simp) U ?_
  refine aL (aS U U U (by kernel_rfl)) U U (aL (aS U U U (by kernel_rfl)) U U (bU (aS U U U (by kernel_rfl)) se168 U U (by assumption) (show _=(((j- 1:Nat)):Int)from by omega) (by omega) U ?_))
  refine cC (aS U U U (by kernel_rfl)) sc172 U (by assumption) (by first|exact get8 (by omega)|exact get64 (by omega)|exact get32 (by omega)) (by simp) U ?_
  refine op_lss (aS U U U (by kernel_rfl)) U U U (cG (aE (s_14 (aO U (fun c31=>?_) (fun c31=>?_)))))
  ·refine aC fun _ s_15=>aA (aG U U (aB (s_15 (aR (aJ (b9 (aJ (aJ (b9 (aJ ((aW (L1:= []) U (.tmp U .nil) (.refl _) aM ?_))))))))))))
   have ⟨e1,e2⟩:=hat (by omega)
   have:=lt_of_div (x:=x) (y:=y) (p:=2^(32*(j- 1))) (by rw [e1,e2,hd];omega)
   exact⟨by rw [cmpI,if_pos this],rfl⟩
  refine aQ (aE (s_13 (aC fun _ s_16=>At.drawn [] [0,1,2,3,4,5,6,7,8] (by kernel_rfl) (by kernel_rfl) (aL (aS U U U (by kernel_rfl)) U U (aL (aS U U U (by kernel_rfl)) U U (bU (aS U U U (by kernel_rfl)) se168 U U (by assumption) (show _=(((j- 1:Nat)):Int)from by omega) (by omega) U ?_))))))
  refine cC (aS U U U (by kernel_rfl)) sc172 U (by assumption) (by first|exact get8 (by omega)|exact get64 (by omega)|exact get32 (by omega)) (by simp) U ?_
  refine aL (aS U U U (by kernel_rfl)) U U (aL (aS U U U (by kernel_rfl)) U U (bU (aS U U U (by kernel_rfl)) se168 U U (by assumption) (show _=(((j- 1:Nat)):Int)from by omega) (by omega) U ?_))
  refine cC (aS U U U (by kernel_rfl)) sc172 U (by assumption) (by first|exact get8 (by omega)|exact get64 (by omega)|exact get32 (by omega)) (by simp) U ?_
  refine op_gtr (aS U U U (by kernel_rfl)) U U U (cG (aE (s_16 (aO U (fun c40=>?_) (fun c40=>?_)))))
  ·refine aC fun _ s_17=>aA (aG U U (aB (s_17 (aR (b9 (aJ (aJ (b9 (aJ ((aW (L1:= []) U (.tmp U .nil) (.refl _) aM ?_)))))))))))
   have ⟨e1,e2⟩:=hat (by omega)
   have:=lt_of_div (x:=y) (y:=x) (p:=2^(32*(j- 1))) (by rw [e1,e2,hd];omega)
   exact⟨by rw [cmpI,if_neg (by omega),if_pos this],rfl⟩
  refine aQ (a0 (aE (s_12 (aA (aF U U (op_subI aD U U (by omega) (by omega) U (aG U U (aB ?_))))))))
  refine bQ ?_ aM ⟨j- 1,rfl,rfl,rfl,by omega,by have ⟨e1,e2⟩:=hat (by omega);rw [e1,e2,hd];omega⟩ ?_
  ·repeat first|apply bD|exact .nil|exact lkI rfl (by omega)|rfl
  ·omega
 refine bW (aK (aK (bH (aE (s_8 (aC fun _ s_18=>aA (aG U U (aB (s_18 (aR ((aW (L1:= []) U (.tmp U .nil) (.refl _) aM ?_))))))))))))
 obtain rfl:j=0:=by omega
 simp only [Nat.mul_zero,Nat.pow_zero,Nat.div_one]at hd
 exact⟨by rw [cmpI,if_neg (by omega),if_neg (by omega)],rfl⟩
theorem rW_f {N:Heaplet} {ao:Option Addr} {n cap:Nat} {l:List UInt32} (h:RSl N 1 ao n cap (u32s l)):
 Fn Tryz.prog 104 #[.slice ao n cap] [] [N] (fun v L=>L= []∧ ∃a b c d:UInt64,v=.agg #[.int .u64 (a.toNat:Int),.int .u64 (b.toNat:Int),.int .u64 (c.toNat:Int),.int .u64 (d.toNat:Int)]∧v64 [a,b,c,d]=v32 l % 2^256):=by
 have hlen:=h.len32
 have hcap:=h.cap63
 refine Fn.enter (vs:= [.slice ao n cap]) Tryz.func104 U U U ?_
 intro E R hR
 have h:=h.le (hR N (by simp))
 change At _ _ E [R] _
 refine aC fun _ s_1=>aA (bE aZ ze26 U (fun N2 b2 B2=>?_))
 change Blk N2 b2 _ [.int .u64 0,.int .u64 0,.int .u64 0,.int .u64 0]at B2
 refine aB (s_1 (aC fun _ s_2=>aA (bE aZ ze26 U (fun N3 b3 B3=>?_))))
 change Blk N3 b3 _ [.int .u64 0,.int .u64 0,.int .u64 0,.int .u64 0]at B3
 change Blk N3 b3 _ (u64s [0,0,0,0])at B3
 refine aB (s_2 (aC fun _ s_3=>aC fun _ s_4=>aA (aG U U (aB (s_4 (aT (bR (permSel1 (bR (cF (fun fr_ hp_ ms_=> ∃(k:Nat) (m:List UInt64) (N3:Heaplet),fr_= [(0,.slice ao n cap),(2,.pointer (some ⟨b2,0,none⟩)),(3,.pointer (some ⟨b3,0,none⟩)),(4,.int .i64 (k:Int))]∧hp_= [N2,N3,R]∧8- k=ms_∧(k≤8)∧(k≤n)∧(m.length=4)∧(v64 m=v32 (l.take k))∧(Blk N3 b3 26 (u64s m))) ?_ aM ⟨0,[0,0,0,0],N3,rfl,rfl,rfl,by omega,by omega,rfl,rfl,B3⟩ ?_))))))))))
 ·repeat first|apply bD|exact .nil|exact lkI rfl (by omega)|rfl
 rintro _ _ _ ⟨k,m,N3,rfl,rfl,rfl,hk,hkn,hm,hv,B3⟩
 refine aC fun _ s_5=>aC fun _ s_6=>aA (aF U U (op_lss aD U U U (aF U U (cJ (d:=7) U (fun g7=>?_) (fun g7=>?_)))))
 ·refine aL (cL U U U U) U U (aL (cL U U U U) U U (bG (cL U U U U) se168 U U (op_lss (cL U U U U) U U U (bO aD U U U (aB (s_6 (aO U (fun c12=>?_) (fun c12=>?_))))))))
  ·refine aQ (aE (s_5 (aC fun _ s_7=>aT (At.drawn [17] [0,1,2,3,4,5,6,7,8,9,10,11,12,13,14,15,16,17] (by kernel_rfl) (by kernel_rfl) (aL (aS U U U (by kernel_rfl)) U U (op_quoI (aS U U U (by kernel_rfl)) U U (by omega) (by omega) (by omega) U (aL (aS U U U (by kernel_rfl)) U U (op_quoI (aS U U U (by kernel_rfl)) U U (by omega) (by omega) (by omega) U (cI (aS U U U (by kernel_rfl)) ae26 U U (show _=(((k/2:Nat)):Int)from by omega) (by omega) U ?_)))))))))
   refine aV (aS U U U (by kernel_rfl)) sc24 U B3 (by first|exact get64A (by omega)|rfl) mem1 U ?_
   refine aL (aS U U U (by kernel_rfl)) U U (aL (aS U U U (by kernel_rfl)) U U (bU (aS U U U (by kernel_rfl)) se168 U U (by assumption) (show _=(((k:Nat)):Int)from by omega) (by omega) U ?_))
   refine cC (aS U U U (by kernel_rfl)) sc172 U (by assumption) (by first|exact get8 (by omega)|exact get64 (by omega)|exact get32 (by omega)) (by simp) U ?_
   refine op_conv64 (aS U U U (by kernel_rfl)) (und_some Tryz.underlying172) Tryz.underlying24 U (by first|rfl|exact(Int.toNat_of_nonneg (by omega)).symm) U ?_
   refine aL (aS U U U (by kernel_rfl)) U U (op_rem (aS U U U (by kernel_rfl)) U U (by omega) (by omega) U (op_mulI (aS U U U (by kernel_rfl)) U U (by omega) (by omega) U (op_shlU (aS U U U (by kernel_rfl)) U U (show _=(((32*(k % 2):Nat)):Int)from by omega) U ?_)))
   refine op_orU (aS U U U (by kernel_rfl)) U U U (cI (aS U U U (by kernel_rfl)) ae26 U U (show _=(((k/2:Nat)):Int)from by omega) (by omega) U ?_)
   refine aX (nxos U U U U) sz24 U U U U U B3 (by simp<;>omega) sel1 (fun N3 B3=>?_)
   rw [set64A]at B3
   refine cG (a0 (aE (s_7 (aA (aF U U (a6 aD U U (by omega) (by omega) U (aG U U (aB (bR (permSel1 (bR ?_)))))))))))
   refine bQ ?_ aM ⟨k+1,_,N3,rfl,rfl,rfl,by omega,by omega,by simpa using hm,by rw [shl64_of _ (by have:=(l.getD k 0).toNat_lt;omega)];exact w_step hm hv (by omega) (by omega),B3⟩ ?_
   ·repeat first|apply bD|exact .nil|exact lkI rfl (by omega)|rfl
   ·omega
  refine bW (aK (aK (bH (aE (s_3 (aC fun _ s_8=>aA ?_))))))
  obtain⟨a,b,c,d,rfl⟩:=four hm
  have hfin:v64 [a,b,c,d]=v32 l % 2^256:=by
   rw [hv,v32_take_mod]
   by_cases h8:k=8
   ·rw [h8]
   ·have hk':l.length≤k:=by omega
    have:=v32_lt l
    have h1:v32 l<2^(32*k):=Nat.lt_of_lt_of_le this (Nat.pow_le_pow_right (by decide) (by omega))
    have h2:v32 l<2^256:=Nat.lt_of_lt_of_le h1 (Nat.pow_le_pow_right (by decide) (by omega))
    rw [Nat.mod_eq_of_lt h1,Nat.mod_eq_of_lt h2]
  change Blk N3 b3 _ [.int .u64 (a.toNat:Int),.int .u64 (b.toNat:Int),.int .u64 (c.toNat:Int),.int .u64 (d.toNat:Int)]at B3
  refine aY (ds:= [_,_,_,_]) aD ag26 U B3 U U mem1 U (aX nxQ sz26 U U U U U B2 (by simp) sel0 (fun N2 B2=>?_))
  simp only [setL,List.set]at B2
  refine aB (s_8 (aR ((a7 (aW (L1:= []) U (.cell U (res_agg (ds:= [_,_,_,_]) ag26 B2 U U bZ) .nil) (.cons _ (.refl _)) aM ?_)))))
  exact⟨rfl,a,b,c,d,rfl,hfin⟩
 refine aU U U U U U U U (aU U U U U U U U (aU U U U U U U U (aU U U U U U U U (cB aD U U U (aB (s_6 (At.condF U (bW (aK (aK (bH (aE (s_3 (aC fun _ s_9=>aA ?_))))))))))))))
 obtain⟨a,b,c,d,rfl⟩:=four hm
 have hfin:v64 [a,b,c,d]=v32 l % 2^256:=by
  rw [hv,v32_take_mod]
  by_cases h8:k=8
  ·rw [h8]
  ·have hk':l.length≤k:=by omega
   have:=v32_lt l
   have h1:v32 l<2^(32*k):=Nat.lt_of_lt_of_le this (Nat.pow_le_pow_right (by decide) (by omega))
   have h2:v32 l<2^256:=Nat.lt_of_lt_of_le h1 (Nat.pow_le_pow_right (by decide) (by omega))
   rw [Nat.mod_eq_of_lt h1,Nat.mod_eq_of_lt h2]
 change Blk N3 b3 _ [.int .u64 (a.toNat:Int),.int .u64 (b.toNat:Int),.int .u64 (c.toNat:Int),.int .u64 (d.toNat:Int)]at B3
 refine aY (ds:= [_,_,_,_]) aD ag26 U B3 U U mem1 U (aX nxQ sz26 U U U U U B2 (by simp) sel0 (fun N2 B2=>?_))
 simp only [setL,List.set]at B2
 refine aB (s_9 (aR ((a7 (aW (L1:= []) U (.cell U (res_agg (ds:= [_,_,_,_]) ag26 B2 U U bZ) .nil) (.cons _ (.refl _)) aM ?_)))))
 exact⟨rfl,a,b,c,d,rfl,hfin⟩
theorem WBits_f (a b c d:UInt64):Fn Tryz.prog 173 #[.agg #[.int .u64 (a.toNat:Int),.int .u64 (b.toNat:Int),.int .u64 (c.toNat:Int),.int .u64 (d.toNat:Int)]] [] [] (fun v L=>v=.int .i64 (bitLen (v64 [a,b,c,d]):Nat)∧L= []):=by
 obtain⟨m,hm⟩: ∃m,m= [a,b,c,d]:=⟨_,rfl⟩
 have hm4:m.length=4:=by rw [hm];rfl
 refine Fn.enter (vs:= [.agg #[.int .u64 (a.toNat:Int),.int .u64 (b.toNat:Int),.int .u64 (c.toNat:Int),.int .u64 (d.toNat:Int)]]) Tryz.func173 U U U ?_
 intro E R hR
 change At _ _ E [R] _
 refine aC fun _ s_1=>aA (op_box aZ U U U (fun N1 b1 B1=>?_))
 change Blk N1 b1 _ (u64s [a,b,c,d])at B1
 rw [←hm]at B1⊢
 refine aG U U (aB (s_1 (aC fun _ s_2=>aC fun _ s_3=>aA (aG U U (aB (s_3 (aT (cF (fun fr_ hp_ ms_=> ∃(j:Nat),fr_= [(1,.pointer (some ⟨b1,0,none⟩)),(3,.int .i64 ((j:Int)- 1))]∧hp_= [N1,R]∧j=ms_∧(j≤4)∧(v64 m=v64 (m.take j))) ?_ aM ⟨4,rfl,rfl,rfl,by omega,by rw [List.take_of_length_le (by omega)]⟩ ?_))))))))
 ·repeat first|apply bD|exact .nil|exact lkI rfl (by omega)|rfl
 rintro _ _ _ ⟨j,rfl,rfl,rfl,hj,hv⟩
 refine aC fun _ s_4=>aC fun _ s_5=>aA (aF U U (op_geq aD U U U (aB (s_5 (aO U (fun c5=>?_) (fun c5=>?_))))))
 ·refine aQ (aE (s_4 (aC fun _ s_6=>aT (aC fun _ s_7=>aA (aF U U (cI aD ae26 U U (show _=(((j- 1:Nat)):Int)from by omega) (by omega) U ?_))))))
  refine aV aD sc24 U B1 (by first|exact get64A (by omega)|rfl) bZ U ?_
  refine op_neq aD U U U (aB (s_7 (aO U (fun c11=>?_) (fun c11=>?_))))
  ·refine aC fun _ s_8=>aA (aF U U (op_mulI aD U U (by omega) (by omega) U (aF U U (cI aD ae26 U U (show _=(((j- 1:Nat)):Int)from by omega) (by omega) U ?_))))
   refine aV aD sc24 U B1 (by first|exact get64A (by omega)|rfl) bZ U ?_
   refine aH aZ (.cons U .nil) (Len64_f (m.getD (j- 1) 0)) Tryz.func183 U U (by simp) U ?_
   rintro _ _ ⟨rfl,rfl⟩
   show At _ _ _ [N1,R] _
   have h64:=bitLen_le.2 (m.getD (j- 1) 0).toNat_lt
   refine a6 aD U U (by omega) (by omega) U (aG U U (aB (s_8 (aR (b9 (aJ (aJ (b9 (aJ ((bP (aW (L1:= []) U (.tmp U .nil) (.refl _) aM ?_))))))))))))
   exact⟨by rw [←hm,bits_at (k:=j- 1) (by omega) (by omega) (by rw [show j- 1+1=j by omega];exact hv)];congr 1;omega,rfl⟩
  refine aQ (a0 (aE (s_6 (aA (aF U U (op_subI aD U U (by omega) (by omega) U (aG U U (aB ?_))))))))
  refine bQ ?_ aM ⟨j- 1,rfl,rfl,rfl,by omega,v64_take_zero (by omega) (by omega) (by rw [show j- 1+1=j by omega];exact hv)⟩ ?_
  ·repeat first|apply bD|exact .nil|exact lkI rfl (by omega)|rfl
  ·omega
 refine bW (aK (aK (bH (aE (s_2 (aC fun _ s_9=>aA (aG U U (aB (s_9 (aR ((bP (aW (L1:= []) U (.tmp U .nil) (.refl _) aM ?_)))))))))))))
 exact⟨by rw [←hm,hv,show j=0 by omega];rfl,rfl⟩
theorem nbyte {m:List UInt64} {I K:Nat} (hm:m.length=4) (h1:1≤I) (h2:I≤4) (h3:1≤K) (h4:K≤8):UInt8.ofNat (shr64 (m.getD (I- 1) 0) (8*(K- 1))).toNat=UInt8.ofNat (v64 m/256^(31- (8*(4- I)+(8- K)))):=by
 have hq:(8*(I- 1)+(K- 1))/8<m.length:=by omega
 have e:=byte_of_limb (l:=m) (at_:=8*(I- 1)+(K- 1)) hq
 have e1:(8*(I- 1)+(K- 1))/8=I- 1:=by omega
 have e2:(8*(I- 1)+(K- 1)) % 8*8=8*(K- 1):=by omega
 simp only [e1,e2]at e
 rw [shr64,UInt64.toNat_ofNat',Nat.mod_eq_of_lt (Nat.lt_of_le_of_lt (Nat.div_le_self _ _) (UInt64.toNat_lt _)),List.getD_eq_getElem?_getD,List.getElem?_eq_getElem (by omega),Option.getD_some,e]
 congr 3
 omega
theorem rN_f (a b c d:UInt64):Fn Tryz.prog 98 #[.agg #[.int .u64 (a.toNat:Int),.int .u64 (b.toNat:Int),.int .u64 (c.toNat:Int),.int .u64 (d.toNat:Int)]] [] [] (fun v L=> ∃M p k,v=.slice p (digsOf (v64 [a,b,c,d])).length k∧L= [M]∧RSl M 1 p (digsOf (v64 [a,b,c,d])).length k (u32s (digsOf (v64 [a,b,c,d])))):=by
 obtain⟨m,hm⟩: ∃m,m= [a,b,c,d]:=⟨_,rfl⟩
 have hm4:m.length=4:=by rw [hm];rfl
 have hlt:v64 m<2^256:=by rw [hm];exact v64_four_lt a b c d
 refine Fn.enter (vs:= [.agg #[.int .u64 (a.toNat:Int),.int .u64 (b.toNat:Int),.int .u64 (c.toNat:Int),.int .u64 (d.toNat:Int)]]) Tryz.func98 U U U ?_
 intro E R hR
 change At _ _ E [R] _
 refine aC fun _ s_1=>aA (op_box aZ U U U (fun N1 b1 B1=>?_))
 change Blk N1 b1 _ (u64s [a,b,c,d])at B1
 rw [←hm]at B1⊢
 refine aG U U (aB (s_1 (aC fun _ s_2=>aA (aG U U (aB (s_2 (aC fun _ s_3=>aC fun _ s_4=>aA (aG U U (aB (s_4 (aT (At.empty (bR (permSel1 (bR (cF (fun fr_ hp_ ms_=> ∃(I:Nat) (ap:Option Addr) (np cp:Nat) (Np:Heaplet),fr_= [(1,.pointer (some ⟨b1,0,none⟩)),(3,.slice ap np cp),(4,.int .i64 ((I:Int)- 1))]∧hp_= [N1,Np,R]∧I=ms_∧(I≤4)∧(np=8*(4- I))∧(Row Np 5 1 ap np cp (u8s ((bytesN 32 (v64 m)).take (8*(4- I)))))) ?_ aM ⟨4,none,0,0,nilH,rfl,rfl,rfl,by omega,by omega,Row.nil _ _ _⟩ ?_))))))))))))))))
 ·repeat first|apply bD|exact .nil|exact lkI rfl (by omega)|rfl
 rintro _ _ _ ⟨I,ap,np,cp,Np,rfl,rfl,rfl,hI,hnp,rp⟩
 refine aC fun _ s_5=>aC fun _ s_6=>aA (aF U U (op_geq aD U U U (aB (s_6 (aO U (fun c7=>?_) (fun c7=>?_))))))
 ·refine aQ (aE (s_5 (aC fun _ s_7=>aT (aC fun _ s_8=>aA (aG U U (aB (s_8 (aT ?_))))))))
  refine cF (fun fr_ hp_ ms_=> ∃(K:Nat) (aq:Option Addr) (nq cq:Nat) (Nq:Heaplet),fr_= [(1,.pointer (some ⟨b1,0,none⟩)),(3,.slice aq nq cq),(4,.int .i64 ((I:Int)- 1)),(5,.int .i64 ((K:Int)- 1))]∧hp_= [N1,Nq,R]∧K=ms_∧(K≤8)∧(nq=8*(4- I)+(8- K))∧(Row Nq 5 1 aq nq cq (u8s ((bytesN 32 (v64 m)).take (8*(4- I)+(8- K)))))) ?_ aM ⟨8,ap,np,cp,Np,rfl,rfl,rfl,by omega,by omega,by rw [Nat.sub_self,Nat.add_zero];exact rp⟩ ?_
  ·repeat first|apply bD|exact .nil|exact lkI rfl (by omega)|rfl
  rintro _ _ _ ⟨K,aq,nq,cq,Nq,rfl,rfl,rfl,hK,hnq,rq⟩
  refine aC fun _ s_9=>aC fun _ s_10=>aA (aF U U (op_geq aD U U U (aB (s_10 (aO U (fun c11=>?_) (fun c11=>?_))))))
  ·refine aQ (aE (s_9 (aC fun _ s_11=>aT (aA (aF U U (aF U U (cI aD ae26 U U (show _=(((I- 1:Nat)):Int)from by omega) (by omega) U ?_)))))))
   refine aV aD sc24 U B1 (by first|exact get64A (by omega)|rfl) bZ U ?_
   refine aF U U (op_mulI aD U U (by omega) (by omega) U (op_shrU aD U U (show _=(((8*(K- 1):Nat)):Int)from by omega) U ?_))
   refine op_conv8 aD (und_some Tryz.underlying24) Tryz.underlying5 U (by first|rfl|exact(Int.toNat_of_nonneg (by omega)).symm) U ?_
   refine op_lit aZ Tryz.underlying22 ze5 sz5 (.cons U .nil) U U (by simp [Value.cells]) U U U (fun N22 a22 r22=>?_)
   simp only [flatV,List.flatMap_cons,List.flatMap_nil,Value.cells,List.append_nil,List.cons_append,List.nil_append]at r22
   have s22:=r22.rsl
   refine op_append nxQ Tryz.underlying22 Tryz.underlying22 te5 rfl rfl rq (by assumption) (by simp) (by first|exact one_u8s _|exact one_u64s _|exact one_u32s _|(intro u hu;simp at hu;subst hu;rfl)) (by omega) (by omega) sel2 rfl (fun N23 a23 p23 r23=>?_)
   have s23:=r23.rsl
   refine aG U U (At.opsNil (a0 (aE (s_11 (aA (aF U U (op_subI aD U U (by omega) (by omega) U (aG U U (aB (a7 (bR (permSel1 (bR ?_)))))))))))))
   refine bQ ?_ aM ⟨K- 1,a23,nq+1,p23,N23,rfl,rfl,rfl,by omega,by omega,by rw [show 8*(4- I)+(8- (K- 1))=(8*(4- I)+(8- K))+1 by omega,bytesN_take_succ (by omega),u8s,List.map_append, ←nbyte hm4 (by omega) (by omega) (by omega) (by omega)];exact r23⟩ ?_
   ·repeat first|apply bD|exact .nil|exact lkI rfl (by omega)|rfl
   ·omega
  refine bW (aK (aK (bH (a0 (aE (s_7 (aA (aF U U (op_subI aD U U (by omega) (by omega) U (aG U U (aB ?_)))))))))))
  refine bQ ?_ aM ⟨I- 1,aq,nq,cq,Nq,rfl,rfl,rfl,by omega,by omega,by rw [show 8*(4- (I- 1))=8*(4- I)+(8- K) by omega];exact rq⟩ ?_
  ·repeat first|apply bD|exact .nil|exact lkI rfl (by omega)|rfl
  ·omega
 refine bW (aK (aK (bH (aE (s_3 (aC fun _ s_12=>aA (aF U U ?_)))))))
 have sp:RSl Np 1 ap np cp (u8s (bytesN 32 (v64 m))):=by
  have e:=rp.rsl
  rwa [show I=0 by omega,List.take_of_length_le (by simp)]at e
 refine aH aZ (.cons U .nil) (rFrom_f sp (by omega)) Tryz.func149 U U (by simp) U ?_
 rintro _ _ ⟨M25,a25,c25,rfl,rfl,s25⟩
 show At _ _ _ [M25,N1,Np,R] _
 refine aG U U (aB (s_12 (aR ((cA (a7 (aW (L1:= [M25]) U (.tmp U .nil) (.refl _) aM ?_)))))))
 rw [be_bytes32 hlt]at s25⊢
 rw [←hm]
 exact⟨M25,a25,c25,rfl,rfl,s25⟩
theorem rShort_f (a b c d:UInt64):Fn Tryz.prog 154 #[.agg #[.int .u64 (a.toNat:Int),.int .u64 (b.toNat:Int),.int .u64 (c.toNat:Int),.int .u64 (d.toNat:Int)]] [] [] (fun v L=> ∃M p k,v=.slice p (bytesOf (v64 [a,b,c,d])).length k∧L= [M]∧Row M 5 1 p (bytesOf (v64 [a,b,c,d])).length k (u8s (bytesOf (v64 [a,b,c,d])))):=by
 have hdl:(digsOf (v64 [a,b,c,d])).length≤8:=by
  rw [length_digsOf]
  exact digLen_le.2 (v64_four_lt a b c d)
 refine Fn.enter (vs:= [.agg #[.int .u64 (a.toNat:Int),.int .u64 (b.toNat:Int),.int .u64 (c.toNat:Int),.int .u64 (d.toNat:Int)]]) Tryz.func154 U U U ?_
 intro E R hR
 change At _ _ E [R] _
 refine aC fun _ s_1=>aA (op_box aZ U U U (fun N1 b1 B1=>aG U U (aB (s_1 (aC fun _ s_2=>aA (aY (ds:= [_,_,_,_]) aD ag26 U B1 U U bZ U (aH aZ (.cons U .nil) (rN_f a b c d) Tryz.func98 U U (by simp) U ?_)))))))
 rintro _ _ ⟨M4,a4,c4,rfl,rfl,s4⟩
 show At _ _ _ [M4,N1,R] _
 refine aH aZ (.cons U .nil) (Bytes32_f s4 (by omega)) Tryz.func171 U U (by simp) U ?_
 rintro _ _ ⟨M5,a5,c5,rfl,rfl,r5⟩
 show At _ _ _ [M5,M4,N1,R] _
 refine aG U U (aB (s_2 (aR ((cA (a7 (aW (L1:= [M5]) U (.tmp U .nil) (.refl _) aM ?_)))))))
 rw [v32_digsOf]at r5⊢
 exact⟨M5,a5,c5,rfl,rfl,r5⟩
theorem setL_at (vs:List Value): ∀(p cs:List Value),cs.length=vs.length→setL (p++cs) p.length vs=p++vs:=by
 induction vs with
 |nil=>intro p cs h;rw [List.eq_nil_of_length_eq_zero h];rfl
 |cons v t ih=>
  intro p cs h
  match cs,h with
  |c::cs,h=>
   rw [setL]
   have e:(p++c::cs).set p.length v=(p++ [v])++cs:=by simp
   rw [e]
   have:=ih (p++ [v]) cs (by simpa using h)
   rw [List.length_append]at this
   simpa using this
theorem setL_whole {cs vs:List Value} (h:cs.length=vs.length):setL cs 0 vs=vs:=by simpa using setL_at vs [] cs h
theorem wbyte {m:List UInt64} {k:Nat} (hm:m.length=4) (h:k<32):UInt8.ofNat (shr64 (m.getD ((31- k)/8) 0) ((31- k) % 8*8)).toNat=UInt8.ofNat (v64 m/256^(31- k)):=by
 have hq:(31- k)/8<m.length:=by omega
 rw [shr64,UInt64.toNat_ofNat',Nat.mod_eq_of_lt (Nat.lt_of_le_of_lt (Nat.div_le_self _ _) (UInt64.toNat_lt _)),List.getD_eq_getElem?_getD,List.getElem?_eq_getElem hq,Option.getD_some,byte_of_limb hq]
theorem RSl.arr8 {N:Heaplet} {b lo:Nat} {e:TypeId} {L:List UInt8} (h:Blk N b e (u8s L)) (hl:L.length=32) (hlo:lo≤32):RSl N 1 (some (if 32=lo then ⟨b,0,none⟩else ⟨b,0+lo*1,none⟩)) (32- lo) (32- lo) (u8s (L.drop lo)):=by
 refine⟨by simp [u8s];omega,Nat.le_refl _,Nat.le_trans (by omega:32- lo≤32) (by decide),fun h0=>⟨b,lo,by rw [if_neg (by omega),Nat.zero_add,Nat.mul_one],?_⟩⟩
 have e:=h.rng.sub (o:=lo) (ds:=u8s (L.drop lo)) fun i hi=>by
  rw [List.getElem?_eq_getElem (by simp [u8s]at hi⊢;omega)]
  simp [u8s]
 rwa [Nat.zero_add]at e
set_option maxRecDepth 100000 in
theorem WBytes_f (a b c d:UInt64):Fn Tryz.prog 172 #[.agg #[.int .u64 (a.toNat:Int),.int .u64 (b.toNat:Int),.int .u64 (c.toNat:Int),.int .u64 (d.toNat:Int)]] [] [] (fun v L=>v=.agg (u8s (bytesN 32 (v64 [a,b,c,d]))).toArray∧L= []):=by
 obtain⟨m,hm⟩: ∃m,m= [a,b,c,d]:=⟨_,rfl⟩
 have hm4:m.length=4:=by rw [hm];rfl
 refine Fn.enter (vs:= [.agg #[.int .u64 (a.toNat:Int),.int .u64 (b.toNat:Int),.int .u64 (c.toNat:Int),.int .u64 (d.toNat:Int)]]) Tryz.func172 U U U ?_
 intro E R hR
 change At _ _ E [R] _
 refine aC fun _ s_1=>aA (op_box aZ U U U (fun N1 b1 B1=>?_))
 change Blk N1 b1 _ (u64s [a,b,c,d])at B1
 rw [←hm]at B1⊢
 refine bE aZ ze39 U (fun N2 b2 B2=>?_)
 change Blk N2 b2 _ [.int .u8 0,.int .u8 0,.int .u8 0,.int .u8 0,.int .u8 0,.int .u8 0,.int .u8 0,.int .u8 0,.int .u8 0,.int .u8 0,.int .u8 0,.int .u8 0,.int .u8 0,.int .u8 0,.int .u8 0,.int .u8 0,.int .u8 0,.int .u8 0,.int .u8 0,.int .u8 0,.int .u8 0,.int .u8 0,.int .u8 0,.int .u8 0,.int .u8 0,.int .u8 0,.int .u8 0,.int .u8 0,.int .u8 0,.int .u8 0,.int .u8 0,.int .u8 0]at B2
 refine aB (s_1 (aC fun _ s_2=>aA (bE aZ ze39 U (fun N3 b3 B3=>?_))))
 change Blk N3 b3 _ [.int .u8 0,.int .u8 0,.int .u8 0,.int .u8 0,.int .u8 0,.int .u8 0,.int .u8 0,.int .u8 0,.int .u8 0,.int .u8 0,.int .u8 0,.int .u8 0,.int .u8 0,.int .u8 0,.int .u8 0,.int .u8 0,.int .u8 0,.int .u8 0,.int .u8 0,.int .u8 0,.int .u8 0,.int .u8 0,.int .u8 0,.int .u8 0,.int .u8 0,.int .u8 0,.int .u8 0,.int .u8 0,.int .u8 0,.int .u8 0,.int .u8 0,.int .u8 0]at B3
 change Blk N3 b3 _ (u8s (List.replicate 32 0))at B3
 rw [←bytesSt_zero 32 (v64 m)]at B3
 refine aB (s_2 (aC fun _ s_3=>aC fun _ s_4=>aA (aF U U (aB (s_4 (aT (cH (permSel1 (bR (cH (cF (fun fr_ hp_ ms_=> ∃(k:Nat) (N3:Heaplet),fr_= [(1,.pointer (some ⟨b1,0,none⟩)),(2,.pointer (some ⟨b2,0,none⟩)),(3,.pointer (some ⟨b3,0,none⟩)),(6,.int .i64 (k:Int))]∧hp_= [N1,N2,N3,R]∧32- k=ms_∧(k≤32)∧(Blk N3 b3 39 (u8s (bytesSt 32 (v64 m) k)))) ?_ aM ⟨0,N3,rfl,rfl,rfl,by omega,B3⟩ ?_)))))))))))
 ·repeat first|apply bD|exact .nil|exact lkI rfl (by omega)|rfl
 rintro _ _ _ ⟨k,N3,rfl,rfl,rfl,hk,B3⟩
 have hbl:=length_bytesSt (m:=32) (N:=v64 m) hk
 refine aC fun _ s_5=>aA (op_lss aD U U U (aB (s_5 (aC fun _ s_6=>aO U (fun c7=>?_) (fun c7=>?_)))))
 ·refine aQ (aE (s_6 (aC fun _ s_7=>aT (aC fun _ s_8=>aA (aF U U (aG U U (aB (s_8 (aC fun _ s_9=>aA (aF U U (op_subI aD U U (by omega) (by omega) U (aG U U (aB (s_9 (aA (aF U U (aF U U (op_quoI aD U U (by omega) (by omega) (by omega) U (cI aD ae26 U U (show _=((((31- k)/8:Nat)):Int)from by omega) (by omega) U ?_)))))))))))))))))))
  refine aV aD sc24 U B1 (by first|exact get64A (by omega)|rfl) bZ U ?_
  refine aF U U (op_rem aD U U (by omega) (by omega) U (op_mulI aD U U (by omega) (by omega) U (op_shrU aD U U (show _=((((31- k) % 8*8:Nat)):Int)from by omega) U ?_)))
  refine op_conv8 aD (und_some Tryz.underlying24) Tryz.underlying5 U (by first|rfl|exact(Int.toNat_of_nonneg (by omega)).symm) U ?_
  refine cI aD ae39 U U (show _=(((k:Nat)):Int)from by omega) (by omega) U ?_
  refine aX nxQ sz5 U U U U U B3 (by simp<;>omega) sel2 (fun N3 B3=>?_)
  rw [set8A]at B3
  refine At.opsNil (a0 (aE (s_7 (aA (a6 aD U U (by omega) (by omega) U (aF U U (aB (cH (permSel1 (cH (cH ?_)))))))))))
  refine bQ ?_ aM ⟨k+1,N3,rfl,rfl,rfl,by omega,by rw [bytesSt_succ (by omega),show 32- 1- k=31- k by omega, ←wbyte hm4 (by omega)];exact B3⟩ ?_
  ·repeat first|apply bD|exact .nil|exact lkI rfl (by omega)|rfl
  ·omega
 refine bW (aK (aK (bH (aE (s_3 (aC fun _ s_10=>aA ?_))))))
 have hk32:k=32:=by omega
 rw [hk32,bytesSt_all]at B3
 refine aY (ds:=u8s (bytesN 32 (v64 m))) aD ag39 U B3 (by first|(rw [List.drop_zero,List.take_of_length_le (by first|(simp;done)|(simp;omega))];done)|rfl) (by first|(simp;done)|(simp;omega)) mem2 U ?_
 refine aX nxQ sz39 U U U U U B2 (by simp) sel1 (fun N2 B2=>?_)
 rw [setL_whole (by simp)]at B2
 refine aB (s_10 (aR ((cA (a7 ?_)))))
 refine aW (L1:= []) U (.cell U (res_agg (ds:=u8s (bytesN 32 (v64 m))) ag39 B2 (by first|(rw [List.drop_zero,List.take_of_length_le (by first|(simp;done)|(simp;omega))];done)|rfl) (by first|(simp;done)|(simp;omega)) bZ) .nil) (.cons _ (.refl _)) aM ?_
 exact⟨by rw [←hm],rfl⟩
set_option maxRecDepth 100000 in
theorem WShort_f (a b c d:UInt64):Fn Tryz.prog 152 #[.agg #[.int .u64 (a.toNat:Int),.int .u64 (b.toNat:Int),.int .u64 (c.toNat:Int),.int .u64 (d.toNat:Int)]] [] [] (fun v L=> ∃M p k,v=.slice p (bytesOf (v64 [a,b,c,d])).length k∧L= [M]∧Row M 5 1 p (bytesOf (v64 [a,b,c,d])).length k (u8s (bytesOf (v64 [a,b,c,d])))):=by
 have hlt:=v64_four_lt a b c d
 have hbl:=bitLen_le.2 hlt
 have hlen:=length_bytesOf (v64 [a,b,c,d])
 have hdr:=bytes_drop32 hlt
 refine Fn.enter (vs:= [.agg #[.int .u64 (a.toNat:Int),.int .u64 (b.toNat:Int),.int .u64 (c.toNat:Int),.int .u64 (d.toNat:Int)]]) Tryz.func152 U U U ?_
 intro E R hR
 change At _ _ E [R] _
 refine aC fun _ s_1=>aA (op_box aZ U U U (fun N1 b1 B1=>aG U U (aB (s_1 (aC fun _ s_2=>aA (aY (ds:= [_,_,_,_]) aD ag26 U B1 U U bZ U (aH aZ (.cons U .nil) (WBytes_f a b c d) Tryz.func172 U U (by simp) U ?_)))))))
 rintro _ _ ⟨rfl,rfl⟩
 show At _ _ _ [N1,R] _
 refine bE aZ ze39 U (fun N3 b3 B3=>?_)
 change Blk N3 b3 _ [.int .u8 0,.int .u8 0,.int .u8 0,.int .u8 0,.int .u8 0,.int .u8 0,.int .u8 0,.int .u8 0,.int .u8 0,.int .u8 0,.int .u8 0,.int .u8 0,.int .u8 0,.int .u8 0,.int .u8 0,.int .u8 0,.int .u8 0,.int .u8 0,.int .u8 0,.int .u8 0,.int .u8 0,.int .u8 0,.int .u8 0,.int .u8 0,.int .u8 0,.int .u8 0,.int .u8 0,.int .u8 0,.int .u8 0,.int .u8 0,.int .u8 0,.int .u8 0]at B3
 refine aX nxQ sz39 U U U U U B3 (by simp) sel0 (fun N3 B3=>?_)
 rw [setL_whole (by simp)]at B3
 refine aB (s_2 (aC fun _ s_3=>aA (aY (ds:= [_,_,_,_]) aD ag26 U B1 U U mem1 U (aH aZ (.cons U .nil) (WBits_f a b c d) Tryz.func173 U U (by simp) U ?_))))
 rintro _ _ ⟨rfl,rfl⟩
 show At _ _ _ [N3,N1,R] _
 refine a6 aD U U (by omega) (by omega) U (op_quoI aD U U (by omega) (by omega) (by omega) U (aG U U (aB (s_3 (aC fun _ s_4=>aA (aF U U (op_subI aD U U (by omega) (by omega) U (op_sliceA aD ae39 U (.some U (show _=(((32- (bitLen (v64 [a,b,c,d])+7)/8:Nat)):Int)from by omega)) .none .none (by omega) (by omega) (by omega) (by simp) U ?_))))))))
 have s13:=RSl.arr8 B3 (by simp) (show 32- (bitLen (v64 [a,b,c,d])+7)/8≤32 by omega)
 rw [hdr]at s13
 refine op_append0 aZ Tryz.underlying22 Tryz.underlying22 te5 rfl rfl (by assumption) (by simp) (by first|exact one_u8s _|exact one_u64s _|exact one_u32s _|(intro u hu;simp at hu;subst hu;rfl)) (by omega) (by omega) rfl (fun N14 a14 p14 r14=>?_)
 have s14:=r14.rsl
 refine aG U U (aB (s_4 (aR ((cA (a7 (aW (L1:= [N14]) U (.tmp U .nil) (.refl _) aM ?_)))))))
 rw [show 32- (32- (bitLen (v64 [a,b,c,d])+7)/8)=(bytesOf (v64 [a,b,c,d])).length by omega]at r14⊢
 exact⟨N14,a14,p14,rfl,rfl,r14⟩
def WW:Nat:=2^256
theorem WW_eq:WW=2^(64*4):=rfl
theorem WW_pos:0<WW:=Nat.pow_pos (by decide)
def wl (x:Nat):List UInt64:=limbsN 4 x
def wo (x:Nat):Value:=.agg (u64s (wl x)).toArray
@[simp] theorem length_wl (x:Nat):(wl x).length=4:=rfl
theorem v64_wl (x:Nat):v64 (wl x)=x % WW:=v64_limbsN 4 x
theorem v64_wl_lt {x:Nat} (h:x<WW):v64 (wl x)=x:=by rw [v64_wl,Nat.mod_eq_of_lt h]
theorem v64_lt4 {w:List UInt64} (h:w.length=4):v64 w<WW:=by have:=v64_lt w;rwa [h]at this
theorem wl_of {w:List UInt64} {N:Nat} (hw:w.length=4) (h:v64 w=N % WW):w=wl N:=eq_words4 hw rfl (h.trans (v64_wl N).symm)
theorem wl_self {w:List UInt64} (hw:w.length=4):w=wl (v64 w):=wl_of hw (Nat.mod_eq_of_lt (v64_lt4 hw)).symm
theorem wl_small (n:UInt64):wl n.toNat= [n,0,0,0]:=by
 have h:=n.toNat_lt
 refine(wl_of rfl ?_).symm
 have e:v64 [n,0,0,0]=n.toNat:=by simp [v64,n64,val]
 rw [e]
 exact(Nat.mod_eq_of_lt (Nat.lt_trans h (Nat.pow_lt_pow_right (by decide) (by decide)))).symm
theorem wl_zero:wl 0= [0,0,0,0]:=wl_small 0
theorem wo_zero:wo 0=.agg #[.int .u64 0,.int .u64 0,.int .u64 0,.int .u64 0]:=by rw [wo,wl_zero];rfl
theorem wo_small (n:UInt64):wo n.toNat=.agg #[.int .u64 (n.toNat:Int),.int .u64 0,.int .u64 0,.int .u64 0]:=by rw [wo,wl_small];rfl
open Go Go.RowKit Go.ChangeShapes Go.WideShapes Go.Deep
theorem okWide_structB {P:Program} {w:World} {r:Reach} {base:Nat} {t:TypeId} {v:Value} {fs:Array Field} (ht:P.underlying t=some (.struct fs)) (h:Value.okWide P w r base t v): ∃cs:Array Value,v=.agg cs:=by
 unfold Value.okWide at h
 rw [ht]at h
 obtain⟨cs,rfl,hs,_⟩:=h
 exact⟨cs,rfl⟩
theorem words_of_cells: ∀cs:List Value,(∀i,i<cs.length→ ∃a:UInt64,(cs.drop i).take 1= [.int .u64 (a.toNat:Int)])→ ∃l:List UInt64,l.length=cs.length∧cs=u64s l:=by
 intro cs
 induction cs with
 |nil=>intro _;exact⟨[],rfl,rfl⟩
 |cons v t ih=>
  intro h
  obtain⟨a,ha⟩:=h 0 (Nat.zero_lt_succ _)
  obtain⟨l,hl,rfl⟩:=ih fun i hi=>by
   have:=h (i+1) (Nat.succ_lt_succ hi)
   rw [List.drop_succ_cons]at this
   exact this
  refine⟨a::l,by rw [List.length_cons,List.length_cons,hl],?_⟩
  simp only [List.drop_zero,List.take_succ_cons,List.take_zero,List.cons.injEq,and_true]at ha
  rw [ha];rfl
theorem bytes_of_cells: ∀cs:List Value,(∀i,i<cs.length→ ∃a:UInt8,(cs.drop i).take 1= [.int .u8 (a.toNat:Int)])→ ∃l:List UInt8,l.length=cs.length∧cs=u8s l:=by
 intro cs
 induction cs with
 |nil=>intro _;exact⟨[],rfl,rfl⟩
 |cons v t ih=>
  intro h
  obtain⟨a,ha⟩:=h 0 (Nat.zero_lt_succ _)
  obtain⟨l,hl,rfl⟩:=ih fun i hi=>by
   have:=h (i+1) (Nat.succ_lt_succ hi)
   rw [List.drop_succ_cons]at this
   exact this
  refine⟨a::l,by rw [List.length_cons,List.length_cons,hl],?_⟩
  simp only [List.drop_zero,List.take_succ_cons,List.take_zero,List.cons.injEq,and_true]at ha
  rw [ha];rfl
section
variable {H : Type} {enc : TypeId × Value → H} {w : World} {spare : Nat → Bool} {held : Bool}
theorem struct_open' {P:Program} {t:TypeId} {fs:Array Field} {fuel:Nat} {cs:List Value} {x:DataW H×List MemPlace} (ht:P.underlying t=some (.struct fs)) (h:DataW.trod enc P w 0 spare held fuel t cs=some x):
 cs.length=P.cellsOf t∧ ∃n, ∀(i:Nat) (f:Field),fs[i]? =some f→ ∃y,DataW.trod enc P w 0 spare held n f.type ((cs.drop f.offset).take (P.cellsOf f.type))=some y:=by
 obtain⟨xs,n,hf,_,hl,hlen,hx⟩:=DataW.trod_struct ht h
 refine⟨hl,n,fun i f hi=>?_⟩
 have hlt:i<xs.length:=by
  obtain⟨h1,_⟩:=Array.getElem?_eq_some_iff.1 hi
  rw [hlen];exact h1
 refine⟨xs[i],?_⟩
 rw [hx i f hi]
 exact List.getElem?_eq_getElem hlt
theorem open_u64c {P:Program} {t:TypeId} {fuel:Nat} {cs:List Value} {x:DataW H×List MemPlace} (ht:P.underlying t=some (.int .u64)) (h:DataW.trod enc P w 0 spare held fuel t cs=some x): ∃a:UInt64,cs= [.int .u64 (a.toNat:Int)]:=by
 obtain⟨q,hq,_,hw⟩:=DataW.trod_int ht h
 have hb:0≤q∧q≤18446744073709551615:=by simpa [Lit.wf,IntKind.min,IntKind.max,IntKind.signed,IntKind.bits]using hw
 refine⟨UInt64.ofNat q.toNat,hq.trans ?_⟩
 have h8:(UInt64.ofNat q.toNat).toNat=q.toNat:=by rw [UInt64.toNat_ofNat'];omega
 rw [h8]
 congr 2
 omega
theorem open_u8c {P:Program} {t:TypeId} {fuel:Nat} {cs:List Value} {x:DataW H×List MemPlace} (ht:P.underlying t=some (.int .u8)) (h:DataW.trod enc P w 0 spare held fuel t cs=some x): ∃a:UInt8,cs= [.int .u8 (a.toNat:Int)]:=by
 obtain⟨q,hq,_,hw⟩:=DataW.trod_int ht h
 have hb:0≤q∧q≤255:=by simpa [Lit.wf,IntKind.min,IntKind.max,IntKind.signed,IntKind.bits]using hw
 refine⟨UInt8.ofNat q.toNat,hq.trans ?_⟩
 have h8:(UInt8.ofNat q.toNat).toNat=q.toNat:=by rw [UInt8.toNat_ofNat'];omega
 rw [h8]
 congr 2
 omega
theorem bytes_cells {t e:TypeId} {k fuel:Nat} {cs:List Value} {x:DataW H×List MemPlace} (ht:Tryz.prog.underlying t=some (.array k e)) (he:Tryz.prog.underlying e=some (.int .u8)) (hc:Tryz.prog.cellsOf e=1) (hk:Tryz.prog.cellsOf t=k) (h:DataW.trod enc Tryz.prog w 0 spare held fuel t cs=some x): ∃l:List UInt8,l.length=k∧cs=u8s l:=by
 obtain⟨xs,m,_,_,hl,hlen,hx⟩:=DataW.trod_array ht h
 have hl':cs.length=k:=hl.trans hk
 obtain⟨l,h1,h2⟩:=bytes_of_cells cs fun i hi=>by
  have h:=hx i (by omega)
  rw [List.getElem?_eq_getElem (by omega),hc,Nat.mul_one]at h
  exact open_u8c he h
 exact⟨l,h1.trans hl',h2⟩
theorem word_cells {t e:TypeId} {fuel:Nat} {cs:List Value} {x:DataW H×List MemPlace} (ht:Tryz.prog.underlying t=some (.array 4 e)) (he:Tryz.prog.underlying e=some (.int .u64)) (hc:Tryz.prog.cellsOf e=1) (hk:Tryz.prog.cellsOf t=4) (h:DataW.trod enc Tryz.prog w 0 spare held fuel t cs=some x): ∃x:Nat,x<WW∧cs=u64s (wl x):=by
 obtain⟨xs,m,_,_,hl,hlen,hx⟩:=DataW.trod_array ht h
 have hl':cs.length=4:=hl.trans hk
 obtain⟨l,h1,h2⟩:=words_of_cells cs fun i hi=>by
  have h:=hx i (by omega)
  rw [List.getElem?_eq_getElem (by omega),hc,Nat.mul_one]at h
  exact open_u64c he h
 have hl4:l.length=4:=h1.trans hl'
 refine⟨v64 l,v64_lt4 hl4,?_⟩
 rw [←wl_self hl4];exact h2
theorem open_ic {P:Program} {t:TypeId} {fuel:Nat} {cs:List Value} {x:DataW H×List MemPlace} (ht:P.underlying t=some (.int .i64)) (h:DataW.trod enc P w 0 spare held fuel t cs=some x): ∃a:Int,cs= [.int .i64 a]∧ -9223372036854775808≤a∧a≤9223372036854775807:=by
 obtain⟨q,hq,_,hw⟩:=DataW.trod_int ht h
 exact⟨q,hq,by simpa [Lit.wf,IntKind.min,IntKind.max,IntKind.signed,IntKind.bits]using hw⟩
theorem cut_cells (cs:List Value) (i k:Nat):cs.drop i=(cs.drop i).take k++cs.drop (i+k):=by
 rw [←List.drop_drop,List.take_append_drop]
end
open Go
theorem sel13 {A0 A1 A2 A3 A4 A5 A6 A7 A8 A9 A10 A11 A12 A13:Heaplet} {L:List Heaplet} :(A1::A2::A3::A4::A5::A6::A7::A8::A9::A10::A11::A12::A13::A0::L).Perm (A0::A1::A2::A3::A4::A5::A6::A7::A8::A9::A10::A11::A12::A13::L):=(List.Perm.cons _ sel12).trans (.swap _ _ _)
theorem permSel13 {n:Nat} {l:List (Nat×Value)} {E:World} {K:Act→World→Prop} {L:List Heaplet} {A0 A1 A2 A3 A4 A5 A6 A7 A8 A9 A10 A11 A12 A13:Heaplet} (h:At n l E (A0::A1::A2::A3::A4::A5::A6::A7::A8::A9::A10::A11::A12::A13::L) K):At n l E (A1::A2::A3::A4::A5::A6::A7::A8::A9::A10::A11::A12::A13::A0::L) K:=At.perm sel13 h
theorem sel14 {A0 A1 A2 A3 A4 A5 A6 A7 A8 A9 A10 A11 A12 A13 A14:Heaplet} {L:List Heaplet} :(A1::A2::A3::A4::A5::A6::A7::A8::A9::A10::A11::A12::A13::A14::A0::L).Perm (A0::A1::A2::A3::A4::A5::A6::A7::A8::A9::A10::A11::A12::A13::A14::L):=(List.Perm.cons _ sel13).trans (.swap _ _ _)
theorem permSel14 {n:Nat} {l:List (Nat×Value)} {E:World} {K:Act→World→Prop} {L:List Heaplet} {A0 A1 A2 A3 A4 A5 A6 A7 A8 A9 A10 A11 A12 A13 A14:Heaplet} (h:At n l E (A0::A1::A2::A3::A4::A5::A6::A7::A8::A9::A10::A11::A12::A13::A14::L) K):At n l E (A1::A2::A3::A4::A5::A6::A7::A8::A9::A10::A11::A12::A13::A14::A0::L) K:=At.perm sel14 h
theorem sel15 {A0 A1 A2 A3 A4 A5 A6 A7 A8 A9 A10 A11 A12 A13 A14 A15:Heaplet} {L:List Heaplet} :(A1::A2::A3::A4::A5::A6::A7::A8::A9::A10::A11::A12::A13::A14::A15::A0::L).Perm (A0::A1::A2::A3::A4::A5::A6::A7::A8::A9::A10::A11::A12::A13::A14::A15::L):=(List.Perm.cons _ sel14).trans (.swap _ _ _)
theorem permSel15 {n:Nat} {l:List (Nat×Value)} {E:World} {K:Act→World→Prop} {L:List Heaplet} {A0 A1 A2 A3 A4 A5 A6 A7 A8 A9 A10 A11 A12 A13 A14 A15:Heaplet} (h:At n l E (A0::A1::A2::A3::A4::A5::A6::A7::A8::A9::A10::A11::A12::A13::A14::A15::L) K):At n l E (A1::A2::A3::A4::A5::A6::A7::A8::A9::A10::A11::A12::A13::A14::A15::A0::L) K:=At.perm sel15 h
theorem sel16 {A0 A1 A2 A3 A4 A5 A6 A7 A8 A9 A10 A11 A12 A13 A14 A15 A16:Heaplet} {L:List Heaplet} :(A1::A2::A3::A4::A5::A6::A7::A8::A9::A10::A11::A12::A13::A14::A15::A16::A0::L).Perm (A0::A1::A2::A3::A4::A5::A6::A7::A8::A9::A10::A11::A12::A13::A14::A15::A16::L):=(List.Perm.cons _ sel15).trans (.swap _ _ _)
theorem permSel16 {n:Nat} {l:List (Nat×Value)} {E:World} {K:Act→World→Prop} {L:List Heaplet} {A0 A1 A2 A3 A4 A5 A6 A7 A8 A9 A10 A11 A12 A13 A14 A15 A16:Heaplet} (h:At n l E (A0::A1::A2::A3::A4::A5::A6::A7::A8::A9::A10::A11::A12::A13::A14::A15::A16::L) K):At n l E (A1::A2::A3::A4::A5::A6::A7::A8::A9::A10::A11::A12::A13::A14::A15::A16::A0::L) K:=At.perm sel16 h
theorem sel17 {A0 A1 A2 A3 A4 A5 A6 A7 A8 A9 A10 A11 A12 A13 A14 A15 A16 A17:Heaplet} {L:List Heaplet} :(A1::A2::A3::A4::A5::A6::A7::A8::A9::A10::A11::A12::A13::A14::A15::A16::A17::A0::L).Perm (A0::A1::A2::A3::A4::A5::A6::A7::A8::A9::A10::A11::A12::A13::A14::A15::A16::A17::L):=(List.Perm.cons _ sel16).trans (.swap _ _ _)
theorem permSel17 {n:Nat} {l:List (Nat×Value)} {E:World} {K:Act→World→Prop} {L:List Heaplet} {A0 A1 A2 A3 A4 A5 A6 A7 A8 A9 A10 A11 A12 A13 A14 A15 A16 A17:Heaplet} (h:At n l E (A0::A1::A2::A3::A4::A5::A6::A7::A8::A9::A10::A11::A12::A13::A14::A15::A16::A17::L) K):At n l E (A1::A2::A3::A4::A5::A6::A7::A8::A9::A10::A11::A12::A13::A14::A15::A16::A17::A0::L) K:=At.perm sel17 h
theorem sel18 {A0 A1 A2 A3 A4 A5 A6 A7 A8 A9 A10 A11 A12 A13 A14 A15 A16 A17 A18:Heaplet} {L:List Heaplet} :(A1::A2::A3::A4::A5::A6::A7::A8::A9::A10::A11::A12::A13::A14::A15::A16::A17::A18::A0::L).Perm (A0::A1::A2::A3::A4::A5::A6::A7::A8::A9::A10::A11::A12::A13::A14::A15::A16::A17::A18::L):=(List.Perm.cons _ sel17).trans (.swap _ _ _)
theorem permSel18 {n:Nat} {l:List (Nat×Value)} {E:World} {K:Act→World→Prop} {L:List Heaplet} {A0 A1 A2 A3 A4 A5 A6 A7 A8 A9 A10 A11 A12 A13 A14 A15 A16 A17 A18:Heaplet} (h:At n l E (A0::A1::A2::A3::A4::A5::A6::A7::A8::A9::A10::A11::A12::A13::A14::A15::A16::A17::A18::L) K):At n l E (A1::A2::A3::A4::A5::A6::A7::A8::A9::A10::A11::A12::A13::A14::A15::A16::A17::A18::A0::L) K:=At.perm sel18 h
theorem sel19 {A0 A1 A2 A3 A4 A5 A6 A7 A8 A9 A10 A11 A12 A13 A14 A15 A16 A17 A18 A19:Heaplet} {L:List Heaplet} :(A1::A2::A3::A4::A5::A6::A7::A8::A9::A10::A11::A12::A13::A14::A15::A16::A17::A18::A19::A0::L).Perm (A0::A1::A2::A3::A4::A5::A6::A7::A8::A9::A10::A11::A12::A13::A14::A15::A16::A17::A18::A19::L):=(List.Perm.cons _ sel18).trans (.swap _ _ _)
theorem permSel19 {n:Nat} {l:List (Nat×Value)} {E:World} {K:Act→World→Prop} {L:List Heaplet} {A0 A1 A2 A3 A4 A5 A6 A7 A8 A9 A10 A11 A12 A13 A14 A15 A16 A17 A18 A19:Heaplet} (h:At n l E (A0::A1::A2::A3::A4::A5::A6::A7::A8::A9::A10::A11::A12::A13::A14::A15::A16::A17::A18::A19::L) K):At n l E (A1::A2::A3::A4::A5::A6::A7::A8::A9::A10::A11::A12::A13::A14::A15::A16::A17::A18::A19::A0::L) K:=At.perm sel19 h
theorem sel20 {A0 A1 A2 A3 A4 A5 A6 A7 A8 A9 A10 A11 A12 A13 A14 A15 A16 A17 A18 A19 A20:Heaplet} {L:List Heaplet} :(A1::A2::A3::A4::A5::A6::A7::A8::A9::A10::A11::A12::A13::A14::A15::A16::A17::A18::A19::A20::A0::L).Perm (A0::A1::A2::A3::A4::A5::A6::A7::A8::A9::A10::A11::A12::A13::A14::A15::A16::A17::A18::A19::A20::L):=(List.Perm.cons _ sel19).trans (.swap _ _ _)
theorem permSel20 {n:Nat} {l:List (Nat×Value)} {E:World} {K:Act→World→Prop} {L:List Heaplet} {A0 A1 A2 A3 A4 A5 A6 A7 A8 A9 A10 A11 A12 A13 A14 A15 A16 A17 A18 A19 A20:Heaplet} (h:At n l E (A0::A1::A2::A3::A4::A5::A6::A7::A8::A9::A10::A11::A12::A13::A14::A15::A16::A17::A18::A19::A20::L) K):At n l E (A1::A2::A3::A4::A5::A6::A7::A8::A9::A10::A11::A12::A13::A14::A15::A16::A17::A18::A19::A20::A0::L) K:=At.perm sel20 h
theorem sel21 {A0 A1 A2 A3 A4 A5 A6 A7 A8 A9 A10 A11 A12 A13 A14 A15 A16 A17 A18 A19 A20 A21:Heaplet} {L:List Heaplet} :(A1::A2::A3::A4::A5::A6::A7::A8::A9::A10::A11::A12::A13::A14::A15::A16::A17::A18::A19::A20::A21::A0::L).Perm (A0::A1::A2::A3::A4::A5::A6::A7::A8::A9::A10::A11::A12::A13::A14::A15::A16::A17::A18::A19::A20::A21::L):=(List.Perm.cons _ sel20).trans (.swap _ _ _)
theorem permSel21 {n:Nat} {l:List (Nat×Value)} {E:World} {K:Act→World→Prop} {L:List Heaplet} {A0 A1 A2 A3 A4 A5 A6 A7 A8 A9 A10 A11 A12 A13 A14 A15 A16 A17 A18 A19 A20 A21:Heaplet} (h:At n l E (A0::A1::A2::A3::A4::A5::A6::A7::A8::A9::A10::A11::A12::A13::A14::A15::A16::A17::A18::A19::A20::A21::L) K):At n l E (A1::A2::A3::A4::A5::A6::A7::A8::A9::A10::A11::A12::A13::A14::A15::A16::A17::A18::A19::A20::A21::A0::L) K:=At.perm sel21 h
theorem sel22 {A0 A1 A2 A3 A4 A5 A6 A7 A8 A9 A10 A11 A12 A13 A14 A15 A16 A17 A18 A19 A20 A21 A22:Heaplet} {L:List Heaplet} :(A1::A2::A3::A4::A5::A6::A7::A8::A9::A10::A11::A12::A13::A14::A15::A16::A17::A18::A19::A20::A21::A22::A0::L).Perm (A0::A1::A2::A3::A4::A5::A6::A7::A8::A9::A10::A11::A12::A13::A14::A15::A16::A17::A18::A19::A20::A21::A22::L):=(List.Perm.cons _ sel21).trans (.swap _ _ _)
theorem permSel22 {n:Nat} {l:List (Nat×Value)} {E:World} {K:Act→World→Prop} {L:List Heaplet} {A0 A1 A2 A3 A4 A5 A6 A7 A8 A9 A10 A11 A12 A13 A14 A15 A16 A17 A18 A19 A20 A21 A22:Heaplet} (h:At n l E (A0::A1::A2::A3::A4::A5::A6::A7::A8::A9::A10::A11::A12::A13::A14::A15::A16::A17::A18::A19::A20::A21::A22::L) K):At n l E (A1::A2::A3::A4::A5::A6::A7::A8::A9::A10::A11::A12::A13::A14::A15::A16::A17::A18::A19::A20::A21::A22::A0::L) K:=At.perm sel22 h
theorem sel23 {A0 A1 A2 A3 A4 A5 A6 A7 A8 A9 A10 A11 A12 A13 A14 A15 A16 A17 A18 A19 A20 A21 A22 A23:Heaplet} {L:List Heaplet} :(A1::A2::A3::A4::A5::A6::A7::A8::A9::A10::A11::A12::A13::A14::A15::A16::A17::A18::A19::A20::A21::A22::A23::A0::L).Perm (A0::A1::A2::A3::A4::A5::A6::A7::A8::A9::A10::A11::A12::A13::A14::A15::A16::A17::A18::A19::A20::A21::A22::A23::L):=(List.Perm.cons _ sel22).trans (.swap _ _ _)
theorem permSel23 {n:Nat} {l:List (Nat×Value)} {E:World} {K:Act→World→Prop} {L:List Heaplet} {A0 A1 A2 A3 A4 A5 A6 A7 A8 A9 A10 A11 A12 A13 A14 A15 A16 A17 A18 A19 A20 A21 A22 A23:Heaplet} (h:At n l E (A0::A1::A2::A3::A4::A5::A6::A7::A8::A9::A10::A11::A12::A13::A14::A15::A16::A17::A18::A19::A20::A21::A22::A23::L) K):At n l E (A1::A2::A3::A4::A5::A6::A7::A8::A9::A10::A11::A12::A13::A14::A15::A16::A17::A18::A19::A20::A21::A22::A23::A0::L) K:=At.perm sel23 h
theorem mem14 {A0 A1 A2 A3 A4 A5 A6 A7 A8 A9 A10 A11 A12 A13 A14:Heaplet} {L:List Heaplet} :A0∈A1::A2::A3::A4::A5::A6::A7::A8::A9::A10::A11::A12::A13::A14::A0::L:=List.Mem.tail _ mem13
theorem mem15 {A0 A1 A2 A3 A4 A5 A6 A7 A8 A9 A10 A11 A12 A13 A14 A15:Heaplet} {L:List Heaplet} :A0∈A1::A2::A3::A4::A5::A6::A7::A8::A9::A10::A11::A12::A13::A14::A15::A0::L:=List.Mem.tail _ mem14
theorem mem16 {A0 A1 A2 A3 A4 A5 A6 A7 A8 A9 A10 A11 A12 A13 A14 A15 A16:Heaplet} {L:List Heaplet} :A0∈A1::A2::A3::A4::A5::A6::A7::A8::A9::A10::A11::A12::A13::A14::A15::A16::A0::L:=List.Mem.tail _ mem15
theorem mem17 {A0 A1 A2 A3 A4 A5 A6 A7 A8 A9 A10 A11 A12 A13 A14 A15 A16 A17:Heaplet} {L:List Heaplet} :A0∈A1::A2::A3::A4::A5::A6::A7::A8::A9::A10::A11::A12::A13::A14::A15::A16::A17::A0::L:=List.Mem.tail _ mem16
theorem mem18 {A0 A1 A2 A3 A4 A5 A6 A7 A8 A9 A10 A11 A12 A13 A14 A15 A16 A17 A18:Heaplet} {L:List Heaplet} :A0∈A1::A2::A3::A4::A5::A6::A7::A8::A9::A10::A11::A12::A13::A14::A15::A16::A17::A18::A0::L:=List.Mem.tail _ mem17
theorem mem19 {A0 A1 A2 A3 A4 A5 A6 A7 A8 A9 A10 A11 A12 A13 A14 A15 A16 A17 A18 A19:Heaplet} {L:List Heaplet} :A0∈A1::A2::A3::A4::A5::A6::A7::A8::A9::A10::A11::A12::A13::A14::A15::A16::A17::A18::A19::A0::L:=List.Mem.tail _ mem18
theorem mem20 {A0 A1 A2 A3 A4 A5 A6 A7 A8 A9 A10 A11 A12 A13 A14 A15 A16 A17 A18 A19 A20:Heaplet} {L:List Heaplet} :A0∈A1::A2::A3::A4::A5::A6::A7::A8::A9::A10::A11::A12::A13::A14::A15::A16::A17::A18::A19::A20::A0::L:=List.Mem.tail _ mem19
theorem mem21 {A0 A1 A2 A3 A4 A5 A6 A7 A8 A9 A10 A11 A12 A13 A14 A15 A16 A17 A18 A19 A20 A21:Heaplet} {L:List Heaplet} :A0∈A1::A2::A3::A4::A5::A6::A7::A8::A9::A10::A11::A12::A13::A14::A15::A16::A17::A18::A19::A20::A21::A0::L:=List.Mem.tail _ mem20
theorem mem22 {A0 A1 A2 A3 A4 A5 A6 A7 A8 A9 A10 A11 A12 A13 A14 A15 A16 A17 A18 A19 A20 A21 A22:Heaplet} {L:List Heaplet} :A0∈A1::A2::A3::A4::A5::A6::A7::A8::A9::A10::A11::A12::A13::A14::A15::A16::A17::A18::A19::A20::A21::A22::A0::L:=List.Mem.tail _ mem21
end Go.Proofs.YtjfagifjajielaaGreat
