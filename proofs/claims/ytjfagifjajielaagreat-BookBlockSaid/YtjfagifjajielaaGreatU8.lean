/- Several texts in one: see the remarks ahead of each part. No condition but those told there. -/
import Derived.Test.YtjfagifjajielaaGreatU4
import Derived.Test.YtjfagifjajielaaGreatU7
import Derived.Test.YtjfagifjajielaaGreatU5
import Derived.Test.YtjfagifjajielaaGreatU6
import Derived.Deep.Strs
set_option linter.unusedSimpArgs false
set_option linter.unusedVariables false
/- quarryref02's trim, Of, Bytes: numbers in digits of 32 bits. No condition. -/
namespace Go.Proofs.YtjfagifjajielaaGreat
open Go Go.RowKit
theorem u32_zero {x:UInt32} (h:(x.toNat:Int)=0):x=0:=by rw [←UInt32.toNat_inj];simpa using h
theorem trim32_f {N:Heaplet} {ao:Option Addr} {n cap:Nat} {l:List UInt32} (h:RSl N 1 ao n cap (u32s l)):
 Fn Tryz.prog 150 #[.slice ao n cap] [] [N] (fun v L=>v=.slice ao (digsOf (v32 l)).length cap∧L= []∧l.take (digsOf (v32 l)).length=digsOf (v32 l)∧(digsOf (v32 l)).length≤n):=by
 have hlen:=h.len32
 have hcap:=h.cap63
 refine Fn.enter (vs:= [.slice ao n cap]) Tryz.func150 rfl rfl rfl ?_
 intro E R hR
 have h:=h.le (hR N (by simp))
 change At _ _ E [R] _
 refine At.seq fun _ s_1=>At.region (aD (aC rfl) rfl rfl (aA (aB (s_1 (At.seq fun _ s_2=>At.region (aE (aC rfl) rfl rfl (a7 (aC rfl) se168 rfl rfl (aD (aC rfl) rfl rfl (aA (aB (s_2 (At.seq fun _ s_3=>At.block ?_))))))))))))
 refine At.loop (fun fr_ hp_ ms_=> ∃(k:Nat),fr_= [(0,.slice ao n cap),(3,.int .i64 (k:Int))]∧hp_= [R]∧k=ms_∧(k≤n)∧(∀i,k≤i→l.getD i 0=0)) ?_ (.refl _) ⟨n,rfl,rfl,rfl,Nat.le_refl _,fun i hi=>by rw [List.getD_eq_getElem?_getD,List.getElem?_eq_none (by omega)];rfl⟩ ?_
 ·exact .cons (by first|exact a6 rfl (by omega)|rfl) (.cons (by first|exact a6 rfl (by omega)|rfl) .nil)
 rintro _ _ _ ⟨k,rfl,rfl,rfl,hk,hz⟩
 refine At.seq fun _ s_4=>At.seq fun _ s_5=>At.region (aE (aC rfl) rfl rfl (op_gtr (aC rfl) rfl rfl rfl (aE (aC rfl) rfl rfl (At.partP (d:=8) rfl (fun g8=>?_) (fun g8=>?_)))))
 ·refine aE (bF rfl rfl rfl rfl) rfl rfl (aE (bF rfl rfl rfl rfl) rfl rfl (op_subI (bF rfl rfl rfl rfl) rfl rfl (by omega) (by omega) rfl (op_idx1 (bF rfl rfl rfl rfl) se168 rfl rfl (by assumption) (show _=(((k- 1:Nat)):Int)from by omega) (by omega) rfl ?_)))
  refine bK (bF rfl rfl rfl rfl) sc172 rfl (by assumption) (by first|exact get8 (by omega)|exact get64 (by omega)|exact get32 (by omega)) (by first|exact aP|exact bM|exact mem2|exact mem3|exact mem4|exact mem5|exact mem6|exact mem7|exact mem8|exact mem9) rfl ?_
  refine op_eql (bF rfl rfl rfl rfl) rfl rfl rfl (bN (aC rfl) rfl rfl rfl (aA (aB (s_5 (aO rfl (fun c15=>?_) (fun c15=>?_))))))
  ·refine At.skip (aB (s_4 (At.block (At.region (aE (aC rfl) rfl rfl (op_subI (aC rfl) rfl rfl (by omega) (by omega) rfl (aD (aC rfl) rfl rfl (aA (bC (aB ?_))))))))))
   refine At.back ?_ (.refl _) ⟨k- 1,rfl,rfl,rfl,by omega,fun i hi=>by rcases Nat.lt_or_ge i k with h|h;(rw [show i=k- 1 by omega];exact u32_zero c15);exact hz i h⟩ ?_
   ·exact .cons (by first|exact a6 rfl (by omega)|rfl) (.cons (by first|exact a6 rfl (by omega)|rfl) .nil)
   ·omega
  refine At.exit (aM (aM (At.inHit (aB (s_3 (At.seq fun _ s_6=>At.region (aE (aC rfl) rfl rfl (aE (aC rfl) rfl rfl (op_slice0 (aC rfl) se168 rfl (.some rfl (show _=(((k:Nat)):Int)from by omega)) .none (by omega) (by omega) (by simp) rfl ?_)))))))))
  refine aD (aC rfl) rfl rfl (aA (aB (s_6 (At.ret ((aW (L1:= []) rfl (.tmp rfl .nil) (.refl _) (.refl _) ?_))))))
  have ⟨e1,e2⟩:=trim_len32 (by omega) hz (.inr ⟨by omega,fun e=>c15 (by rw [e];rfl)⟩);rw [e2];exact⟨rfl,rfl,e1,hk⟩
 refine aN rfl rfl rfl rfl rfl rfl rfl (aN rfl rfl rfl rfl rfl rfl rfl (aN rfl rfl rfl rfl rfl rfl rfl (aN rfl rfl rfl rfl rfl rfl rfl (aN rfl rfl rfl rfl rfl rfl rfl (aN rfl rfl rfl rfl rfl rfl rfl (op_pickF (aC rfl) rfl rfl rfl (aA (aB (s_5 (At.condF rfl (At.exit (aM (aM (At.inHit (aB (s_3 (At.seq fun _ s_7=>At.region (aE (aC rfl) rfl rfl (aE (aC rfl) rfl rfl (op_slice0 (aC rfl) se168 rfl (.some rfl (show _=(((k:Nat)):Int)from by omega)) .none (by omega) (by omega) (by simp) rfl ?_))))))))))))))))))))
 refine aD (aC rfl) rfl rfl (aA (aB (s_7 (At.ret ((aW (L1:= []) rfl (.tmp rfl .nil) (.refl _) (.refl _) ?_))))))
 have ⟨e1,e2⟩:=trim_len32 (by omega) hz (.inl (by omega));rw [e2];exact⟨rfl,rfl,e1,hk⟩
theorem Of32_f (x:UInt64):Fn Tryz.prog 100 #[.int .u64 (x.toNat:Int)] [] [] (fun v L=> ∃M a cap,v=.slice a (digsOf x.toNat).length cap∧L= [M]∧RSl M 1 a (digsOf x.toNat).length cap (u32s (digsOf x.toNat))):=by
 refine Fn.enter (vs:= [.int .u64 (x.toNat:Int)]) Tryz.func100 rfl rfl rfl ?_
 intro E R hR
 change At _ _ E [R] _
 refine At.seq fun _ s_1=>At.region (aD (aC rfl) rfl rfl (aA (aB (s_1 (At.seq fun _ s_2=>At.region (aE (aC rfl) rfl rfl (op_conv32 (aC rfl) (und_some Tryz.underlying24) Tryz.underlying172 rfl (by first|rfl|exact(Int.toNat_of_nonneg (by omega)).symm) rfl ?_)))))))
 refine aE (aC rfl) rfl rfl (op_shrU (aC rfl) rfl rfl (show _=((32:Nat):Int)from rfl) rfl (op_conv32 (aC rfl) (und_some Tryz.underlying24) Tryz.underlying172 rfl (by first|rfl|exact(Int.toNat_of_nonneg (by omega)).symm) rfl ?_))
 refine op_lit (aT rfl) Tryz.underlying168 ze172 sz172 (.cons rfl (.cons rfl .nil)) rfl rfl (by simp [Value.cells]) rfl rfl rfl (fun N8 a8 r8=>?_)
 simp only [flatV,List.flatMap_cons,List.flatMap_nil,Value.cells,List.append_nil,List.cons_append,List.nil_append]at r8
 have s8:=r8.rsl
 refine aG (aT rfl) (.cons rfl .nil) (trim32_f (l:= [UInt32.ofNat x.toNat,UInt32.ofNat (shr64 x 32).toNat]) s8) Tryz.func150 rfl rfl (by simp) rfl ?_
 rintro v9 L9 ⟨rfl,rfl,e1,e2⟩
 change At _ _ _ [N8,R] _
 rw [v32_two]at e1 e2⊢
 have s9:=s8.take e2 (Nat.le_refl _) e2
 refine aD (aC rfl) rfl rfl (aA (aB (s_2 (At.ret ((aW (L1:= [N8]) rfl (.tmp rfl .nil) (.refl _) (.refl _) (⟨N8,a8,2,rfl,rfl,?_⟩)))))))
 have e:List.take ((digsOf x.toNat).length*1) [Value.int IntKind.u32 ↑(UInt32.ofNat x.toNat).toNat,Value.int IntKind.u32 ↑(UInt32.ofNat (shr64 x 32).toNat).toNat]=u32s (digsOf x.toNat):=by
  rw [Nat.mul_one, ←e1, ←u32s_take,e1];rfl
 rw [e]at s9
 exact s9
theorem Bytes32_f {N:Heaplet} {ao:Option Addr} {n cap:Nat} {l:List UInt32} (h:RSl N 1 ao n cap (u32s l)) (hn:n≤17592186044416):
 Fn Tryz.prog 171 #[.slice ao n cap] [] [N] (fun v L=> ∃M a cap,v=.slice a (bytesOf (v32 l)).length cap∧L= [M]∧Row M 5 1 a (bytesOf (v32 l)).length cap (u8s (bytesOf (v32 l)))):=by
 have hlen:=h.len32
 have hcap:=h.cap63
 have hlim:v32 l<256^(4*n):=by
  rw [show(256:Nat)=2^8 from rfl, ←Nat.pow_mul,show 8*(4*n)=32*l.length from by omega];exact v32_lt l
 have hb4: ∀j,(bytesOf (v32 l/256^j)).length≤4*n:=fun j=>by
  rw [length_bytesOf];exact byteLen_le.2 (Nat.lt_of_le_of_lt (Nat.div_le_self _ _) hlim)
 refine Fn.enter (vs:= [.slice ao n cap]) Tryz.func171 rfl rfl rfl ?_
 intro E R hR
 have h:=h.le (hR N (by simp))
 change At _ _ E [R] _
 refine At.seq fun _ s_1=>At.region (aD (aC rfl) rfl rfl (aA (aB (s_1 (At.seq fun _ s_2=>At.region (aD (aC rfl) rfl rfl (aA (aB (s_2 (At.seq fun _ s_3=>At.seq fun _ s_4=>At.region (aE (aC rfl) rfl rfl (a7 (aC rfl) se168 rfl rfl (op_mulI (aC rfl) rfl rfl (by omega) (by omega) rfl (op_subI (aC rfl) rfl rfl (by omega) (by omega) rfl (aD (aC rfl) rfl rfl (aA (aB (s_4 (At.block ?_)))))))))))))))))))
 refine At.empty ?_
 refine At.loop (fun fr_ hp_ ms_=> ∃(j:Nat) (ap:Option Addr) (np cp:Nat) (Np:Heaplet),fr_= [(0,.slice ao n cap),(3,.slice ap np cp),(4,.int .i64 ((j:Int)- 1))]∧hp_= [Np,R]∧j=ms_∧(j≤4*n)∧(np=(bytesOf (v32 l/256^j)).length)∧(Row Np 5 1 ap np cp (u8s (bytesOf (v32 l/256^j))))) ?_ (.refl _) ⟨4*n,none,0,0,nilH,rfl,rfl,rfl,Nat.le_refl _,by rw [Nat.div_eq_of_lt hlim];rfl,by rw [Nat.div_eq_of_lt hlim];exact Row.nil _ _ _⟩ ?_
 ·exact .cons (by first|exact a6 rfl (by omega)|rfl) (.cons (by first|exact a6 rfl (by omega)|rfl) (.cons (by first|exact a6 rfl (by omega)|rfl) .nil))
 rintro _ _ _ ⟨j,ap,np,cp,Np,rfl,rfl,rfl,hj,hnp,rp⟩
 have hb:=hb4 j
 refine At.seq fun _ s_5=>At.seq fun _ s_6=>At.region (aE (aC rfl) rfl rfl (op_geq (aC rfl) rfl rfl rfl (aA (aB (s_6 (aO rfl (fun c11=>?_) (fun c11=>?_)))))))
 ·have hbyte:=byte32_at (l:=l) (i:=j- 1) (by omega)
  obtain⟨i,hi⟩: ∃i,j=i+1:=⟨j- 1,by omega⟩
  have hj1:j- 1=i:=by omega
  have hj1':j=i+1:=hi
  have hst:(0<np∨(UInt8.ofNat (shr32 (l.getD ((j- 1)/4) 0) (8*((j- 1) % 4))).toNat).toNat≠0)→bytesOf (v32 l/256^(j- 1))=bytesOf (v32 l/256^j)++ [UInt8.ofNat (shr32 (l.getD ((j- 1)/4) 0) (8*((j- 1) % 4))).toNat]:=fun hh=>by
   rw [hbyte]at hh⊢
   rw [hnp]at hh
   rw [hj1,hj1']at*
   exact bytesOf_down (down_ne hh)
  refine At.skip (aB (s_5 (At.seq fun _ s_7=>At.block (At.seq fun _ s_8=>At.region (aE (aC rfl) rfl rfl (aE (aC rfl) rfl rfl (op_quoI (aC rfl) rfl rfl (by omega) (by omega) (by omega) rfl (op_idx1 (aC rfl) se168 rfl rfl (by assumption) (show _=((((j- 1)/4:Nat)):Int)from by omega) (by omega) rfl ?_))))))))
  refine bK (aC rfl) sc172 rfl (by assumption) (by first|exact get8 (by omega)|exact get64 (by omega)|exact get32 (by omega)) (by first|exact aP|exact bM|exact mem2|exact mem3|exact mem4|exact mem5|exact mem6|exact mem7|exact mem8|exact mem9) rfl ?_
  refine aE (aC rfl) rfl rfl (op_rem (aC rfl) rfl rfl (by omega) (by omega) rfl (op_mulI (aC rfl) rfl rfl (by omega) (by omega) rfl (op_shrU32 (aC rfl) rfl rfl (show _=(((8*((j- 1) % 4):Nat)):Int)from by omega) rfl ?_)))
  refine op_conv8 (aC rfl) (und_some Tryz.underlying172) Tryz.underlying5 rfl (by first|rfl|exact(Int.toNat_of_nonneg (by omega)).symm) rfl ?_
  refine aD (aC rfl) rfl rfl (aA (aB (s_8 (At.seq fun _ s_9=>At.region (aE (aC rfl) rfl rfl (a7 (aC rfl) se22 rfl rfl (op_gtr (aC rfl) rfl rfl rfl (aE (aC rfl) rfl rfl (At.partP (d:=27) rfl (fun g27=>?_) (fun g27=>?_))))))))))
  ·refine aN rfl rfl rfl rfl rfl rfl rfl (aN rfl rfl rfl rfl rfl rfl rfl (bN (aC rfl) rfl rfl rfl (aA (aB (s_9 (At.condT rfl (At.region (aE (aC rfl) rfl rfl (aE (aC rfl) rfl rfl (op_lit (aT rfl) Tryz.underlying22 ze5 sz5 (.cons rfl .nil) rfl rfl (by simp [Value.cells]) rfl rfl rfl (fun N33 a33 r33=>?_)))))))))))
   simp only [flatV,List.flatMap_cons,List.flatMap_nil,Value.cells,List.append_nil,List.cons_append,List.nil_append]at r33
   have s33:=r33.rsl
   refine op_append (nxl rfl) Tryz.underlying22 Tryz.underlying22 te5 rfl rfl rp (by assumption) (by first|exact aP|exact bM|exact mem2|exact mem3|exact mem4|exact mem5|exact mem6|exact mem7|exact mem8|exact mem9) (by first|exact one_u8s _|exact one_u64s _|exact one_u32s _|(intro u hu;simp at hu;subst hu;rfl)) (by omega) (by omega) sel1 rfl (fun N34 a34 p34 r34=>?_)
   have s34:=r34.rsl
   refine aD (aC rfl) rfl rfl (aA (bC (aB (s_7 (At.region (aE (aC rfl) rfl rfl (op_subI (aC rfl) rfl rfl (by omega) (by omega) rfl (aD (aC rfl) rfl rfl (aA (aB (At.sub (L':= [N34,R]) (.cons_cons _ (.cons _ (.cons_cons _ (.slnil)))) ?_)))))))))))
   refine At.back ?_ (.refl _) ⟨j- 1,a34,np+1,p34,N34,rfl,rfl,rfl,by omega,by rw [hst (.inl (by omega)),List.length_append,hnp];rfl,by rw [hst (.inl (by omega)),u8s,List.map_append];exact r34⟩ ?_
   ·exact .cons (by first|exact a6 rfl (by omega)|rfl) (.cons (by first|exact a6 rfl (by omega)|rfl) (.cons (by first|exact a6 rfl (by omega)|rfl) .nil))
   ·omega
  refine aE (bF rfl rfl rfl rfl) rfl rfl (op_neq (bF rfl rfl rfl rfl) rfl rfl rfl (op_pickF (aC rfl) rfl rfl rfl (aA (aB (s_9 (aO rfl (fun c30=>?_) (fun c30=>?_)))))))
  ·refine At.region (aE (aC rfl) rfl rfl (aE (aC rfl) rfl rfl (op_lit (aT rfl) Tryz.underlying22 ze5 sz5 (.cons rfl .nil) rfl rfl (by simp [Value.cells]) rfl rfl rfl (fun N33 a33 r33=>?_))))
   simp only [flatV,List.flatMap_cons,List.flatMap_nil,Value.cells,List.append_nil,List.cons_append,List.nil_append]at r33
   have s33:=r33.rsl
   refine op_append (nxl rfl) Tryz.underlying22 Tryz.underlying22 te5 rfl rfl rp (by assumption) (by first|exact aP|exact bM|exact mem2|exact mem3|exact mem4|exact mem5|exact mem6|exact mem7|exact mem8|exact mem9) (by first|exact one_u8s _|exact one_u64s _|exact one_u32s _|(intro u hu;simp at hu;subst hu;rfl)) (by omega) (by omega) sel1 rfl (fun N34 a34 p34 r34=>?_)
   have s34:=r34.rsl
   refine aD (aC rfl) rfl rfl (aA (bC (aB (s_7 (At.region (aE (aC rfl) rfl rfl (op_subI (aC rfl) rfl rfl (by omega) (by omega) rfl (aD (aC rfl) rfl rfl (aA (aB (At.sub (L':= [N34,R]) (.cons_cons _ (.cons _ (.cons_cons _ (.slnil)))) ?_)))))))))))
   refine At.back ?_ (.refl _) ⟨j- 1,a34,np+1,p34,N34,rfl,rfl,rfl,by omega,by rw [hst (.inr (by omega)),List.length_append,hnp];rfl,by rw [hst (.inr (by omega)),u8s,List.map_append];exact r34⟩ ?_
   ·exact .cons (by first|exact a6 rfl (by omega)|rfl) (.cons (by first|exact a6 rfl (by omega)|rfl) (.cons (by first|exact a6 rfl (by omega)|rfl) .nil))
   ·omega
  refine At.skip (bC (aB (s_7 (At.region (aE (aC rfl) rfl rfl (op_subI (aC rfl) rfl rfl (by omega) (by omega) rfl (aD (aC rfl) rfl rfl (aA (aB ?_)))))))))
  have hc0: ¬(UInt8.ofNat (v32 l/256^(j- 1))).toNat≠0:=by rw [←hbyte];omega
  have hl0: ¬0<(bytesOf (v32 l/256^(i+1))).length:=by rw [←hj1', ←hnp];omega
  rw [hj1]at hc0
  refine At.back ?_ (.refl _) ⟨j- 1,ap,np,cp,Np,rfl,rfl,rfl,by omega,by rw [hj1,down_eq hl0 hc0, ←hj1'];exact hnp,by rw [hj1,down_eq hl0 hc0, ←hj1'];exact rp⟩ ?_
  ·exact .cons (by first|exact a6 rfl (by omega)|rfl) (.cons (by first|exact a6 rfl (by omega)|rfl) (.cons (by first|exact a6 rfl (by omega)|rfl) .nil))
  ·omega
 refine At.exit (aM (aM (At.inHit (aB (s_3 (At.seq fun _ s_10=>At.region (aE (aC rfl) rfl rfl (aD (aC rfl) rfl rfl (aA (aB (s_10 (At.ret ((aW (L1:= [Np]) rfl (.tmp rfl .nil) (.refl _) (.refl _) ?_))))))))))))))
 obtain rfl:j=0:=by omega
 rw [Nat.pow_zero,Nat.div_one]at hnp rp
 subst hnp
 exact⟨Np,ap,cp,rfl,rfl,rp⟩
end Go.Proofs.YtjfagifjajielaaGreat
/- quarryref02's From, Cmp; quarryref01's W. No condition but that bytes are not more than a machine holds. -/
namespace Go.Proofs.YtjfagifjajielaaGreat
open Go Go.RowKit
theorem ofNat_shl32 (x:UInt8) (m:Nat):shl32 (UInt32.ofNat x.toNat) m=UInt32.ofNat (x.toNat*2^m):=shl32_of _ (by have:=x.toNat_lt;omega) m
theorem rFrom_f {N:Heaplet} {ao:Option Addr} {n cap:Nat} {l:List UInt8} (h:RSl N 1 ao n cap (u8s l)) (hn:n≤140737488351232):
 Fn Tryz.prog 149 #[.slice ao n cap] [] [N] (fun v L=> ∃M a c,v=.slice a (digsOf (be l)).length c∧L= [M]∧RSl M 1 a (digsOf (be l)).length c (u32s (digsOf (be l)))):=by
 have hlen:=h.len8
 have hcap:=h.cap63
 refine Fn.enter (vs:= [.slice ao n cap]) Tryz.func149 rfl rfl rfl ?_
 intro E R hR
 have h:=h.le (hR N (by simp))
 change At _ _ E [R] _
 refine At.seq fun _ s_1=>At.region (aD (aC rfl) rfl rfl (aA (aB (s_1 (At.seq fun _ s_2=>At.region (aE (aC rfl) rfl rfl (a7 (aC rfl) se22 rfl rfl (bI (aC rfl) rfl rfl (by omega) (by omega) rfl (op_quoI (aC rfl) rfl rfl (by omega) (by omega) (by omega) rfl ?_)))))))))
 refine op_make (aT rfl) Tryz.underlying168 te172 rfl rfl (show _=((((n+3)/4:Nat)):Int)from by omega) (show _=((((n+3)/4:Nat)):Int)from by omega) (by omega) (by unfold maxLen;omega) rfl (fun N10 a10 r10=>?_)
 rw [made_one _ _ rfl,zero_u32s]at r10
 have s10:=r10.rsl
 refine aD (aC rfl) rfl rfl (aA (aB (s_2 (At.seq fun _ s_3=>At.seq fun _ s_4=>At.region (aD (aC rfl) rfl rfl (aA (aB (s_4 (At.block (At.loop (fun fr_ hp_ ms_=> ∃(k:Nat) (Nq:Heaplet),fr_= [(0,.slice ao n cap),(3,.slice a10 ((n+3)/4) ((n+3)/4)),(4,.int .i64 (k:Int))]∧hp_= [Nq,R]∧n- k=ms_∧(k≤n)∧(Row Nq 172 1 a10 ((n+3)/4) ((n+3)/4) (u32s (rfromSt l k)))) ?_ (.refl _) ⟨0,N10,rfl,rfl,rfl,by omega,by simpa [rfromSt,hlen]using r10⟩ ?_))))))))))
 ·exact .cons (by first|exact a6 rfl (by omega)|rfl) (.cons (by first|exact a6 rfl (by omega)|rfl) (.cons (by first|exact a6 rfl (by omega)|rfl) .nil))
 rintro _ _ _ ⟨k,Nq,rfl,rfl,rfl,hk,rq⟩
 have sq:=rq.rsl
 have hlq:=sq.len32
 refine At.seq fun _ s_5=>At.seq fun _ s_6=>At.region (aE (aC rfl) rfl rfl (aE (aC rfl) rfl rfl (a7 (aC rfl) se22 rfl rfl (op_lss (aC rfl) rfl rfl rfl (aA (aB (s_6 (aO rfl (fun c14=>?_) (fun c14=>?_)))))))))
 ·refine At.skip (aB (s_5 (At.seq fun _ s_7=>At.block (At.seq fun _ s_8=>At.region (aE (aC rfl) rfl rfl (a7 (aC rfl) se22 rfl rfl (op_subI (aC rfl) rfl rfl (by omega) (by omega) rfl (aE (aC rfl) rfl rfl (op_subI (aC rfl) rfl rfl (by omega) (by omega) rfl (aD (aC rfl) rfl rfl (aA (aB (s_8 (At.drawn [19] [0,1,2,3,4,5,6,7,8,9,10,11,12,13,14,15,16,17,18,19] (by kernel_rfl) (by kernel_rfl) (aE (aR rfl rfl rfl (by kernel_rfl)) rfl rfl (aE (aR rfl rfl rfl (by kernel_rfl)) rfl rfl (op_quoI (aR rfl rfl rfl (by kernel_rfl)) rfl rfl (by omega) (by omega) (by omega) rfl (aE (aR rfl rfl rfl (by kernel_rfl)) rfl rfl (aE (aR rfl rfl rfl (by kernel_rfl)) rfl rfl (op_quoI (aR rfl rfl rfl (by kernel_rfl)) rfl rfl (by omega) (by omega) (by omega) rfl ?_))))))))))))))))))))
  refine op_idx1 (aR rfl rfl rfl (by kernel_rfl)) se168 rfl rfl (by assumption) (show _=(((k/4:Nat)):Int)from by omega) (by omega) rfl ?_
  refine bK (aR rfl rfl rfl (by kernel_rfl)) sc172 rfl (by assumption) (by first|exact get8 (by omega)|exact get64 (by omega)|exact get32 (by omega)) (by first|exact aP|exact bM|exact mem2|exact mem3|exact mem4|exact mem5|exact mem6|exact mem7|exact mem8|exact mem9) rfl ?_
  refine aE (aR rfl rfl rfl (by kernel_rfl)) rfl rfl (aE (aR rfl rfl rfl (by kernel_rfl)) rfl rfl (op_idx1 (aR rfl rfl rfl (by kernel_rfl)) se22 rfl rfl (by assumption) (show _=(((n- 1- k:Nat)):Int)from by omega) (by omega) rfl ?_))
  refine bK (aR rfl rfl rfl (by kernel_rfl)) sc5 rfl (by assumption) (by first|exact get8 (by omega)|exact get64 (by omega)|exact get32 (by omega)) (by first|exact aP|exact bM|exact mem2|exact mem3|exact mem4|exact mem5|exact mem6|exact mem7|exact mem8|exact mem9) rfl ?_
  refine op_conv32 (aR rfl rfl rfl (by kernel_rfl)) (und_some Tryz.underlying5) Tryz.underlying172 rfl (by first|rfl|exact(Int.toNat_of_nonneg (by omega)).symm) rfl ?_
  refine aE (aR rfl rfl rfl (by kernel_rfl)) rfl rfl (op_rem (aR rfl rfl rfl (by kernel_rfl)) rfl rfl (by omega) (by omega) rfl (op_mulI (aR rfl rfl rfl (by kernel_rfl)) rfl rfl (by omega) (by omega) rfl (op_shlU32 (aR rfl rfl rfl (by kernel_rfl)) rfl rfl (show _=(((8*(k % 4):Nat)):Int)from by omega) rfl ?_)))
  refine op_orU32 (aR rfl rfl rfl (by kernel_rfl)) rfl rfl rfl (op_idx1 (aR rfl rfl rfl (by kernel_rfl)) se168 rfl rfl (by assumption) (show _=(((k/4:Nat)):Int)from by omega) (by omega) rfl ?_)
  refine op_storeE (nxos rfl rfl rfl rfl) sz172 rfl rfl rfl rfl rfl rq (by simp<;>omega) (by simp) sel0 (fun Nq rq=>?_)
  simp only [setL]at rq
  have sq:=rq.rsl
  refine At.oneNil (bC (aB (s_7 (At.region (aE (aC rfl) rfl rfl (bI (aC rfl) rfl rfl (by omega) (by omega) rfl (aD (aC rfl) rfl rfl (aA (aB ?_)))))))))
  refine At.back ?_ (.refl _) ⟨k+1,Nq,rfl,rfl,rfl,by omega,by rw [rfromSt,rfromStep,hlen, ←ofNat_shl32, ←set_u32s];exact rq⟩ ?_
  ·exact .cons (by first|exact a6 rfl (by omega)|rfl) (.cons (by first|exact a6 rfl (by omega)|rfl) (.cons (by first|exact a6 rfl (by omega)|rfl) .nil))
  ·omega
 refine At.exit (aM (aM (At.inHit (aB (s_3 (At.seq fun _ s_9=>At.region (aE (aC rfl) rfl rfl (aG (aT rfl) (.cons rfl .nil) (trim32_f sq) Tryz.func150 rfl rfl (by simp) rfl ?_))))))))
 rintro v42 L42 ⟨rfl,rfl,e1,e2⟩
 change At _ _ _ [Nq,R] _
 refine aD (aC rfl) rfl rfl (aA (aB (s_9 (At.ret ((aW (L1:= [Nq]) rfl (.tmp rfl .nil) (.refl _) (.refl _) ?_))))))
 obtain rfl:k=l.length:=by omega
 rw [rfromSt_all]at e1 e2⊢
 have h2:=sq.take e2 (Nat.le_refl _) e2
 rw [Nat.mul_one,u32s_take,e1]at h2
 exact⟨Nq,a10,_,rfl,rfl,h2⟩
/-- How two numbers stand to each other. -/
def cmpI (x y:Nat):Int:=if x<y then-1 else if y<x then 1 else 0
theorem digs_lt {x y:Nat} (h:(digsOf x).length<(digsOf y).length):x<y:=by
 rw [length_digsOf,length_digsOf]at h
 rcases Nat.lt_or_ge x y with h1|h1
 ·exact h1
 ·have:=bitLen_mono h1;omega
theorem digs_eq_len {x y:Nat} (h:(digsOf x).length=(digsOf y).length):x/2^(32*(digsOf x).length)=y/2^(32*(digsOf x).length):=by
 have h1:=v32_lt (digsOf x)
 have h2:=v32_lt (digsOf y)
 rw [v32_digsOf]at h1 h2
 rw [Nat.div_eq_of_lt h1,h,Nat.div_eq_of_lt h2]
theorem digs_at {x j:Nat} (h:j<(digsOf x).length):x/2^(32*j)=x/2^(32*(j+1))*2^32+((digsOf x).getD j 0).toNat:=by
 have e:=dig_v32 h
 rw [v32_digsOf]at e
 rw [List.getD_eq_getElem?_getD,List.getElem?_eq_getElem h,Option.getD_some, ←e,show 32*(j+1)=32*j+32 by omega,Nat.pow_add, ←Nat.div_div_eq_div_mul]
 omega
theorem lt_of_div {x y p:Nat} (h:x/p<y/p):x<y:=by
 rcases Nat.lt_or_ge x y with h1|h1
 ·exact h1
 ·have:=Nat.div_le_div_right (c:=p) h1;omega
theorem cmpI_le {x y:Nat} :cmpI x y≤0↔x≤y:=by
 unfold cmpI
 split
 ·omega
 ·split<;>omega
theorem Cmp32_f {N M:Heaplet} {ax ay:Option Addr} {nx ny cx cy x y:Nat} (hx:RSl N 1 ax nx cx (u32s (digsOf x))) (hy:RSl M 1 ay ny cy (u32s (digsOf y))):
 Fn Tryz.prog 99 #[.slice ax nx cx,.slice ay ny cy] [] [N,M] (fun v L=>v=.int .i64 (cmpI x y)∧L= []):=by
 have lx:=hx.len32
 have ly:=hy.len32
 have hcx:=hx.cap63
 have hcy:=hy.cap63
 refine Fn.enter (vs:= [.slice ax nx cx,.slice ay ny cy]) Tryz.func99 rfl rfl rfl ?_
 intro E R hR
 have hx:=hx.le (hR N (by simp))
 have hy:=hy.le (hR M (by simp))
 change At _ _ E [R] _
 refine At.seq fun _ s_1=>At.region (aD (aC rfl) rfl rfl (aA (aB (s_1 (At.seq fun _ s_2=>At.seq fun _ s_3=>At.region (aE (aC rfl) rfl rfl (a7 (aC rfl) se168 rfl rfl (aE (aC rfl) rfl rfl (a7 (aC rfl) se168 rfl rfl (op_neq (aC rfl) rfl rfl rfl (aA (aB (s_3 (aO rfl (fun c10=>?_) (fun c10=>?_)))))))))))))))
 ·refine At.seq fun _ s_4=>At.seq fun _ s_5=>At.region (aE (aC rfl) rfl rfl (a7 (aC rfl) se168 rfl rfl (aE (aC rfl) rfl rfl (a7 (aC rfl) se168 rfl rfl (op_lss (aC rfl) rfl rfl rfl (aA (aB (s_5 (aO rfl (fun c15=>?_) (fun c15=>?_))))))))))
  ·refine At.seq fun _ s_6=>At.region (aD (aC rfl) rfl rfl (aA (aB (s_6 (At.ret (aJ (aJ ((aW (L1:= []) rfl (.tmp rfl .nil) (.refl _) (.refl _) ?_)))))))))
   have:= @digs_lt x y (by omega);exact⟨by rw [cmpI,if_pos this],rfl⟩
  refine At.skip (aB (s_4 (At.seq fun _ s_7=>At.region (aD (aC rfl) rfl rfl (aA (aB (s_7 (At.ret (aJ ((aW (L1:= []) rfl (.tmp rfl .nil) (.refl _) (.refl _) ?_)))))))))))
  have:= @digs_lt y x (by omega);exact⟨by rw [cmpI,if_neg (by omega),if_pos this],rfl⟩
 refine At.skip (aB (s_2 (At.seq fun _ s_8=>At.seq fun _ s_9=>At.region (aE (aC rfl) rfl rfl (a7 (aC rfl) se168 rfl rfl (op_subI (aC rfl) rfl rfl (by omega) (by omega) rfl (aD (aC rfl) rfl rfl (aA (aB (s_9 (At.block ?_)))))))))))
 refine At.loop (fun fr_ hp_ ms_=> ∃(j:Nat),fr_= [(0,.slice ax nx cx),(1,.slice ay ny cy),(5,.int .i64 ((j:Int)- 1))]∧hp_= [R]∧j=ms_∧(j≤nx)∧(x/2^(32*j)=y/2^(32*j))) ?_ (.refl _) ⟨nx,rfl,rfl,rfl,Nat.le_refl _,by have e:=digs_eq_len (x:=x) (y:=y) (by omega);rwa [lx]at e⟩ ?_
 ·exact .cons (by first|exact a6 rfl (by omega)|rfl) (.cons (by first|exact a6 rfl (by omega)|rfl) (.cons (by first|exact a6 rfl (by omega)|rfl) .nil))
 rintro _ _ _ ⟨j,rfl,rfl,rfl,hj,hd⟩
 have hat:0<j→x/2^(32*(j- 1))=x/2^(32*j)*2^32+((digsOf x).getD (j- 1) 0).toNat∧y/2^(32*(j- 1))=y/2^(32*j)*2^32+((digsOf y).getD (j- 1) 0).toNat:=fun h0=>by
  have e1:=digs_at (x:=x) (j:=j- 1) (by omega)
  have e2:=digs_at (x:=y) (j:=j- 1) (by omega)
  rw [show j- 1+1=j by omega]at e1 e2
  exact⟨e1,e2⟩
 refine At.seq fun _ s_10=>At.seq fun _ s_11=>At.region (aE (aC rfl) rfl rfl (op_geq (aC rfl) rfl rfl rfl (aA (aB (s_11 (aO rfl (fun c20=>?_) (fun c20=>?_)))))))
 ·refine At.skip (aB (s_10 (At.seq fun _ s_12=>At.block (At.seq fun _ s_13=>At.seq fun _ s_14=>At.drawn [] [0,1,2,3,4,5,6,7,8] (by kernel_rfl) (by kernel_rfl) (aE (aR rfl rfl rfl (by kernel_rfl)) rfl rfl (aE (aR rfl rfl rfl (by kernel_rfl)) rfl rfl (op_idx1 (aR rfl rfl rfl (by kernel_rfl)) se168 rfl rfl (by assumption) (show _=(((j- 1:Nat)):Int)from by omega) (by omega) rfl ?_)))))))
  refine bK (aR rfl rfl rfl (by kernel_rfl)) sc172 rfl (by assumption) (by first|exact get8 (by omega)|exact get64 (by omega)|exact get32 (by omega)) (by first|exact aP|exact bM|exact mem2|exact mem3|exact mem4|exact mem5|exact mem6|exact mem7|exact mem8|exact mem9) rfl ?_
  refine aE (aR rfl rfl rfl (by kernel_rfl)) rfl rfl (aE (aR rfl rfl rfl (by kernel_rfl)) rfl rfl (op_idx1 (aR rfl rfl rfl (by kernel_rfl)) se168 rfl rfl (by assumption) (show _=(((j- 1:Nat)):Int)from by omega) (by omega) rfl ?_))
  refine bK (aR rfl rfl rfl (by kernel_rfl)) sc172 rfl (by assumption) (by first|exact get8 (by omega)|exact get64 (by omega)|exact get32 (by omega)) (by first|exact aP|exact bM|exact mem2|exact mem3|exact mem4|exact mem5|exact mem6|exact mem7|exact mem8|exact mem9) rfl ?_
  refine op_lss (aR rfl rfl rfl (by kernel_rfl)) rfl rfl rfl (At.oneNil (aB (s_14 (aO rfl (fun c31=>?_) (fun c31=>?_)))))
  ·refine At.seq fun _ s_15=>At.region (aD (aC rfl) rfl rfl (aA (aB (s_15 (At.ret (aJ (bP (aJ (aJ (bP (aJ ((aW (L1:= []) rfl (.tmp rfl .nil) (.refl _) (.refl _) ?_)))))))))))))
   have ⟨e1,e2⟩:=hat (by omega)
   have:=lt_of_div (x:=x) (y:=y) (p:=2^(32*(j- 1))) (by rw [e1,e2,hd];omega)
   exact⟨by rw [cmpI,if_pos this],rfl⟩
  refine At.skip (aB (s_13 (At.seq fun _ s_16=>At.drawn [] [0,1,2,3,4,5,6,7,8] (by kernel_rfl) (by kernel_rfl) (aE (aR rfl rfl rfl (by kernel_rfl)) rfl rfl (aE (aR rfl rfl rfl (by kernel_rfl)) rfl rfl (op_idx1 (aR rfl rfl rfl (by kernel_rfl)) se168 rfl rfl (by assumption) (show _=(((j- 1:Nat)):Int)from by omega) (by omega) rfl ?_))))))
  refine bK (aR rfl rfl rfl (by kernel_rfl)) sc172 rfl (by assumption) (by first|exact get8 (by omega)|exact get64 (by omega)|exact get32 (by omega)) (by first|exact aP|exact bM|exact mem2|exact mem3|exact mem4|exact mem5|exact mem6|exact mem7|exact mem8|exact mem9) rfl ?_
  refine aE (aR rfl rfl rfl (by kernel_rfl)) rfl rfl (aE (aR rfl rfl rfl (by kernel_rfl)) rfl rfl (op_idx1 (aR rfl rfl rfl (by kernel_rfl)) se168 rfl rfl (by assumption) (show _=(((j- 1:Nat)):Int)from by omega) (by omega) rfl ?_))
  refine bK (aR rfl rfl rfl (by kernel_rfl)) sc172 rfl (by assumption) (by first|exact get8 (by omega)|exact get64 (by omega)|exact get32 (by omega)) (by first|exact aP|exact bM|exact mem2|exact mem3|exact mem4|exact mem5|exact mem6|exact mem7|exact mem8|exact mem9) rfl ?_
  refine op_gtr (aR rfl rfl rfl (by kernel_rfl)) rfl rfl rfl (At.oneNil (aB (s_16 (aO rfl (fun c40=>?_) (fun c40=>?_)))))
  ·refine At.seq fun _ s_17=>At.region (aD (aC rfl) rfl rfl (aA (aB (s_17 (At.ret (bP (aJ (aJ (bP (aJ ((aW (L1:= []) rfl (.tmp rfl .nil) (.refl _) (.refl _) ?_))))))))))))
   have ⟨e1,e2⟩:=hat (by omega)
   have:=lt_of_div (x:=y) (y:=x) (p:=2^(32*(j- 1))) (by rw [e1,e2,hd];omega)
   exact⟨by rw [cmpI,if_neg (by omega),if_pos this],rfl⟩
  refine At.skip (bC (aB (s_12 (At.region (aE (aC rfl) rfl rfl (op_subI (aC rfl) rfl rfl (by omega) (by omega) rfl (aD (aC rfl) rfl rfl (aA (aB ?_)))))))))
  refine At.back ?_ (.refl _) ⟨j- 1,rfl,rfl,rfl,by omega,by have ⟨e1,e2⟩:=hat (by omega);rw [e1,e2,hd];omega⟩ ?_
  ·exact .cons (by first|exact a6 rfl (by omega)|rfl) (.cons (by first|exact a6 rfl (by omega)|rfl) (.cons (by first|exact a6 rfl (by omega)|rfl) .nil))
  ·omega
 refine At.exit (aM (aM (At.inHit (aB (s_8 (At.seq fun _ s_18=>At.region (aD (aC rfl) rfl rfl (aA (aB (s_18 (At.ret ((aW (L1:= []) rfl (.tmp rfl .nil) (.refl _) (.refl _) ?_)))))))))))))
 obtain rfl:j=0:=by omega
 simp only [Nat.mul_zero,Nat.pow_zero,Nat.div_one]at hd
 exact⟨by rw [cmpI,if_neg (by omega),if_neg (by omega)],rfl⟩
theorem rW_f {N:Heaplet} {ao:Option Addr} {n cap:Nat} {l:List UInt32} (h:RSl N 1 ao n cap (u32s l)):
 Fn Tryz.prog 104 #[.slice ao n cap] [] [N] (fun v L=>L= []∧ ∃a b c d:UInt64,v=.agg #[.int .u64 (a.toNat:Int),.int .u64 (b.toNat:Int),.int .u64 (c.toNat:Int),.int .u64 (d.toNat:Int)]∧v64 [a,b,c,d]=v32 l % 2^256):=by
 have hlen:=h.len32
 have hcap:=h.cap63
 refine Fn.enter (vs:= [.slice ao n cap]) Tryz.func104 rfl rfl rfl ?_
 intro E R hR
 have h:=h.le (hR N (by simp))
 change At _ _ E [R] _
 refine At.seq fun _ s_1=>At.region (aS (aT rfl) ze26 rfl (fun N2 b2 B2=>?_))
 change Blk N2 b2 _ [.int .u64 0,.int .u64 0,.int .u64 0,.int .u64 0]at B2
 refine aA (aB (s_1 (At.seq fun _ s_2=>At.region (aS (aT rfl) ze26 rfl (fun N3 b3 B3=>?_)))))
 change Blk N3 b3 _ [.int .u64 0,.int .u64 0,.int .u64 0,.int .u64 0]at B3
 change Blk N3 b3 _ (u64s [0,0,0,0])at B3
 refine aA (aB (s_2 (At.seq fun _ s_3=>At.seq fun _ s_4=>At.region (aD (aC rfl) rfl rfl (aA (aB (s_4 (At.block (At.perm sel2 (At.perm sel1 (At.perm sel2 (At.loop (fun fr_ hp_ ms_=> ∃(k:Nat) (m:List UInt64) (N3:Heaplet),fr_= [(0,.slice ao n cap),(2,.pointer (some ⟨b2,0,none⟩)),(3,.pointer (some ⟨b3,0,none⟩)),(4,.int .i64 (k:Int))]∧hp_= [N2,N3,R]∧8- k=ms_∧(k≤8)∧(k≤n)∧(m.length=4)∧(v64 m=v32 (l.take k))∧(Blk N3 b3 26 (u64s m))) ?_ (.refl _) ⟨0,[0,0,0,0],N3,rfl,rfl,rfl,by omega,by omega,rfl,rfl,B3⟩ ?_))))))))))))
 ·exact .cons (by first|exact a6 rfl (by omega)|rfl) (.cons (by first|exact a6 rfl (by omega)|rfl) (.cons (by first|exact a6 rfl (by omega)|rfl) (.cons (by first|exact a6 rfl (by omega)|rfl) .nil)))
 rintro _ _ _ ⟨k,m,N3,rfl,rfl,rfl,hk,hkn,hm,hv,B3⟩
 refine At.seq fun _ s_5=>At.seq fun _ s_6=>At.region (aE (aC rfl) rfl rfl (op_lss (aC rfl) rfl rfl rfl (aE (aC rfl) rfl rfl (At.partP (d:=7) rfl (fun g7=>?_) (fun g7=>?_)))))
 ·refine aE (bF rfl rfl rfl rfl) rfl rfl (aE (bF rfl rfl rfl rfl) rfl rfl (a7 (bF rfl rfl rfl rfl) se168 rfl rfl (op_lss (bF rfl rfl rfl rfl) rfl rfl rfl (bN (aC rfl) rfl rfl rfl (aA (aB (s_6 (aO rfl (fun c12=>?_) (fun c12=>?_)))))))))
  ·refine At.skip (aB (s_5 (At.seq fun _ s_7=>At.block (At.drawn [17] [0,1,2,3,4,5,6,7,8,9,10,11,12,13,14,15,16,17] (by kernel_rfl) (by kernel_rfl) (aE (aR rfl rfl rfl (by kernel_rfl)) rfl rfl (op_quoI (aR rfl rfl rfl (by kernel_rfl)) rfl rfl (by omega) (by omega) (by omega) rfl (aE (aR rfl rfl rfl (by kernel_rfl)) rfl rfl (op_quoI (aR rfl rfl rfl (by kernel_rfl)) rfl rfl (by omega) (by omega) (by omega) rfl (op_idxA (aR rfl rfl rfl (by kernel_rfl)) ae26 rfl rfl (show _=(((k/2:Nat)):Int)from by omega) (by omega) rfl ?_)))))))))
   refine aL (aR rfl rfl rfl (by kernel_rfl)) sc24 rfl B3 (by first|exact get64A (by omega)|rfl) bM rfl ?_
   refine aE (aR rfl rfl rfl (by kernel_rfl)) rfl rfl (aE (aR rfl rfl rfl (by kernel_rfl)) rfl rfl (op_idx1 (aR rfl rfl rfl (by kernel_rfl)) se168 rfl rfl (by assumption) (show _=(((k:Nat)):Int)from by omega) (by omega) rfl ?_))
   refine bK (aR rfl rfl rfl (by kernel_rfl)) sc172 rfl (by assumption) (by first|exact get8 (by omega)|exact get64 (by omega)|exact get32 (by omega)) (by first|exact aP|exact bM|exact mem2|exact mem3|exact mem4|exact mem5|exact mem6|exact mem7|exact mem8|exact mem9) rfl ?_
   refine op_conv64 (aR rfl rfl rfl (by kernel_rfl)) (und_some Tryz.underlying172) Tryz.underlying24 rfl (by first|rfl|exact(Int.toNat_of_nonneg (by omega)).symm) rfl ?_
   refine aE (aR rfl rfl rfl (by kernel_rfl)) rfl rfl (op_rem (aR rfl rfl rfl (by kernel_rfl)) rfl rfl (by omega) (by omega) rfl (op_mulI (aR rfl rfl rfl (by kernel_rfl)) rfl rfl (by omega) (by omega) rfl (op_shlU (aR rfl rfl rfl (by kernel_rfl)) rfl rfl (show _=(((32*(k % 2):Nat)):Int)from by omega) rfl ?_)))
   refine op_orU (aR rfl rfl rfl (by kernel_rfl)) rfl rfl rfl (op_idxA (aR rfl rfl rfl (by kernel_rfl)) ae26 rfl rfl (show _=(((k/2:Nat)):Int)from by omega) (by omega) rfl ?_)
   refine aI (nxos rfl rfl rfl rfl) sz24 rfl rfl rfl rfl rfl B3 (by simp<;>omega) sel1 (fun N3 B3=>?_)
   rw [set64A]at B3
   refine At.oneNil (bC (aB (s_7 (At.region (aE (aC rfl) rfl rfl (bI (aC rfl) rfl rfl (by omega) (by omega) rfl (aD (aC rfl) rfl rfl (aA (aB (At.perm sel2 (At.perm sel1 (At.perm sel2 ?_))))))))))))
   refine At.back ?_ (.refl _) ⟨k+1,_,N3,rfl,rfl,rfl,by omega,by omega,by simpa using hm,by rw [shl64_of _ (by have:=(l.getD k 0).toNat_lt;omega)];exact w_step hm hv (by omega) (by omega),B3⟩ ?_
   ·exact .cons (by first|exact a6 rfl (by omega)|rfl) (.cons (by first|exact a6 rfl (by omega)|rfl) (.cons (by first|exact a6 rfl (by omega)|rfl) (.cons (by first|exact a6 rfl (by omega)|rfl) .nil)))
   ·omega
  refine At.exit (aM (aM (At.inHit (aB (s_3 (At.seq fun _ s_8=>At.region ?_))))))
  obtain⟨a,b,c,d,rfl⟩:=four hm
  have hfin:v64 [a,b,c,d]=v32 l % 2^256:=by
   rw [hv,v32_take_mod]
   by_cases h8:k=8
   ·rw [h8]
   ·have hk':l.length≤k:=by omega
    have:=v32_lt l
    have h1:v32 l<2^(32*k):=Nat.lt_of_lt_of_le this (Nat.pow_le_pow_right (by decide) (by omega))
    have h2:v32 l<2^256:=Nat.lt_of_lt_of_le h1 (Nat.pow_le_pow_right (by decide) (by omega))
    rw [Nat.mod_eq_of_lt h1,Nat.mod_eq_of_lt h2]
  change Blk N3 b3 _ [.int .u64 (a.toNat:Int),.int .u64 (b.toNat:Int),.int .u64 (c.toNat:Int),.int .u64 (d.toNat:Int)]at B3
  refine aQ (ds:= [_,_,_,_]) (aC rfl) ag26 rfl B3 rfl rfl bM rfl (aI (nxl rfl) sz26 rfl rfl rfl rfl rfl B2 (by simp) sel0 (fun N2 B2=>?_))
  simp only [setL,List.set]at B2
  refine aA (aB (s_8 (At.ret ((At.sub (L':= [N2,R]) (.cons_cons _ (.cons _ (.cons_cons _ (.slnil)))) (aW (L1:= []) rfl (.cell rfl (aZ (ds:= [_,_,_,_]) ag26 B2 rfl rfl aP) .nil) (.cons _ (.refl _)) (.refl _) ?_))))))
  exact⟨rfl,a,b,c,d,rfl,hfin⟩
 refine aN rfl rfl rfl rfl rfl rfl rfl (aN rfl rfl rfl rfl rfl rfl rfl (aN rfl rfl rfl rfl rfl rfl rfl (aN rfl rfl rfl rfl rfl rfl rfl (op_pickF (aC rfl) rfl rfl rfl (aA (aB (s_6 (At.condF rfl (At.exit (aM (aM (At.inHit (aB (s_3 (At.seq fun _ s_9=>At.region ?_)))))))))))))))
 obtain⟨a,b,c,d,rfl⟩:=four hm
 have hfin:v64 [a,b,c,d]=v32 l % 2^256:=by
  rw [hv,v32_take_mod]
  by_cases h8:k=8
  ·rw [h8]
  ·have hk':l.length≤k:=by omega
   have:=v32_lt l
   have h1:v32 l<2^(32*k):=Nat.lt_of_lt_of_le this (Nat.pow_le_pow_right (by decide) (by omega))
   have h2:v32 l<2^256:=Nat.lt_of_lt_of_le h1 (Nat.pow_le_pow_right (by decide) (by omega))
   rw [Nat.mod_eq_of_lt h1,Nat.mod_eq_of_lt h2]
 change Blk N3 b3 _ [.int .u64 (a.toNat:Int),.int .u64 (b.toNat:Int),.int .u64 (c.toNat:Int),.int .u64 (d.toNat:Int)]at B3
 refine aQ (ds:= [_,_,_,_]) (aC rfl) ag26 rfl B3 rfl rfl bM rfl (aI (nxl rfl) sz26 rfl rfl rfl rfl rfl B2 (by simp) sel0 (fun N2 B2=>?_))
 simp only [setL,List.set]at B2
 refine aA (aB (s_9 (At.ret ((At.sub (L':= [N2,R]) (.cons_cons _ (.cons _ (.cons_cons _ (.slnil)))) (aW (L1:= []) rfl (.cell rfl (aZ (ds:= [_,_,_,_]) ag26 B2 rfl rfl aP) .nil) (.cons _ (.refl _)) (.refl _) ?_))))))
 exact⟨rfl,a,b,c,d,rfl,hfin⟩
end Go.Proofs.YtjfagifjajielaaGreat
/- package word's From, Bits, Bytes, Short; the reference's N, Short. No condition. -/
namespace Go.Proofs.YtjfagifjajielaaGreat
open Go Go.RowKit
theorem WFrom_long {N:Heaplet} {ao:Option Addr} {n cap:Nat} {l:List UInt8} (h:RSl N 1 ao n cap (u8s l)) (hn:32<n):
 Fn Tryz.prog 169 #[.slice ao n cap] [] [N] (fun v L=>v=.tuple #[.agg #[.int .u64 0,.int .u64 0,.int .u64 0,.int .u64 0],.bool false]∧L= []):=by
 have hcap:=h.cap63
 refine Fn.enter (vs:= [.slice ao n cap]) Tryz.func169 rfl rfl rfl ?_
 intro E R hR
 change At _ _ E [R] _
 refine At.seq fun _ s_1=>At.region (aS (aT rfl) ze26 rfl (fun N2 b2 B2=>?_))
 change Blk N2 b2 _ [.int .u64 0,.int .u64 0,.int .u64 0,.int .u64 0]at B2
 refine aD (aC rfl) rfl rfl (aA (aB (s_1 (At.seq fun _ s_2=>At.seq fun _ s_3=>At.region (aE (aC rfl) rfl rfl (a7 (aC rfl) se22 rfl rfl (op_gtr (aC rfl) rfl rfl rfl (aA (aB (s_3 (aO rfl (fun c10=>?_) (fun c10=>?_))))))))))))
 rotate_left
 ·exfalso;omega
 refine At.seq fun _ s_4=>At.region (op_buildA (out:= [.int .u64 0,.int .u64 0,.int .u64 0,.int .u64 0]) (aC rfl) ze26 ae26 .nil rfl rfl (aI (nxl rfl) sz26 rfl rfl rfl rfl rfl B2 (by simp) sel0 (fun N2 B2=>?_)))
 simp only [setL,List.set]at B2
 refine aD (aC rfl) rfl rfl (aA (aB (s_4 (At.ret (aJ ((aU (L1:= []) rfl (.cell rfl (aZ (ds:= [_,_,_,_]) ag26 B2 rfl rfl aP) (.tmp rfl .nil)) rfl (.cons _ (.refl _)) (.refl _) ?_)))))))
 exact⟨rfl,rfl⟩
theorem WFrom_f {N:Heaplet} {ao:Option Addr} {n cap:Nat} {l:List UInt8} (h:RSl N 1 ao n cap (u8s l)) (hn:n≤32):
 Fn Tryz.prog 169 #[.slice ao n cap] [] [N] (fun v L=> ∃a b c d:UInt64,v=.tuple #[.agg #[.int .u64 (a.toNat:Int),.int .u64 (b.toNat:Int),.int .u64 (c.toNat:Int),.int .u64 (d.toNat:Int)],.bool true]∧L= []∧v64 [a,b,c,d]=be l):=by
 have hlen:=h.len8
 have hcap:=h.cap63
 refine Fn.enter (vs:= [.slice ao n cap]) Tryz.func169 rfl rfl rfl ?_
 intro E R hR
 have h:=h.le (hR N (by simp))
 change At _ _ E [R] _
 refine At.seq fun _ s_1=>At.region (aS (aT rfl) ze26 rfl (fun N2 b2 B2=>?_))
 change Blk N2 b2 _ [.int .u64 0,.int .u64 0,.int .u64 0,.int .u64 0]at B2
 refine aD (aC rfl) rfl rfl (aA (aB (s_1 (At.seq fun _ s_2=>At.seq fun _ s_3=>At.region (aE (aC rfl) rfl rfl (a7 (aC rfl) se22 rfl rfl (op_gtr (aC rfl) rfl rfl rfl (aA (aB (s_3 (aO rfl (fun c10=>?_) (fun c10=>?_))))))))))))
 ·exfalso;omega
 refine At.skip (aB (s_2 (At.seq fun _ s_4=>At.region (aS (aT rfl) ze26 rfl (fun N4 b4 B4=>?_)))))
 change Blk N4 b4 _ [.int .u64 0,.int .u64 0,.int .u64 0,.int .u64 0]at B4
 change Blk N4 b4 _ (u64s [0,0,0,0])at B4
 refine aA (aB (s_4 (At.seq fun _ s_5=>At.seq fun _ s_6=>At.region (aE (aC rfl) rfl rfl (a7 (aC rfl) se22 rfl rfl (aE (aC rfl) rfl rfl (aA (aB (s_6 (At.block (At.perm sel2 (At.perm sel1 (At.perm sel2 ?_)))))))))))))
 refine At.loop (fun fr_ hp_ ms_=> ∃(k:Nat) (m:List UInt64) (N4:Heaplet),fr_= [(0,.slice ao n cap),(2,.pointer (some ⟨b2,0,none⟩)),(4,.pointer (some ⟨b4,0,none⟩)),(12,.slice ao n cap),(13,.int .i64 (n:Int)),(14,.int .i64 (k:Int))]∧hp_= [N2,N4,R]∧n- k=ms_∧(k≤n)∧(m.length=4)∧(v64 m=be (l.take k)*256^(l.length- k))∧(Blk N4 b4 26 (u64s m))) ?_ (.refl _) ⟨0,[0,0,0,0],N4,rfl,rfl,rfl,by omega,rfl,by simp [be];rfl,B4⟩ ?_
 ·exact .cons (by first|exact a6 rfl (by omega)|rfl) (.cons (by first|exact a6 rfl (by omega)|rfl) (.cons (by first|exact a6 rfl (by omega)|rfl) (.cons (by first|exact a6 rfl (by omega)|rfl) (.cons (by first|exact a6 rfl (by omega)|rfl) (.cons (by first|exact a6 rfl (by omega)|rfl) .nil)))))
 rintro _ _ _ ⟨k,m,N4,rfl,rfl,rfl,hk,hm,hv,B4⟩
 refine At.seq fun _ s_7=>At.region (op_lss (aC rfl) rfl rfl rfl (aA (aB (s_7 (At.seq fun _ s_8=>aO rfl (fun c15=>?_) (fun c15=>?_))))))
 ·refine At.skip (aB (s_8 (At.seq fun _ s_9=>At.block (At.seq fun _ s_10=>At.region (aE (aC rfl) rfl rfl (op_idx1 (aC rfl) se22 rfl rfl (by assumption) (show _=(((k:Nat)):Int)from by omega) (by omega) rfl ?_))))))
  refine bK (aC rfl) sc5 rfl (by assumption) (by first|exact get8 (by omega)|exact get64 (by omega)|exact get32 (by omega)) (by first|exact aP|exact bM|exact mem2|exact mem3|exact mem4|exact mem5|exact mem6|exact mem7|exact mem8|exact mem9) rfl ?_
  refine aD (aC rfl) rfl rfl (aD (aC rfl) rfl rfl (aA (aB (s_10 (At.seq fun _ s_11=>At.region (aE (aC rfl) rfl rfl (a7 (aC rfl) se22 rfl rfl (op_subI (aC rfl) rfl rfl (by omega) (by omega) rfl (aE (aC rfl) rfl rfl (op_subI (aC rfl) rfl rfl (by omega) (by omega) rfl (aD (aC rfl) rfl rfl (aA (aB (s_11 (At.drawn [12] [0,1,2,3,4,5,6,7,8,9,10,11,12] (by kernel_rfl) (by kernel_rfl) (aE (aR rfl rfl rfl (by kernel_rfl)) rfl rfl (op_quoI (aR rfl rfl rfl (by kernel_rfl)) rfl rfl (by omega) (by omega) (by omega) rfl (op_idxA (aR rfl rfl rfl (by kernel_rfl)) ae26 rfl rfl (show _=((((n- 1- k)/8:Nat)):Int)from by omega) (by omega) rfl ?_))))))))))))))))))
  refine aL (aR rfl rfl rfl (by kernel_rfl)) sc24 rfl B4 (by first|exact get64A (by omega)|rfl) bM rfl ?_
  refine aE (aR rfl rfl rfl (by kernel_rfl)) rfl rfl (op_conv64 (aR rfl rfl rfl (by kernel_rfl)) (und_some Tryz.underlying5) Tryz.underlying24 rfl (by first|rfl|exact(Int.toNat_of_nonneg (by omega)).symm) rfl ?_)
  refine aE (aR rfl rfl rfl (by kernel_rfl)) rfl rfl (op_rem (aR rfl rfl rfl (by kernel_rfl)) rfl rfl (by omega) (by omega) rfl (op_mulI (aR rfl rfl rfl (by kernel_rfl)) rfl rfl (by omega) (by omega) rfl (op_shlU (aR rfl rfl rfl (by kernel_rfl)) rfl rfl (show _=((((n- 1- k) % 8*8:Nat)):Int)from by omega) rfl ?_)))
  refine op_orU (aR rfl rfl rfl (by kernel_rfl)) rfl rfl rfl (op_idxA (aR rfl rfl rfl (by kernel_rfl)) ae26 rfl rfl (show _=((((n- 1- k)/8:Nat)):Int)from by omega) (by omega) rfl ?_)
  refine aI (nxos rfl rfl rfl rfl) sz24 rfl rfl rfl rfl rfl B4 (by simp<;>omega) sel1 (fun N4 B4=>?_)
  rw [set64A]at B4
  refine At.oneNil (bC (aB (s_9 (At.region (bI (aC rfl) rfl rfl (by omega) (by omega) rfl (aE (aC rfl) rfl rfl (aA (aB (At.perm sel2 (At.perm sel1 (At.perm sel2 ?_)))))))))))
  refine At.back ?_ (.refl _) ⟨k+1,_,N4,rfl,rfl,rfl,by omega,by simpa using hm,by rw [shl64_of _ (by have:=(l.getD k 0).toNat_lt;omega), ←hlen];exact wfrom_step hm (by omega) (by omega) hv,B4⟩ ?_
  ·exact .cons (by first|exact a6 rfl (by omega)|rfl) (.cons (by first|exact a6 rfl (by omega)|rfl) (.cons (by first|exact a6 rfl (by omega)|rfl) (.cons (by first|exact a6 rfl (by omega)|rfl) (.cons (by first|exact a6 rfl (by omega)|rfl) (.cons (by first|exact a6 rfl (by omega)|rfl) .nil)))))
  ·omega
 refine At.exit (aM (aM (At.inHit (aB (s_5 (At.seq fun _ s_12=>At.region ?_))))))
 obtain⟨a,b,c,d,rfl⟩:=four hm
 have hfin:v64 [a,b,c,d]=be l:=by
  rw [hv,show k=l.length by omega,List.take_length,Nat.sub_self,Nat.pow_zero,Nat.mul_one]
 change Blk N4 b4 _ [.int .u64 (a.toNat:Int),.int .u64 (b.toNat:Int),.int .u64 (c.toNat:Int),.int .u64 (d.toNat:Int)]at B4
 refine aQ (ds:= [_,_,_,_]) (aC rfl) ag26 rfl B4 rfl rfl bM rfl (aI (nxl rfl) sz26 rfl rfl rfl rfl rfl B2 (by simp) sel0 (fun N2 B2=>?_))
 simp only [setL,List.set]at B2
 refine aD (aC rfl) rfl rfl (aA (aB (s_12 (At.ret ((At.sub (L':= [N2,R]) (.cons_cons _ (.cons _ (.cons_cons _ (.slnil)))) (aU (L1:= []) rfl (.cell rfl (aZ (ds:= [_,_,_,_]) ag26 B2 rfl rfl aP) (.tmp rfl .nil)) rfl (.cons _ (.refl _)) (.refl _) ?_)))))))
 exact⟨a,b,c,d,rfl,rfl,hfin⟩
theorem WBits_f (a b c d:UInt64):Fn Tryz.prog 173 #[.agg #[.int .u64 (a.toNat:Int),.int .u64 (b.toNat:Int),.int .u64 (c.toNat:Int),.int .u64 (d.toNat:Int)]] [] [] (fun v L=>v=.int .i64 (bitLen (v64 [a,b,c,d]):Nat)∧L= []):=by
 obtain⟨m,hm⟩: ∃m,m= [a,b,c,d]:=⟨_,rfl⟩
 have hm4:m.length=4:=by rw [hm];rfl
 refine Fn.enter (vs:= [.agg #[.int .u64 (a.toNat:Int),.int .u64 (b.toNat:Int),.int .u64 (c.toNat:Int),.int .u64 (d.toNat:Int)]]) Tryz.func173 rfl rfl rfl ?_
 intro E R hR
 change At _ _ E [R] _
 refine At.seq fun _ s_1=>At.region (op_box (aT rfl) rfl rfl rfl (fun N1 b1 B1=>?_))
 change Blk N1 b1 _ (u64s [a,b,c,d])at B1
 rw [←hm]at B1⊢
 refine aD (aC rfl) rfl rfl (aA (aB (s_1 (At.seq fun _ s_2=>At.seq fun _ s_3=>At.region (aD (aC rfl) rfl rfl (aA (aB (s_3 (At.block (At.loop (fun fr_ hp_ ms_=> ∃(j:Nat),fr_= [(1,.pointer (some ⟨b1,0,none⟩)),(3,.int .i64 ((j:Int)- 1))]∧hp_= [N1,R]∧j=ms_∧(j≤4)∧(v64 m=v64 (m.take j))) ?_ (.refl _) ⟨4,rfl,rfl,rfl,by omega,by rw [List.take_of_length_le (by omega)]⟩ ?_))))))))))
 ·exact .cons (by first|exact a6 rfl (by omega)|rfl) (.cons (by first|exact a6 rfl (by omega)|rfl) .nil)
 rintro _ _ _ ⟨j,rfl,rfl,rfl,hj,hv⟩
 refine At.seq fun _ s_4=>At.seq fun _ s_5=>At.region (aE (aC rfl) rfl rfl (op_geq (aC rfl) rfl rfl rfl (aA (aB (s_5 (aO rfl (fun c5=>?_) (fun c5=>?_)))))))
 ·refine At.skip (aB (s_4 (At.seq fun _ s_6=>At.block (At.seq fun _ s_7=>At.region (aE (aC rfl) rfl rfl (op_idxA (aC rfl) ae26 rfl rfl (show _=(((j- 1:Nat)):Int)from by omega) (by omega) rfl ?_))))))
  refine aL (aC rfl) sc24 rfl B1 (by first|exact get64A (by omega)|rfl) aP rfl ?_
  refine op_neq (aC rfl) rfl rfl rfl (aA (aB (s_7 (aO rfl (fun c11=>?_) (fun c11=>?_)))))
  ·refine At.seq fun _ s_8=>At.region (aE (aC rfl) rfl rfl (op_mulI (aC rfl) rfl rfl (by omega) (by omega) rfl (aE (aC rfl) rfl rfl (op_idxA (aC rfl) ae26 rfl rfl (show _=(((j- 1:Nat)):Int)from by omega) (by omega) rfl ?_))))
   refine aL (aC rfl) sc24 rfl B1 (by first|exact get64A (by omega)|rfl) aP rfl ?_
   refine aG (aT rfl) (.cons rfl .nil) (Len64_f (m.getD (j- 1) 0)) Tryz.func183 rfl rfl (by simp) rfl ?_
   rintro v17 L17 ⟨rfl,rfl⟩
   change At _ _ _ [N1,R] _
   have h64:=bitLen_le.2 (m.getD (j- 1) 0).toNat_lt
   refine bI (aC rfl) rfl rfl (by omega) (by omega) rfl (aD (aC rfl) rfl rfl (aA (aB (s_8 (At.ret (bP (aJ (aJ (bP (aJ ((At.sub (L':= [R]) (.cons _ (.cons_cons _ (.slnil))) (aW (L1:= []) rfl (.tmp rfl .nil) (.refl _) (.refl _) ?_)))))))))))))
   exact⟨by rw [←hm,bits_at (k:=j- 1) (by omega) (by omega) (by rw [show j- 1+1=j by omega];exact hv)];congr 1;omega,rfl⟩
  refine At.skip (bC (aB (s_6 (At.region (aE (aC rfl) rfl rfl (op_subI (aC rfl) rfl rfl (by omega) (by omega) rfl (aD (aC rfl) rfl rfl (aA (aB ?_)))))))))
  refine At.back ?_ (.refl _) ⟨j- 1,rfl,rfl,rfl,by omega,v64_take_zero (by omega) (by omega) (by rw [show j- 1+1=j by omega];exact hv)⟩ ?_
  ·exact .cons (by first|exact a6 rfl (by omega)|rfl) (.cons (by first|exact a6 rfl (by omega)|rfl) .nil)
  ·omega
 refine At.exit (aM (aM (At.inHit (aB (s_2 (At.seq fun _ s_9=>At.region (aD (aC rfl) rfl rfl (aA (aB (s_9 (At.ret ((At.sub (L':= [R]) (.cons _ (.cons_cons _ (.slnil))) (aW (L1:= []) rfl (.tmp rfl .nil) (.refl _) (.refl _) ?_))))))))))))))
 exact⟨by rw [←hm,hv,show j=0 by omega];rfl,rfl⟩
end Go.Proofs.YtjfagifjajielaaGreat
/- package word's Bytes, Short; the reference's N, Short. No condition. -/
namespace Go.Proofs.YtjfagifjajielaaGreat
open Go Go.RowKit
theorem nbyte {m:List UInt64} {I K:Nat} (hm:m.length=4) (h1:1≤I) (h2:I≤4) (h3:1≤K) (h4:K≤8):UInt8.ofNat (shr64 (m.getD (I- 1) 0) (8*(K- 1))).toNat=UInt8.ofNat (v64 m/256^(31- (8*(4- I)+(8- K)))):=by
 have hq:(8*(I- 1)+(K- 1))/8<m.length:=by omega
 have e:=byte_of_limb (l:=m) (at_:=8*(I- 1)+(K- 1)) hq
 have e1:(8*(I- 1)+(K- 1))/8=I- 1:=by omega
 have e2:(8*(I- 1)+(K- 1)) % 8*8=8*(K- 1):=by omega
 simp only [e1,e2]at e
 rw [shr64,UInt64.toNat_ofNat',Nat.mod_eq_of_lt (Nat.lt_of_le_of_lt (Nat.div_le_self _ _) (UInt64.toNat_lt _)),List.getD_eq_getElem?_getD,List.getElem?_eq_getElem (by omega),Option.getD_some,e]
 congr 3
 omega
theorem rN_f (a b c d:UInt64):Fn Tryz.prog 98 #[.agg #[.int .u64 (a.toNat:Int),.int .u64 (b.toNat:Int),.int .u64 (c.toNat:Int),.int .u64 (d.toNat:Int)]] [] [] (fun v L=> ∃M p k,v=.slice p (digsOf (v64 [a,b,c,d])).length k∧L= [M]∧RSl M 1 p (digsOf (v64 [a,b,c,d])).length k (u32s (digsOf (v64 [a,b,c,d])))):=by
 obtain⟨m,hm⟩: ∃m,m= [a,b,c,d]:=⟨_,rfl⟩
 have hm4:m.length=4:=by rw [hm];rfl
 have hlt:v64 m<2^256:=by rw [hm];exact v64_four_lt a b c d
 refine Fn.enter (vs:= [.agg #[.int .u64 (a.toNat:Int),.int .u64 (b.toNat:Int),.int .u64 (c.toNat:Int),.int .u64 (d.toNat:Int)]]) Tryz.func98 rfl rfl rfl ?_
 intro E R hR
 change At _ _ E [R] _
 refine At.seq fun _ s_1=>At.region (op_box (aT rfl) rfl rfl rfl (fun N1 b1 B1=>?_))
 change Blk N1 b1 _ (u64s [a,b,c,d])at B1
 rw [←hm]at B1⊢
 refine aD (aC rfl) rfl rfl (aA (aB (s_1 (At.seq fun _ s_2=>At.region (aD (aC rfl) rfl rfl (aA (aB (s_2 (At.seq fun _ s_3=>At.seq fun _ s_4=>At.region (aD (aC rfl) rfl rfl (aA (aB (s_4 (At.block (At.empty (At.perm sel2 (At.perm sel1 (At.perm sel2 (At.loop (fun fr_ hp_ ms_=> ∃(I:Nat) (ap:Option Addr) (np cp:Nat) (Np:Heaplet),fr_= [(1,.pointer (some ⟨b1,0,none⟩)),(3,.slice ap np cp),(4,.int .i64 ((I:Int)- 1))]∧hp_= [N1,Np,R]∧I=ms_∧(I≤4)∧(np=8*(4- I))∧(Row Np 5 1 ap np cp (u8s ((bytesN 32 (v64 m)).take (8*(4- I)))))) ?_ (.refl _) ⟨4,none,0,0,nilH,rfl,rfl,rfl,by omega,by omega,Row.nil _ _ _⟩ ?_)))))))))))))))))))
 ·exact .cons (by first|exact a6 rfl (by omega)|rfl) (.cons (by first|exact a6 rfl (by omega)|rfl) (.cons (by first|exact a6 rfl (by omega)|rfl) .nil))
 rintro _ _ _ ⟨I,ap,np,cp,Np,rfl,rfl,rfl,hI,hnp,rp⟩
 refine At.seq fun _ s_5=>At.seq fun _ s_6=>At.region (aE (aC rfl) rfl rfl (op_geq (aC rfl) rfl rfl rfl (aA (aB (s_6 (aO rfl (fun c7=>?_) (fun c7=>?_)))))))
 ·refine At.skip (aB (s_5 (At.seq fun _ s_7=>At.block (At.seq fun _ s_8=>At.region (aD (aC rfl) rfl rfl (aA (aB (s_8 (At.block ?_)))))))))
  refine At.loop (fun fr_ hp_ ms_=> ∃(K:Nat) (aq:Option Addr) (nq cq:Nat) (Nq:Heaplet),fr_= [(1,.pointer (some ⟨b1,0,none⟩)),(3,.slice aq nq cq),(4,.int .i64 ((I:Int)- 1)),(5,.int .i64 ((K:Int)- 1))]∧hp_= [N1,Nq,R]∧K=ms_∧(K≤8)∧(nq=8*(4- I)+(8- K))∧(Row Nq 5 1 aq nq cq (u8s ((bytesN 32 (v64 m)).take (8*(4- I)+(8- K)))))) ?_ (.refl _) ⟨8,ap,np,cp,Np,rfl,rfl,rfl,by omega,by omega,by rw [Nat.sub_self,Nat.add_zero];exact rp⟩ ?_
  ·exact .cons (by first|exact a6 rfl (by omega)|rfl) (.cons (by first|exact a6 rfl (by omega)|rfl) (.cons (by first|exact a6 rfl (by omega)|rfl) (.cons (by first|exact a6 rfl (by omega)|rfl) .nil)))
  rintro _ _ _ ⟨K,aq,nq,cq,Nq,rfl,rfl,rfl,hK,hnq,rq⟩
  refine At.seq fun _ s_9=>At.seq fun _ s_10=>At.region (aE (aC rfl) rfl rfl (op_geq (aC rfl) rfl rfl rfl (aA (aB (s_10 (aO rfl (fun c11=>?_) (fun c11=>?_)))))))
  ·refine At.skip (aB (s_9 (At.seq fun _ s_11=>At.block (At.region (aE (aC rfl) rfl rfl (aE (aC rfl) rfl rfl (op_idxA (aC rfl) ae26 rfl rfl (show _=(((I- 1:Nat)):Int)from by omega) (by omega) rfl ?_)))))))
   refine aL (aC rfl) sc24 rfl B1 (by first|exact get64A (by omega)|rfl) aP rfl ?_
   refine aE (aC rfl) rfl rfl (op_mulI (aC rfl) rfl rfl (by omega) (by omega) rfl (op_shrU (aC rfl) rfl rfl (show _=(((8*(K- 1):Nat)):Int)from by omega) rfl ?_))
   refine op_conv8 (aC rfl) (und_some Tryz.underlying24) Tryz.underlying5 rfl (by first|rfl|exact(Int.toNat_of_nonneg (by omega)).symm) rfl ?_
   refine op_lit (aT rfl) Tryz.underlying22 ze5 sz5 (.cons rfl .nil) rfl rfl (by simp [Value.cells]) rfl rfl rfl (fun N22 a22 r22=>?_)
   simp only [flatV,List.flatMap_cons,List.flatMap_nil,Value.cells,List.append_nil,List.cons_append,List.nil_append]at r22
   have s22:=r22.rsl
   refine op_append (nxl rfl) Tryz.underlying22 Tryz.underlying22 te5 rfl rfl rq (by assumption) (by first|exact aP|exact bM|exact mem2|exact mem3|exact mem4|exact mem5|exact mem6|exact mem7|exact mem8|exact mem9) (by first|exact one_u8s _|exact one_u64s _|exact one_u32s _|(intro u hu;simp at hu;subst hu;rfl)) (by omega) (by omega) sel2 rfl (fun N23 a23 p23 r23=>?_)
   have s23:=r23.rsl
   refine aD (aC rfl) rfl rfl (aA (bC (aB (s_11 (At.region (aE (aC rfl) rfl rfl (op_subI (aC rfl) rfl rfl (by omega) (by omega) rfl (aD (aC rfl) rfl rfl (aA (aB (At.sub (L':= [N23,N1,R]) (.cons_cons _ (.cons _ (.cons_cons _ (.cons_cons _ (.slnil))))) (At.perm sel2 (At.perm sel1 (At.perm sel2 ?_))))))))))))))
   refine At.back ?_ (.refl _) ⟨K- 1,a23,nq+1,p23,N23,rfl,rfl,rfl,by omega,by omega,by rw [show 8*(4- I)+(8- (K- 1))=(8*(4- I)+(8- K))+1 by omega,bytesN_take_succ (by omega),u8s,List.map_append, ←nbyte hm4 (by omega) (by omega) (by omega) (by omega)];exact r23⟩ ?_
   ·exact .cons (by first|exact a6 rfl (by omega)|rfl) (.cons (by first|exact a6 rfl (by omega)|rfl) (.cons (by first|exact a6 rfl (by omega)|rfl) (.cons (by first|exact a6 rfl (by omega)|rfl) .nil)))
   ·omega
  refine At.exit (aM (aM (At.inHit (bC (aB (s_7 (At.region (aE (aC rfl) rfl rfl (op_subI (aC rfl) rfl rfl (by omega) (by omega) rfl (aD (aC rfl) rfl rfl (aA (aB ?_))))))))))))
  refine At.back ?_ (.refl _) ⟨I- 1,aq,nq,cq,Nq,rfl,rfl,rfl,by omega,by omega,by rw [show 8*(4- (I- 1))=8*(4- I)+(8- K) by omega];exact rq⟩ ?_
  ·exact .cons (by first|exact a6 rfl (by omega)|rfl) (.cons (by first|exact a6 rfl (by omega)|rfl) (.cons (by first|exact a6 rfl (by omega)|rfl) .nil))
  ·omega
 refine At.exit (aM (aM (At.inHit (aB (s_3 (At.seq fun _ s_12=>At.region (aE (aC rfl) rfl rfl ?_)))))))
 have sp:RSl Np 1 ap np cp (u8s (bytesN 32 (v64 m))):=by
  have e:=rp.rsl
  rwa [show I=0 by omega,List.take_of_length_le (by simp)]at e
 refine aG (aT rfl) (.cons rfl .nil) (rFrom_f sp (by omega)) Tryz.func149 rfl rfl (by simp) rfl ?_
 rintro v25 L25 ⟨M25,a25,c25,rfl,rfl,s25⟩
 change At _ _ _ [M25,N1,Np,R] _
 refine aD (aC rfl) rfl rfl (aA (aB (s_12 (At.ret ((At.sub (L':= [M25,R]) (.cons_cons _ (.cons _ (.cons _ (.cons_cons _ (.slnil))))) (aW (L1:= [M25]) rfl (.tmp rfl .nil) (.refl _) (.refl _) ?_)))))))
 rw [be_bytes32 hlt]at s25⊢
 rw [←hm]
 exact⟨M25,a25,c25,rfl,rfl,s25⟩
theorem rShort_f (a b c d:UInt64):Fn Tryz.prog 154 #[.agg #[.int .u64 (a.toNat:Int),.int .u64 (b.toNat:Int),.int .u64 (c.toNat:Int),.int .u64 (d.toNat:Int)]] [] [] (fun v L=> ∃M p k,v=.slice p (bytesOf (v64 [a,b,c,d])).length k∧L= [M]∧Row M 5 1 p (bytesOf (v64 [a,b,c,d])).length k (u8s (bytesOf (v64 [a,b,c,d])))):=by
 have hdl:(digsOf (v64 [a,b,c,d])).length≤8:=by
  rw [length_digsOf]
  exact digLen_le.2 (v64_four_lt a b c d)
 refine Fn.enter (vs:= [.agg #[.int .u64 (a.toNat:Int),.int .u64 (b.toNat:Int),.int .u64 (c.toNat:Int),.int .u64 (d.toNat:Int)]]) Tryz.func154 rfl rfl rfl ?_
 intro E R hR
 change At _ _ E [R] _
 refine At.seq fun _ s_1=>At.region (op_box (aT rfl) rfl rfl rfl (fun N1 b1 B1=>aD (aC rfl) rfl rfl (aA (aB (s_1 (At.seq fun _ s_2=>At.region (aQ (ds:= [_,_,_,_]) (aC rfl) ag26 rfl B1 rfl rfl aP rfl (aG (aT rfl) (.cons rfl .nil) (rN_f a b c d) Tryz.func98 rfl rfl (by simp) rfl ?_))))))))
 rintro v4 L4 ⟨M4,a4,c4,rfl,rfl,s4⟩
 change At _ _ _ [M4,N1,R] _
 refine aG (aT rfl) (.cons rfl .nil) (Bytes32_f s4 (by omega)) Tryz.func171 rfl rfl (by simp) rfl ?_
 rintro v5 L5 ⟨M5,a5,c5,rfl,rfl,r5⟩
 change At _ _ _ [M5,M4,N1,R] _
 refine aD (aC rfl) rfl rfl (aA (aB (s_2 (At.ret ((At.sub (L':= [M5,R]) (.cons_cons _ (.cons _ (.cons _ (.cons_cons _ (.slnil))))) (aW (L1:= [M5]) rfl (.tmp rfl .nil) (.refl _) (.refl _) ?_)))))))
 rw [v32_digsOf]at r5⊢
 exact⟨M5,a5,c5,rfl,rfl,r5⟩
end Go.Proofs.YtjfagifjajielaaGreat
/- package word's Bytes, Short. No condition. -/
namespace Go.Proofs.YtjfagifjajielaaGreat
open Go Go.RowKit
theorem setL_at (vs:List Value): ∀(p cs:List Value),cs.length=vs.length→setL (p++cs) p.length vs=p++vs:=by
 induction vs with
 |nil=>intro p cs h;rw [List.eq_nil_of_length_eq_zero h];rfl
 |cons v t ih=>
  intro p cs h
  match cs,h with
  |c::cs,h=>
   rw [setL]
   have e:(p++c::cs).set p.length v=(p++ [v])++cs:=by simp
   rw [e]
   have:=ih (p++ [v]) cs (by simpa using h)
   rw [List.length_append]at this
   simpa using this
theorem setL_whole {cs vs:List Value} (h:cs.length=vs.length):setL cs 0 vs=vs:=by simpa using setL_at vs [] cs h
theorem wbyte {m:List UInt64} {k:Nat} (hm:m.length=4) (h:k<32):UInt8.ofNat (shr64 (m.getD ((31- k)/8) 0) ((31- k) % 8*8)).toNat=UInt8.ofNat (v64 m/256^(31- k)):=by
 have hq:(31- k)/8<m.length:=by omega
 rw [shr64,UInt64.toNat_ofNat',Nat.mod_eq_of_lt (Nat.lt_of_le_of_lt (Nat.div_le_self _ _) (UInt64.toNat_lt _)),List.getD_eq_getElem?_getD,List.getElem?_eq_getElem hq,Option.getD_some,byte_of_limb hq]
theorem RSl.arr8 {N:Heaplet} {b lo:Nat} {e:TypeId} {L:List UInt8} (h:Blk N b e (u8s L)) (hl:L.length=32) (hlo:lo≤32):RSl N 1 (some (if 32=lo then ⟨b,0,none⟩else ⟨b,0+lo*1,none⟩)) (32- lo) (32- lo) (u8s (L.drop lo)):=by
 refine⟨by simp [u8s];omega,Nat.le_refl _,Nat.le_trans (by omega:32- lo≤32) (by decide),fun h0=>⟨b,lo,by rw [if_neg (by omega),Nat.zero_add,Nat.mul_one],?_⟩⟩
 have e:=h.rng.sub (o:=lo) (ds:=u8s (L.drop lo)) fun i hi=>by
  rw [List.getElem?_eq_getElem (by simp [u8s]at hi⊢;omega)]
  simp [u8s]
 rwa [Nat.zero_add]at e
set_option maxRecDepth 100000 in
theorem WBytes_f (a b c d:UInt64):Fn Tryz.prog 172 #[.agg #[.int .u64 (a.toNat:Int),.int .u64 (b.toNat:Int),.int .u64 (c.toNat:Int),.int .u64 (d.toNat:Int)]] [] [] (fun v L=>v=.agg (u8s (bytesN 32 (v64 [a,b,c,d]))).toArray∧L= []):=by
 obtain⟨m,hm⟩: ∃m,m= [a,b,c,d]:=⟨_,rfl⟩
 have hm4:m.length=4:=by rw [hm];rfl
 refine Fn.enter (vs:= [.agg #[.int .u64 (a.toNat:Int),.int .u64 (b.toNat:Int),.int .u64 (c.toNat:Int),.int .u64 (d.toNat:Int)]]) Tryz.func172 rfl rfl rfl ?_
 intro E R hR
 change At _ _ E [R] _
 refine At.seq fun _ s_1=>At.region (op_box (aT rfl) rfl rfl rfl (fun N1 b1 B1=>?_))
 change Blk N1 b1 _ (u64s [a,b,c,d])at B1
 rw [←hm]at B1⊢
 refine aS (aT rfl) ze39 rfl (fun N2 b2 B2=>?_)
 change Blk N2 b2 _ [.int .u8 0,.int .u8 0,.int .u8 0,.int .u8 0,.int .u8 0,.int .u8 0,.int .u8 0,.int .u8 0,.int .u8 0,.int .u8 0,.int .u8 0,.int .u8 0,.int .u8 0,.int .u8 0,.int .u8 0,.int .u8 0,.int .u8 0,.int .u8 0,.int .u8 0,.int .u8 0,.int .u8 0,.int .u8 0,.int .u8 0,.int .u8 0,.int .u8 0,.int .u8 0,.int .u8 0,.int .u8 0,.int .u8 0,.int .u8 0,.int .u8 0,.int .u8 0]at B2
 refine aA (aB (s_1 (At.seq fun _ s_2=>At.region (aS (aT rfl) ze39 rfl (fun N3 b3 B3=>?_)))))
 change Blk N3 b3 _ [.int .u8 0,.int .u8 0,.int .u8 0,.int .u8 0,.int .u8 0,.int .u8 0,.int .u8 0,.int .u8 0,.int .u8 0,.int .u8 0,.int .u8 0,.int .u8 0,.int .u8 0,.int .u8 0,.int .u8 0,.int .u8 0,.int .u8 0,.int .u8 0,.int .u8 0,.int .u8 0,.int .u8 0,.int .u8 0,.int .u8 0,.int .u8 0,.int .u8 0,.int .u8 0,.int .u8 0,.int .u8 0,.int .u8 0,.int .u8 0,.int .u8 0,.int .u8 0]at B3
 change Blk N3 b3 _ (u8s (List.replicate 32 0))at B3
 rw [←bytesSt_zero 32 (v64 m)]at B3
 refine aA (aB (s_2 (At.seq fun _ s_3=>At.seq fun _ s_4=>At.region (aE (aC rfl) rfl rfl (aA (aB (s_4 (At.block (At.perm sel3 (At.perm sel1 (At.perm sel2 (At.perm sel3 (At.loop (fun fr_ hp_ ms_=> ∃(k:Nat) (N3:Heaplet),fr_= [(1,.pointer (some ⟨b1,0,none⟩)),(2,.pointer (some ⟨b2,0,none⟩)),(3,.pointer (some ⟨b3,0,none⟩)),(6,.int .i64 (k:Int))]∧hp_= [N1,N2,N3,R]∧32- k=ms_∧(k≤32)∧(Blk N3 b3 39 (u8s (bytesSt 32 (v64 m) k)))) ?_ (.refl _) ⟨0,N3,rfl,rfl,rfl,by omega,B3⟩ ?_)))))))))))))
 ·exact .cons (by first|exact a6 rfl (by omega)|rfl) (.cons (by first|exact a6 rfl (by omega)|rfl) (.cons (by first|exact a6 rfl (by omega)|rfl) (.cons (by first|exact a6 rfl (by omega)|rfl) .nil)))
 rintro _ _ _ ⟨k,N3,rfl,rfl,rfl,hk,B3⟩
 have hbl:=length_bytesSt (m:=32) (N:=v64 m) hk
 refine At.seq fun _ s_5=>At.region (op_lss (aC rfl) rfl rfl rfl (aA (aB (s_5 (At.seq fun _ s_6=>aO rfl (fun c7=>?_) (fun c7=>?_))))))
 ·refine At.skip (aB (s_6 (At.seq fun _ s_7=>At.block (At.seq fun _ s_8=>At.region (aE (aC rfl) rfl rfl (aD (aC rfl) rfl rfl (aA (aB (s_8 (At.seq fun _ s_9=>At.region (aE (aC rfl) rfl rfl (op_subI (aC rfl) rfl rfl (by omega) (by omega) rfl (aD (aC rfl) rfl rfl (aA (aB (s_9 (At.region (aE (aC rfl) rfl rfl (aE (aC rfl) rfl rfl (op_quoI (aC rfl) rfl rfl (by omega) (by omega) (by omega) rfl ?_))))))))))))))))))))
  refine op_idxA (aC rfl) ae26 rfl rfl (show _=((((31- k)/8:Nat)):Int)from by omega) (by omega) rfl ?_
  refine aL (aC rfl) sc24 rfl B1 (by first|exact get64A (by omega)|rfl) aP rfl ?_
  refine aE (aC rfl) rfl rfl (op_rem (aC rfl) rfl rfl (by omega) (by omega) rfl (op_mulI (aC rfl) rfl rfl (by omega) (by omega) rfl (op_shrU (aC rfl) rfl rfl (show _=((((31- k) % 8*8:Nat)):Int)from by omega) rfl ?_)))
  refine op_conv8 (aC rfl) (und_some Tryz.underlying24) Tryz.underlying5 rfl (by first|rfl|exact(Int.toNat_of_nonneg (by omega)).symm) rfl ?_
  refine op_idxA (aC rfl) ae39 rfl rfl (show _=(((k:Nat)):Int)from by omega) (by omega) rfl ?_
  refine aI (nxl rfl) sz5 rfl rfl rfl rfl rfl B3 (by simp<;>omega) sel2 (fun N3 B3=>?_)
  rw [set8A]at B3
  refine aA (bC (aB (s_7 (At.region (bI (aC rfl) rfl rfl (by omega) (by omega) rfl (aE (aC rfl) rfl rfl (aA (aB (At.perm sel3 (At.perm sel1 (At.perm sel3 (At.perm sel3 ?_))))))))))))
  refine At.back ?_ (.refl _) ⟨k+1,N3,rfl,rfl,rfl,by omega,by rw [bytesSt_succ (by omega),show 32- 1- k=31- k by omega, ←wbyte hm4 (by omega)];exact B3⟩ ?_
  ·exact .cons (by first|exact a6 rfl (by omega)|rfl) (.cons (by first|exact a6 rfl (by omega)|rfl) (.cons (by first|exact a6 rfl (by omega)|rfl) (.cons (by first|exact a6 rfl (by omega)|rfl) .nil)))
  ·omega
 refine At.exit (aM (aM (At.inHit (aB (s_3 (At.seq fun _ s_10=>At.region ?_))))))
 have hk32:k=32:=by omega
 rw [hk32,bytesSt_all]at B3
 refine aQ (ds:=u8s (bytesN 32 (v64 m))) (aC rfl) ag39 rfl B3 (by first|(rw [List.drop_zero,List.take_of_length_le (by first|(simp;done)|(simp;omega))];done)|rfl) (by first|(simp;done)|(simp;omega)) mem2 rfl ?_
 refine aI (nxl rfl) sz39 rfl rfl rfl rfl rfl B2 (by simp) sel1 (fun N2 B2=>?_)
 rw [setL_whole (by simp)]at B2
 refine aA (aB (s_10 (At.ret ((At.sub (L':= [N2,R]) (.cons_cons _ (.cons _ (.cons _ (.cons_cons _ (.slnil))))) ?_)))))
 refine aW (L1:= []) rfl (.cell rfl (aZ (ds:=u8s (bytesN 32 (v64 m))) ag39 B2 (by first|(rw [List.drop_zero,List.take_of_length_le (by first|(simp;done)|(simp;omega))];done)|rfl) (by first|(simp;done)|(simp;omega)) aP) .nil) (.cons _ (.refl _)) (.refl _) ?_
 exact⟨by rw [←hm],rfl⟩
set_option maxRecDepth 100000 in
theorem WShort_f (a b c d:UInt64):Fn Tryz.prog 152 #[.agg #[.int .u64 (a.toNat:Int),.int .u64 (b.toNat:Int),.int .u64 (c.toNat:Int),.int .u64 (d.toNat:Int)]] [] [] (fun v L=> ∃M p k,v=.slice p (bytesOf (v64 [a,b,c,d])).length k∧L= [M]∧Row M 5 1 p (bytesOf (v64 [a,b,c,d])).length k (u8s (bytesOf (v64 [a,b,c,d])))):=by
 have hlt:=v64_four_lt a b c d
 have hbl:=bitLen_le.2 hlt
 have hlen:=length_bytesOf (v64 [a,b,c,d])
 have hdr:=bytes_drop32 hlt
 refine Fn.enter (vs:= [.agg #[.int .u64 (a.toNat:Int),.int .u64 (b.toNat:Int),.int .u64 (c.toNat:Int),.int .u64 (d.toNat:Int)]]) Tryz.func152 rfl rfl rfl ?_
 intro E R hR
 change At _ _ E [R] _
 refine At.seq fun _ s_1=>At.region (op_box (aT rfl) rfl rfl rfl (fun N1 b1 B1=>aD (aC rfl) rfl rfl (aA (aB (s_1 (At.seq fun _ s_2=>At.region (aQ (ds:= [_,_,_,_]) (aC rfl) ag26 rfl B1 rfl rfl aP rfl (aG (aT rfl) (.cons rfl .nil) (WBytes_f a b c d) Tryz.func172 rfl rfl (by simp) rfl ?_))))))))
 rintro v6 L6 ⟨rfl,rfl⟩
 change At _ _ _ [N1,R] _
 refine aS (aT rfl) ze39 rfl (fun N3 b3 B3=>?_)
 change Blk N3 b3 _ [.int .u8 0,.int .u8 0,.int .u8 0,.int .u8 0,.int .u8 0,.int .u8 0,.int .u8 0,.int .u8 0,.int .u8 0,.int .u8 0,.int .u8 0,.int .u8 0,.int .u8 0,.int .u8 0,.int .u8 0,.int .u8 0,.int .u8 0,.int .u8 0,.int .u8 0,.int .u8 0,.int .u8 0,.int .u8 0,.int .u8 0,.int .u8 0,.int .u8 0,.int .u8 0,.int .u8 0,.int .u8 0,.int .u8 0,.int .u8 0,.int .u8 0,.int .u8 0]at B3
 refine aI (nxl rfl) sz39 rfl rfl rfl rfl rfl B3 (by simp) sel0 (fun N3 B3=>?_)
 rw [setL_whole (by simp)]at B3
 refine aA (aB (s_2 (At.seq fun _ s_3=>At.region (aQ (ds:= [_,_,_,_]) (aC rfl) ag26 rfl B1 rfl rfl bM rfl (aG (aT rfl) (.cons rfl .nil) (WBits_f a b c d) Tryz.func173 rfl rfl (by simp) rfl ?_)))))
 rintro v8 L8 ⟨rfl,rfl⟩
 change At _ _ _ [N3,N1,R] _
 refine bI (aC rfl) rfl rfl (by omega) (by omega) rfl (op_quoI (aC rfl) rfl rfl (by omega) (by omega) (by omega) rfl (aD (aC rfl) rfl rfl (aA (aB (s_3 (At.seq fun _ s_4=>At.region (aE (aC rfl) rfl rfl (op_subI (aC rfl) rfl rfl (by omega) (by omega) rfl (op_sliceA (aC rfl) ae39 rfl (.some rfl (show _=(((32- (bitLen (v64 [a,b,c,d])+7)/8:Nat)):Int)from by omega)) .none .none (by omega) (by omega) (by omega) (by simp) rfl ?_)))))))))
 have s13:=RSl.arr8 B3 (by simp) (show 32- (bitLen (v64 [a,b,c,d])+7)/8≤32 by omega)
 rw [hdr]at s13
 refine op_append0 (aT rfl) Tryz.underlying22 Tryz.underlying22 te5 rfl rfl (by assumption) (by first|exact aP|exact bM|exact mem2|exact mem3|exact mem4|exact mem5|exact mem6|exact mem7|exact mem8|exact mem9) (by first|exact one_u8s _|exact one_u64s _|exact one_u32s _|(intro u hu;simp at hu;subst hu;rfl)) (by omega) (by omega) rfl (fun N14 a14 p14 r14=>?_)
 have s14:=r14.rsl
 refine aD (aC rfl) rfl rfl (aA (aB (s_4 (At.ret ((At.sub (L':= [N14,R]) (.cons_cons _ (.cons _ (.cons _ (.cons_cons _ (.slnil))))) (aW (L1:= [N14]) rfl (.tmp rfl .nil) (.refl _) (.refl _) ?_)))))))
 rw [show 32- (32- (bitLen (v64 [a,b,c,d])+7)/8)=(bytesOf (v64 [a,b,c,d])).length by omega]at r14⊢
 exact⟨N14,a14,p14,rfl,rfl,r14⟩
end Go.Proofs.YtjfagifjajielaaGreat
/- Plain laws: words. No condition. -/
namespace Go.Proofs.YtjfagifjajielaaGreat
open Go Go.RowKit
/-- How many words there are. -/
def WW:Nat:=2^256
/-- The word of a number modulo 2^256, as limbs and as a value. -/
def wl (x:Nat):List UInt64:=limbsN 4 x
def wo (x:Nat):Value:=.agg (u64s (wl x)).toArray
@[simp] theorem length_wl (x:Nat):(wl x).length=4:=rfl
theorem v64_wl (x:Nat):v64 (wl x)=x % WW:=v64_limbsN 4 x
theorem v64_wl_lt {x:Nat} (h:x<WW):v64 (wl x)=x:=by rw [v64_wl,Nat.mod_eq_of_lt h]
theorem v64_lt4 {w:List UInt64} (h:w.length=4):v64 w<WW:=by have:=v64_lt w;rwa [h]at this
theorem wl_of {w:List UInt64} {N:Nat} (hw:w.length=4) (h:v64 w=N % WW):w=wl N:=eq_words4 hw rfl (h.trans (v64_wl N).symm)
theorem wl_self {w:List UInt64} (hw:w.length=4):w=wl (v64 w):=wl_of hw (Nat.mod_eq_of_lt (v64_lt4 hw)).symm
theorem wo_list {w:List UInt64} (hw:w.length=4):Value.agg (u64s w).toArray=wo (v64 w):=by rw [wo, ←wl_self hw]
theorem wl_small (n:UInt64):wl n.toNat= [n,0,0,0]:=by
 have h:=n.toNat_lt
 refine(wl_of rfl ?_).symm
 have e:v64 [n,0,0,0]=n.toNat:=by simp [v64,n64,val]
 rw [e]
 exact(Nat.mod_eq_of_lt (Nat.lt_trans h (Nat.pow_lt_pow_right (by decide) (by decide)))).symm
theorem wo_small (n:UInt64):wo n.toNat=.agg #[.int .u64 (n.toNat:Int),.int .u64 0,.int .u64 0,.int .u64 0]:=by rw [wo,wl_small];rfl
/-- The limbs behind the first are naught just for small numbers. -/
theorem small_iff {x:Nat} (hx:x<WW):(wl x).getD 1 0 |||(wl x).getD 2 0 |||(wl x).getD 3 0=0↔x<2^64:=by
 have hv:=v64_wl_lt hx
 obtain⟨a,b,c,d,h⟩:=four (length_wl x)
 rw [h]at hv⊢
 have e:v64 [a,b,c,d]=a.toNat+18446744073709551616*(b.toNat+18446744073709551616*(c.toNat+18446744073709551616*d.toNat)):=by simp [v64,n64,val]
 rw [e]at hv
 have ha:=a.toNat_lt
 show b |||c |||d=0↔x<2^64
 constructor
 ·intro h0
  have h1:=congrArg UInt64.toNat h0
  rw [UInt64.toNat_or,UInt64.toNat_or]at h1
  have h2:(b.toNat |||c.toNat)=0∧d.toNat=0:=Nat.or_eq_zero_iff.1 h1
  have h3:b.toNat=0∧c.toNat=0:=Nat.or_eq_zero_iff.1 h2.1
  rw [h2.2,h3.1,h3.2]at hv
  omega
 ·intro h0
  have h1:b.toNat=0∧c.toNat=0∧d.toNat=0:=by omega
  apply UInt64.toNat_inj.1
  rw [UInt64.toNat_or,UInt64.toNat_or,h1.1,h1.2.1,h1.2.2];rfl
theorem small_val {x:Nat} (h:x<2^64):((wl x).getD 0 0).toNat=x:=by
 have e:wl x= [UInt64.ofNat x,0,0,0]:=by
  have:=wl_small (UInt64.ofNat x)
  rwa [UInt64.toNat_ofNat',Nat.mod_eq_of_lt h]at this
 rw [e]
 show(UInt64.ofNat x).toNat=x
 rw [UInt64.toNat_ofNat',Nat.mod_eq_of_lt h]
end Go.Proofs.YtjfagifjajielaaGreat
/- Structs as arguments: their fields. No condition. -/
namespace Go.Proofs.YtjfagifjajielaaGreat
open Go Go.RowKit Go.ChangeShapes Go.WideShapes Go.Deep
theorem okWide_structB {P:Program} {w:World} {r:Reach} {base:Nat} {t:TypeId} {v:Value} {fs:Array Field} (ht:P.underlying t=some (.struct fs)) (h:Value.okWide P w r base t v): ∃cs:Array Value,v=.agg cs:=by
 unfold Value.okWide at h
 rw [ht]at h
 obtain⟨cs,rfl,hs,_⟩:=h
 exact⟨cs,rfl⟩
theorem words_of_cells: ∀cs:List Value,(∀i,i<cs.length→ ∃a:UInt64,(cs.drop i).take 1= [.int .u64 (a.toNat:Int)])→ ∃l:List UInt64,l.length=cs.length∧cs=u64s l:=by
 intro cs
 induction cs with
 |nil=>intro _;exact⟨[],rfl,rfl⟩
 |cons v t ih=>
  intro h
  obtain⟨a,ha⟩:=h 0 (Nat.zero_lt_succ _)
  obtain⟨l,hl,rfl⟩:=ih fun i hi=>by
   have:=h (i+1) (Nat.succ_lt_succ hi)
   rw [List.drop_succ_cons]at this
   exact this
  refine⟨a::l,by rw [List.length_cons,List.length_cons,hl],?_⟩
  simp only [List.drop_zero,List.take_succ_cons,List.take_zero,List.cons.injEq,and_true]at ha
  rw [ha];rfl
theorem bytes_of_cells: ∀cs:List Value,(∀i,i<cs.length→ ∃a:UInt8,(cs.drop i).take 1= [.int .u8 (a.toNat:Int)])→ ∃l:List UInt8,l.length=cs.length∧cs=u8s l:=by
 intro cs
 induction cs with
 |nil=>intro _;exact⟨[],rfl,rfl⟩
 |cons v t ih=>
  intro h
  obtain⟨a,ha⟩:=h 0 (Nat.zero_lt_succ _)
  obtain⟨l,hl,rfl⟩:=ih fun i hi=>by
   have:=h (i+1) (Nat.succ_lt_succ hi)
   rw [List.drop_succ_cons]at this
   exact this
  refine⟨a::l,by rw [List.length_cons,List.length_cons,hl],?_⟩
  simp only [List.drop_zero,List.take_succ_cons,List.take_zero,List.cons.injEq,and_true]at ha
  rw [ha];rfl
section
variable {H : Type} {enc : TypeId × Value → H} {w : World} {spare : Nat → Bool} {held : Bool}
theorem struct_open' {P:Program} {t:TypeId} {fs:Array Field} {fuel:Nat} {cs:List Value} {x:DataW H×List MemPlace} (ht:P.underlying t=some (.struct fs)) (h:DataW.trod enc P w 0 spare held fuel t cs=some x):
 cs.length=P.cellsOf t∧ ∃n, ∀(i:Nat) (f:Field),fs[i]? =some f→ ∃y,DataW.trod enc P w 0 spare held n f.type ((cs.drop f.offset).take (P.cellsOf f.type))=some y:=by
 obtain⟨xs,n,hf,_,hl,hlen,hx⟩:=DataW.trod_struct ht h
 refine⟨hl,n,fun i f hi=>?_⟩
 have hlt:i<xs.length:=by
  obtain⟨h1,_⟩:=Array.getElem?_eq_some_iff.1 hi
  rw [hlen];exact h1
 refine⟨xs[i],?_⟩
 rw [hx i f hi]
 exact List.getElem?_eq_getElem hlt
theorem open_u64c {P:Program} {t:TypeId} {fuel:Nat} {cs:List Value} {x:DataW H×List MemPlace} (ht:P.underlying t=some (.int .u64)) (h:DataW.trod enc P w 0 spare held fuel t cs=some x): ∃a:UInt64,cs= [.int .u64 (a.toNat:Int)]:=by
 obtain⟨q,hq,_,hw⟩:=DataW.trod_int ht h
 have hb:0≤q∧q≤18446744073709551615:=by simpa [Lit.wf,IntKind.min,IntKind.max,IntKind.signed,IntKind.bits]using hw
 refine⟨UInt64.ofNat q.toNat,hq.trans ?_⟩
 have h8:(UInt64.ofNat q.toNat).toNat=q.toNat:=by rw [UInt64.toNat_ofNat'];omega
 rw [h8]
 congr 2
 omega
theorem open_u8c {P:Program} {t:TypeId} {fuel:Nat} {cs:List Value} {x:DataW H×List MemPlace} (ht:P.underlying t=some (.int .u8)) (h:DataW.trod enc P w 0 spare held fuel t cs=some x): ∃a:UInt8,cs= [.int .u8 (a.toNat:Int)]:=by
 obtain⟨q,hq,_,hw⟩:=DataW.trod_int ht h
 have hb:0≤q∧q≤255:=by simpa [Lit.wf,IntKind.min,IntKind.max,IntKind.signed,IntKind.bits]using hw
 refine⟨UInt8.ofNat q.toNat,hq.trans ?_⟩
 have h8:(UInt8.ofNat q.toNat).toNat=q.toNat:=by rw [UInt8.toNat_ofNat'];omega
 rw [h8]
 congr 2
 omega
theorem bytes_cells {t e:TypeId} {k fuel:Nat} {cs:List Value} {x:DataW H×List MemPlace} (ht:Tryz.prog.underlying t=some (.array k e)) (he:Tryz.prog.underlying e=some (.int .u8)) (hc:Tryz.prog.cellsOf e=1) (hk:Tryz.prog.cellsOf t=k) (h:DataW.trod enc Tryz.prog w 0 spare held fuel t cs=some x): ∃l:List UInt8,l.length=k∧cs=u8s l:=by
 obtain⟨xs,m,_,_,hl,hlen,hx⟩:=DataW.trod_array ht h
 have hl':cs.length=k:=hl.trans hk
 obtain⟨l,h1,h2⟩:=bytes_of_cells cs fun i hi=>by
  have h:=hx i (by omega)
  rw [List.getElem?_eq_getElem (by omega),hc,Nat.mul_one]at h
  exact open_u8c he h
 exact⟨l,h1.trans hl',h2⟩
theorem word_cells {t e:TypeId} {fuel:Nat} {cs:List Value} {x:DataW H×List MemPlace} (ht:Tryz.prog.underlying t=some (.array 4 e)) (he:Tryz.prog.underlying e=some (.int .u64)) (hc:Tryz.prog.cellsOf e=1) (hk:Tryz.prog.cellsOf t=4) (h:DataW.trod enc Tryz.prog w 0 spare held fuel t cs=some x): ∃x:Nat,x<WW∧cs=u64s (wl x):=by
 obtain⟨xs,m,_,_,hl,hlen,hx⟩:=DataW.trod_array ht h
 have hl':cs.length=4:=hl.trans hk
 obtain⟨l,h1,h2⟩:=words_of_cells cs fun i hi=>by
  have h:=hx i (by omega)
  rw [List.getElem?_eq_getElem (by omega),hc,Nat.mul_one]at h
  exact open_u64c he h
 have hl4:l.length=4:=h1.trans hl'
 refine⟨v64 l,v64_lt4 hl4,?_⟩
 rw [←wl_self hl4];exact h2
theorem open_ic {P:Program} {t:TypeId} {fuel:Nat} {cs:List Value} {x:DataW H×List MemPlace} (ht:P.underlying t=some (.int .i64)) (h:DataW.trod enc P w 0 spare held fuel t cs=some x): ∃a:Int,cs= [.int .i64 a]∧ -9223372036854775808≤a∧a≤9223372036854775807:=by
 obtain⟨q,hq,_,hw⟩:=DataW.trod_int ht h
 exact⟨q,hq,by simpa [Lit.wf,IntKind.min,IntKind.max,IntKind.signed,IntKind.bits]using hw⟩
theorem open_boolc {P:Program} {t:TypeId} {fuel:Nat} {cs:List Value} {x:DataW H×List MemPlace} (ht:P.underlying t=some .bool) (h:DataW.trod enc P w 0 spare held fuel t cs=some x): ∃a:Bool,cs= [.bool a]:=by
 obtain⟨q,hq,_⟩:=DataW.trod_bool ht h
 exact⟨q,hq⟩
theorem cut_cells (cs:List Value) (i k:Nat):cs.drop i=(cs.drop i).take k++cs.drop (i+k):=by
 rw [←List.drop_drop,List.take_append_drop]
end
end Go.Proofs.YtjfagifjajielaaGreat
/- The engine, part 13: longer lists of heaplets. For whatever program. No condition. -/
namespace Go.Proofs.YtjfagifjajielaaGreat
open Go
theorem sel13 {A0 A1 A2 A3 A4 A5 A6 A7 A8 A9 A10 A11 A12 A13:Heaplet} {L:List Heaplet} :(A1::A2::A3::A4::A5::A6::A7::A8::A9::A10::A11::A12::A13::A0::L).Perm (A0::A1::A2::A3::A4::A5::A6::A7::A8::A9::A10::A11::A12::A13::L):=(List.Perm.cons _ sel12).trans (.swap _ _ _)
theorem sel14 {A0 A1 A2 A3 A4 A5 A6 A7 A8 A9 A10 A11 A12 A13 A14:Heaplet} {L:List Heaplet} :(A1::A2::A3::A4::A5::A6::A7::A8::A9::A10::A11::A12::A13::A14::A0::L).Perm (A0::A1::A2::A3::A4::A5::A6::A7::A8::A9::A10::A11::A12::A13::A14::L):=(List.Perm.cons _ sel13).trans (.swap _ _ _)
theorem sel15 {A0 A1 A2 A3 A4 A5 A6 A7 A8 A9 A10 A11 A12 A13 A14 A15:Heaplet} {L:List Heaplet} :(A1::A2::A3::A4::A5::A6::A7::A8::A9::A10::A11::A12::A13::A14::A15::A0::L).Perm (A0::A1::A2::A3::A4::A5::A6::A7::A8::A9::A10::A11::A12::A13::A14::A15::L):=(List.Perm.cons _ sel14).trans (.swap _ _ _)
theorem sel16 {A0 A1 A2 A3 A4 A5 A6 A7 A8 A9 A10 A11 A12 A13 A14 A15 A16:Heaplet} {L:List Heaplet} :(A1::A2::A3::A4::A5::A6::A7::A8::A9::A10::A11::A12::A13::A14::A15::A16::A0::L).Perm (A0::A1::A2::A3::A4::A5::A6::A7::A8::A9::A10::A11::A12::A13::A14::A15::A16::L):=(List.Perm.cons _ sel15).trans (.swap _ _ _)
theorem sel17 {A0 A1 A2 A3 A4 A5 A6 A7 A8 A9 A10 A11 A12 A13 A14 A15 A16 A17:Heaplet} {L:List Heaplet} :(A1::A2::A3::A4::A5::A6::A7::A8::A9::A10::A11::A12::A13::A14::A15::A16::A17::A0::L).Perm (A0::A1::A2::A3::A4::A5::A6::A7::A8::A9::A10::A11::A12::A13::A14::A15::A16::A17::L):=(List.Perm.cons _ sel16).trans (.swap _ _ _)
theorem sel18 {A0 A1 A2 A3 A4 A5 A6 A7 A8 A9 A10 A11 A12 A13 A14 A15 A16 A17 A18:Heaplet} {L:List Heaplet} :(A1::A2::A3::A4::A5::A6::A7::A8::A9::A10::A11::A12::A13::A14::A15::A16::A17::A18::A0::L).Perm (A0::A1::A2::A3::A4::A5::A6::A7::A8::A9::A10::A11::A12::A13::A14::A15::A16::A17::A18::L):=(List.Perm.cons _ sel17).trans (.swap _ _ _)
theorem sel19 {A0 A1 A2 A3 A4 A5 A6 A7 A8 A9 A10 A11 A12 A13 A14 A15 A16 A17 A18 A19:Heaplet} {L:List Heaplet} :(A1::A2::A3::A4::A5::A6::A7::A8::A9::A10::A11::A12::A13::A14::A15::A16::A17::A18::A19::A0::L).Perm (A0::A1::A2::A3::A4::A5::A6::A7::A8::A9::A10::A11::A12::A13::A14::A15::A16::A17::A18::A19::L):=(List.Perm.cons _ sel18).trans (.swap _ _ _)
theorem sel20 {A0 A1 A2 A3 A4 A5 A6 A7 A8 A9 A10 A11 A12 A13 A14 A15 A16 A17 A18 A19 A20:Heaplet} {L:List Heaplet} :(A1::A2::A3::A4::A5::A6::A7::A8::A9::A10::A11::A12::A13::A14::A15::A16::A17::A18::A19::A20::A0::L).Perm (A0::A1::A2::A3::A4::A5::A6::A7::A8::A9::A10::A11::A12::A13::A14::A15::A16::A17::A18::A19::A20::L):=(List.Perm.cons _ sel19).trans (.swap _ _ _)
theorem sel21 {A0 A1 A2 A3 A4 A5 A6 A7 A8 A9 A10 A11 A12 A13 A14 A15 A16 A17 A18 A19 A20 A21:Heaplet} {L:List Heaplet} :(A1::A2::A3::A4::A5::A6::A7::A8::A9::A10::A11::A12::A13::A14::A15::A16::A17::A18::A19::A20::A21::A0::L).Perm (A0::A1::A2::A3::A4::A5::A6::A7::A8::A9::A10::A11::A12::A13::A14::A15::A16::A17::A18::A19::A20::A21::L):=(List.Perm.cons _ sel20).trans (.swap _ _ _)
theorem sel22 {A0 A1 A2 A3 A4 A5 A6 A7 A8 A9 A10 A11 A12 A13 A14 A15 A16 A17 A18 A19 A20 A21 A22:Heaplet} {L:List Heaplet} :(A1::A2::A3::A4::A5::A6::A7::A8::A9::A10::A11::A12::A13::A14::A15::A16::A17::A18::A19::A20::A21::A22::A0::L).Perm (A0::A1::A2::A3::A4::A5::A6::A7::A8::A9::A10::A11::A12::A13::A14::A15::A16::A17::A18::A19::A20::A21::A22::L):=(List.Perm.cons _ sel21).trans (.swap _ _ _)
theorem sel23 {A0 A1 A2 A3 A4 A5 A6 A7 A8 A9 A10 A11 A12 A13 A14 A15 A16 A17 A18 A19 A20 A21 A22 A23:Heaplet} {L:List Heaplet} :(A1::A2::A3::A4::A5::A6::A7::A8::A9::A10::A11::A12::A13::A14::A15::A16::A17::A18::A19::A20::A21::A22::A23::A0::L).Perm (A0::A1::A2::A3::A4::A5::A6::A7::A8::A9::A10::A11::A12::A13::A14::A15::A16::A17::A18::A19::A20::A21::A22::A23::L):=(List.Perm.cons _ sel22).trans (.swap _ _ _)
theorem mem14 {A0 A1 A2 A3 A4 A5 A6 A7 A8 A9 A10 A11 A12 A13 A14:Heaplet} {L:List Heaplet} :A0∈A1::A2::A3::A4::A5::A6::A7::A8::A9::A10::A11::A12::A13::A14::A0::L:=List.Mem.tail _ mem13
theorem mem15 {A0 A1 A2 A3 A4 A5 A6 A7 A8 A9 A10 A11 A12 A13 A14 A15:Heaplet} {L:List Heaplet} :A0∈A1::A2::A3::A4::A5::A6::A7::A8::A9::A10::A11::A12::A13::A14::A15::A0::L:=List.Mem.tail _ mem14
theorem mem16 {A0 A1 A2 A3 A4 A5 A6 A7 A8 A9 A10 A11 A12 A13 A14 A15 A16:Heaplet} {L:List Heaplet} :A0∈A1::A2::A3::A4::A5::A6::A7::A8::A9::A10::A11::A12::A13::A14::A15::A16::A0::L:=List.Mem.tail _ mem15
theorem mem17 {A0 A1 A2 A3 A4 A5 A6 A7 A8 A9 A10 A11 A12 A13 A14 A15 A16 A17:Heaplet} {L:List Heaplet} :A0∈A1::A2::A3::A4::A5::A6::A7::A8::A9::A10::A11::A12::A13::A14::A15::A16::A17::A0::L:=List.Mem.tail _ mem16
theorem mem18 {A0 A1 A2 A3 A4 A5 A6 A7 A8 A9 A10 A11 A12 A13 A14 A15 A16 A17 A18:Heaplet} {L:List Heaplet} :A0∈A1::A2::A3::A4::A5::A6::A7::A8::A9::A10::A11::A12::A13::A14::A15::A16::A17::A18::A0::L:=List.Mem.tail _ mem17
theorem mem19 {A0 A1 A2 A3 A4 A5 A6 A7 A8 A9 A10 A11 A12 A13 A14 A15 A16 A17 A18 A19:Heaplet} {L:List Heaplet} :A0∈A1::A2::A3::A4::A5::A6::A7::A8::A9::A10::A11::A12::A13::A14::A15::A16::A17::A18::A19::A0::L:=List.Mem.tail _ mem18
theorem mem20 {A0 A1 A2 A3 A4 A5 A6 A7 A8 A9 A10 A11 A12 A13 A14 A15 A16 A17 A18 A19 A20:Heaplet} {L:List Heaplet} :A0∈A1::A2::A3::A4::A5::A6::A7::A8::A9::A10::A11::A12::A13::A14::A15::A16::A17::A18::A19::A20::A0::L:=List.Mem.tail _ mem19
theorem mem21 {A0 A1 A2 A3 A4 A5 A6 A7 A8 A9 A10 A11 A12 A13 A14 A15 A16 A17 A18 A19 A20 A21:Heaplet} {L:List Heaplet} :A0∈A1::A2::A3::A4::A5::A6::A7::A8::A9::A10::A11::A12::A13::A14::A15::A16::A17::A18::A19::A20::A21::A0::L:=List.Mem.tail _ mem20
theorem mem22 {A0 A1 A2 A3 A4 A5 A6 A7 A8 A9 A10 A11 A12 A13 A14 A15 A16 A17 A18 A19 A20 A21 A22:Heaplet} {L:List Heaplet} :A0∈A1::A2::A3::A4::A5::A6::A7::A8::A9::A10::A11::A12::A13::A14::A15::A16::A17::A18::A19::A20::A21::A22::A0::L:=List.Mem.tail _ mem21
end Go.Proofs.YtjfagifjajielaaGreat
