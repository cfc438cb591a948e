/- Several texts in one: see the remarks ahead of each part. No condition but those told there. -/
import Derived.Test.YtdpjbefeabokgaaGreatU8
import Derived.Test.YtdpjbefeabokgaaGreatU7
import Derived.Test.YtdpjbefeabokgaaGreatU6
import Derived.Test.YtdpjbefeabokgaaGreatU4
import Derived.Test.YtdpjbefeabokgaaGreatU5
import Derived.Stop.BytesEq
set_option linter.unusedSimpArgs false
set_option linter.unusedVariables false
/- Keccak-256 in the program and in the reference. Condition: at most 2^40 bytes. -/
namespace Go.Proofs.YtdpjbefeabokgaaGreat
open Go Go.RowKit
/-- What the reference pads. -/
def refX (l:List UInt8) (j:Nat):List UInt8:=l++1::List.replicate j 0
def refB (l:List UInt8) (j:Nat):List UInt8:=(refX l j).set (l.length+j) ((refX l j).getD (l.length+j) 0 |||128)
theorem refX_len (l:List UInt8) (j:Nat):(refX l j).length=l.length+1+j:=by
 rw [refX,List.length_append,List.length_cons,List.length_replicate];omega
theorem refB_len (l:List UInt8) (j:Nat):(refB l j).length=l.length+1+j:=by rw [refB,List.length_set,refX_len]
theorem refX_more (l:List UInt8) (j:Nat):refX l j++ [0]=refX l (j+1):=by
 rw [refX,refX,List.append_assoc,List.cons_append,show List.replicate j (0:UInt8)++ [0]=List.replicate (j+1) 0 from List.replicate_succ'.symm]
theorem blk_full {l:List UInt8} {j k:Nat} (hk:136*(k+1)≤l.length):((refB l j).drop (136*k)).take 136=(l.drop (136*k)).take 136:=by
 apply List.ext_getElem?
 intro i
 rw [List.getElem?_take,List.getElem?_take]
 split
 ·rw [List.getElem?_drop,List.getElem?_drop,refB,List.getElem?_set_ne (by omega),refX,List.getElem?_append_left (by omega)]
 ·rfl
theorem abs_full {l:List UInt8} {j:Nat} : ∀k,136*k≤l.length→absN (refB l j) k=absN l k
 |0,_=>rfl
 |k+1,h=>by rw [absN,absN,abs_full k (by omega),blk_full h]
theorem pad_z {r:List UInt8} {j:Nat} (hr:r.length+j=135):(r++List.replicate (136- r.length) 0).set r.length 1=r++1::List.replicate j 0:=by
 rw [show 136- r.length=j+1 by omega,List.replicate_succ,List.set_append_right _ _ (Nat.le_refl _),Nat.sub_self];rfl
theorem blk_last {l:List UInt8} {j m:Nat} (hm:136*m≤l.length) (hj:l.length+1+j=136*(m+1)):((refB l j).drop (136*m)).take 136=padL (l.drop (136*m)):=by
 have hr:(l.drop (136*m)).length=l.length- 136*m:=List.length_drop
 have hx:(refX l j).drop (136*m)=l.drop (136*m)++1::List.replicate j 0:=by rw [refX,List.drop_append_of_le_length hm]
 have hg:(refX l j).getD (l.length+j) 0=(l.drop (136*m)++1::List.replicate j 0).getD 135 0:=by
  rw [←hx,List.getD_eq_getElem?_getD,List.getD_eq_getElem?_getD,List.getElem?_drop,show 136*m+135=l.length+j by omega]
 rw [List.take_of_length_le (by rw [List.length_drop,refB_len];omega),refB,List.drop_set,if_neg (by omega),hx,hg,show l.length+j- 136*m=135 by omega,padL,pad_z (j:=j) (by omega)]
theorem ref_abs {l:List UInt8} {j m:Nat} (hm:m=l.length/136) (hj:l.length+1+j=136*(m+1)):ouI (absN (refB l j) (m+1)) 32=kec l:=by
 rw [absN,abs_full m (by omega),blk_last (by omega) hj,kec, ←hm]
theorem blk_at {B:List UInt8} {k i:Nat} (hi:i<136):((B.drop (136*k)).take 136).getD i 0=B.getD (136*k+i) 0:=by
 rw [List.getD_eq_getElem?_getD,List.getElem?_take,if_pos hi,List.getElem?_drop, ←List.getD_eq_getElem?_getD]
theorem len8s {l:List UInt8} {k:Nat} (h:l.length=k):(u8s l).length=k:=by simp [u8s,h]
set_option maxRecDepth 100000 in
set_option maxHeartbeats 4000000 in
theorem FKeccak_f {N:Heaplet} {ao:Option Addr} {n cap:Nat} {l:List UInt8} (hb:RSl N 1 ao n cap (u8s l)) (hn:n≤1099511627776):Fn Tryz.prog 52 #[.slice ao n cap] [] [N] (fun v L=>v=.agg (u8s (kec l)).toArray∧L= []):=by
 have hlen:=hb.len8
 have hcap:=hb.cap63
 refine Fn.enter (vs:= [.slice ao n cap]) Tryz.func52 rfl rfl rfl ?_
 intro E R hR
 have hb:=hb.le (hR N (by simp))
 change At _ _ E [R] _
 refine At.seq fun _ s_1=>At.region (bO (bA rfl) ze25 rfl (fun N2 b2 B2=>?_))
 change Blk N2 b2 _ [.int .u8 0,.int .u8 0,.int .u8 0,.int .u8 0,.int .u8 0,.int .u8 0,.int .u8 0,.int .u8 0,.int .u8 0,.int .u8 0,.int .u8 0,.int .u8 0,.int .u8 0,.int .u8 0,.int .u8 0,.int .u8 0,.int .u8 0,.int .u8 0,.int .u8 0,.int .u8 0,.int .u8 0,.int .u8 0,.int .u8 0,.int .u8 0,.int .u8 0,.int .u8 0,.int .u8 0,.int .u8 0,.int .u8 0,.int .u8 0,.int .u8 0,.int .u8 0]at B2
 refine aA (aB (s_1 (At.seq fun _ s_2=>At.region (aJ (bA rfl) .nil (FNew_f) Tryz.func76 rfl rfl (by simp) rfl ?_))))
 rintro v4 L4 ⟨N4,b4,e4,rfl,rfl,B4⟩
 change At _ _ _ [N4,N2,R] _
 refine aE (aD rfl) rfl rfl (aA (aB (s_2 (At.seq fun _ s_3=>At.block (At.loop (fun fr_ hp_ ms_=> ∃(k:Nat) (po:Option Addr) (pn pc:Nat) (N4:Heaplet),fr_= [(0,.slice po pn pc),(2,.pointer (some ⟨b2,0,none⟩)),(3,.pointer (some ⟨b4,0,none⟩))]∧hp_= [N4,N2,R]∧n- 136*k=ms_∧(136*k≤n)∧(pn=n- 136*k)∧(RSl R 1 po pn pc (u8s (l.drop (136*k))))∧(Blk N4 b4 e4 (u64s (absN l k)++ [.slice none 0 0]))) ?_ (.refl _) ⟨0,ao,n,cap,N4,rfl,rfl,rfl,by omega,by omega,hb,B4⟩ ?_)))))
 ·exact .cons (by first|exact aP rfl (by omega)|rfl) (.cons (by first|exact aP rfl (by omega)|rfl) (.cons (by first|exact aP rfl (by omega)|rfl) .nil))
 rintro _ _ _ ⟨k,po,pn,pc,N4,rfl,rfl,rfl,hk,hpn,hp,B4⟩
 have hal:=absN_len l k
 have hpc:=hp.cap63
 refine At.seq fun _ s_4=>At.seq fun _ s_5=>At.region (aC (aD rfl) rfl rfl (aU (aD rfl) se23 rfl rfl (op_geq (aD rfl) rfl rfl rfl (aA (aB (s_5 (aK rfl (fun c7=>?_) (fun c7=>?_))))))))
 ·refine At.skip (aB (s_4 (At.seq fun _ s_6=>At.block (At.drawn [5] [0,1,2,3,4,5] (by kernel_rfl) (by kernel_rfl) (aC (aN rfl rfl rfl (by kernel_rfl)) rfl rfl (aQ (aN rfl rfl rfl (by kernel_rfl)) rfl rfl (aF (aN rfl rfl rfl (by kernel_rfl)) fl130_0 rfl rfl (aC (aN rfl rfl rfl (by kernel_rfl)) rfl rfl (op_slice0 (aN rfl rfl rfl (by kernel_rfl)) se23 rfl (.some rfl (show _=(((136:Nat)):Int)from by omega)) .none (by omega) (by omega) (by simp) rfl ?_)))))))))
  have s14:=hp.take8 (hi:=136) (m:=pc) (by omega) (Nat.le_refl _) (by omega)
  refine op_call (nxos rfl rfl rfl rfl) (.cons rfl (.cons rfl .nil)) (FAbsorb_f hal B4 s14 rfl) (F:= [N2,R]) Tryz.func77 rfl rfl (.refl _) (by simp) rfl ?_
  rintro v15 L15 ⟨N4,rfl,rfl,B4⟩
  change At _ _ _ [N4,N2,R] _
  refine At.oneNil (aR (aB (s_6 (At.region (aC (aD rfl) rfl rfl (op_slice (aD rfl) se23 rfl (.some rfl (show _=(((136:Nat)):Int)from by omega)) .none .none (by omega) (by omega) (by omega) (by simp) rfl ?_))))))
  refine aE (aD rfl) rfl rfl (aA (aB ?_))
  refine bD ?_ (.refl _) ⟨k+1,sadr po 136 pc 1,pn- 136,pc- 136,N4,rfl,rfl,rfl,by omega,by omega,by rw [show 136*(k+1)=136*k+136 by omega, ←List.drop_drop];exact hp.drop8 (lo:=136) (by omega),B4⟩ ?_
  ·exact .cons (by first|exact aP rfl (by omega)|rfl) (.cons (by first|exact aP rfl (by omega)|rfl) (.cons (by first|exact aP rfl (by omega)|rfl) .nil))
  ·omega
 refine At.exit (aG (aG (bC (aB (s_3 (At.seq fun _ s_7=>At.region (aC (aD rfl) rfl rfl (aC (aD rfl) rfl rfl (aQ (aD rfl) rfl rfl (aF (aD rfl) fl130_1 rfl rfl ?_))))))))))
 refine aI (aD rfl) sc23 rfl B4 (by first|rfl|(rw [List.getElem?_append_right (by rw [len64s hal];decide),len64s hal];rfl)) aL rfl ?_
 refine aC (aD rfl) rfl rfl ?_
 refine op_append0 (bA rfl) Tryz.underlying23 Tryz.underlying23 te5 rfl rfl hp (by first|exact aL|exact aZ|exact bB|exact bF|exact bG|exact bH|exact bL|exact bK|exact bJ|exact bM) (by first|exact one_u8s _|exact one_u64s _|exact one_u32s _|(intro u hu;simp at hu;subst hu;rfl)) (by omega) (by omega) rfl (fun N22 a22 p22 r22=>?_)
 have s22:=r22.rsl
 refine aQ (aD rfl) rfl rfl (aF (aD rfl) fl130_1 rfl rfl (aO (nxl rfl) sz23 rfl rfl rfl rfl rfl B4 (by simp [u64s,hal]) sel1 (fun N4 B4=>?_)))
 have B4:Blk N4 b4 e4 (u64s (absN l k)++ [.slice a22 pn p22]):=by
  rw [setL,setL,List.set_append_right _ _ (by rw [len64s hal];decide),len64s hal]at B4
  exact B4
 refine aA (aB (s_7 (At.seq fun _ s_8=>At.region (aC (aD rfl) rfl rfl ?_))))
 have hkm:k=n/136:=by omega
 have hkec:ouI (absorb (absN l k) (padL (l.drop (136*k)))) 32=kec l:=by rw [kec,hlen, ←hkm]
 have hol:=kec_len l
 refine op_call (nxl rfl) (.cons rfl .nil) (FSum_f hal B4 s22 (by omega)) (F:= [N22,N2,R]) Tryz.func78 rfl rfl (.refl _) (by simp) rfl ?_
 rintro v26 L26 ⟨rfl,rfl⟩
 change At _ _ _ [N22,N2,R] _
 rw [hkec]
 refine aO (nxl rfl) sz25 rfl rfl rfl (len8s hol) (all8 _) B2 (by rw [len8s hol];simp) sel1 (fun N2 B2=>?_)
 rw [setL_whole (by rw [len8s hol];simp)]at B2
 refine aA (aB (s_8 (At.ret ((At.sub (L':= [N2,R]) (.cons_cons _ (.cons _ (.cons_cons _ (.slnil)))) (aW (L1:= []) rfl (.cell rfl (res_agg (ds:=u8s (kec l)) ag25 B2 (all_take (len8s hol)) (len8s hol) aL) .nil) (.cons _ (.refl _)) (.refl _) ?_))))))
 exact⟨rfl,rfl⟩
end Go.Proofs.YtdpjbefeabokgaaGreat
/- The reference's Keccak-256. Condition: at most 2^40 bytes. -/
namespace Go.Proofs.YtdpjbefeabokgaaGreat
open Go Go.RowKit
theorem u8s_ap2 (a b:List UInt8):u8s (a++b)=u8s a++u8s b:=by simp [u8s]
set_option maxRecDepth 100000 in
set_option maxHeartbeats 4000000 in
theorem rKeccak_f {N:Heaplet} {ao:Option Addr} {n cap:Nat} {l:List UInt8} (hb:RSl N 1 ao n cap (u8s l)) (hn:n≤1099511627776):Fn Tryz.prog 21 #[.slice ao n cap] [] [N] (fun v L=>v=.agg (u8s (kec l)).toArray∧L= []):=by
 have hlen:=hb.len8
 have hcap:=hb.cap63
 refine Fn.enter (vs:= [.slice ao n cap]) Tryz.func21 rfl rfl rfl ?_
 intro E R hR
 have hb:=hb.le (hR N (by simp))
 change At _ _ E [R] _
 refine At.seq fun _ s_1=>At.region (bO (bA rfl) ze25 rfl (fun N2 b2 B2=>?_))
 change Blk N2 b2 _ [.int .u8 0,.int .u8 0,.int .u8 0,.int .u8 0,.int .u8 0,.int .u8 0,.int .u8 0,.int .u8 0,.int .u8 0,.int .u8 0,.int .u8 0,.int .u8 0,.int .u8 0,.int .u8 0,.int .u8 0,.int .u8 0,.int .u8 0,.int .u8 0,.int .u8 0,.int .u8 0,.int .u8 0,.int .u8 0,.int .u8 0,.int .u8 0,.int .u8 0,.int .u8 0,.int .u8 0,.int .u8 0,.int .u8 0,.int .u8 0,.int .u8 0,.int .u8 0]at B2
 refine aA (aB (s_1 (At.seq fun _ s_2=>At.region (op_lit (bA rfl) Tryz.underlying23 ze5 sz5 .nil rfl rfl (by simp [Value.cells]) rfl rfl rfl (fun N9 a9 r9=>?_)))))
 simp only [flatV,List.flatMap_cons,List.flatMap_nil,Value.cells,List.append_nil,List.cons_append,List.nil_append]at r9
 have s9:=r9.rsl
 refine aC (aD rfl) rfl rfl ?_
 refine bE (nxl rfl) Tryz.underlying23 Tryz.underlying23 te5 rfl rfl r9 hb (by first|exact aL|exact aZ|exact bB|exact bF|exact bG|exact bH|exact bL|exact bK|exact bJ|exact bM) (by first|exact one_u8s _|exact one_u64s _|exact one_u32s _|(intro u hu;simp at hu;subst hu;rfl)) (by omega) (by omega) sel0 rfl (fun N11 a11 p11 r11=>?_)
 have s11:=r11.rsl
 rw [List.nil_append]at r11
 refine op_lit (bA rfl) Tryz.underlying23 ze5 sz5 (.cons rfl .nil) rfl rfl (by simp [Value.cells]) rfl rfl rfl (fun N12 a12 r12=>?_)
 simp only [flatV,List.flatMap_cons,List.flatMap_nil,Value.cells,List.append_nil,List.cons_append,List.nil_append]at r12
 have s12:=r12.rsl
 change Row N12 _ 1 a12 1 1 (u8s [1])at r12
 have s12:=r12.rsl
 refine bE (nxl rfl) Tryz.underlying23 Tryz.underlying23 te5 rfl rfl r11 s12 (by first|exact aL|exact aZ|exact bB|exact bF|exact bG|exact bH|exact bL|exact bK|exact bJ|exact bM) (by first|exact one_u8s _|exact one_u64s _|exact one_u32s _|(intro u hu;simp at hu;subst hu;rfl)) (by omega) (by omega) sel1 rfl (fun N13 a13 p13 r13=>?_)
 have s13:=r13.rsl
 have hX0:refX l 0=l++ [1]:=rfl
 have r13:Row N13 5 1 a13 (0+n+1) p13 (u8s (refX l 0)):=by
  rw [hX0,u8s_ap2]
  exact r13
 refine aE (aD rfl) rfl rfl (aA (aB (s_2 (At.seq fun _ s_3=>At.block (At.sub (L':= [N13,N2,R]) (.cons_cons _ (.cons _ (.cons_cons _ (.cons_cons _ (.slnil))))) (At.loop (fun fr_ hp_ ms_=> ∃(j:Nat) (pa:Option Addr) (na ca:Nat) (Na:Heaplet),fr_= [(2,.pointer (some ⟨b2,0,none⟩)),(3,.slice pa na ca)]∧hp_= [Na,N2,R]∧136*(n/136+1)- na=ms_∧(na=n+1+j)∧(n+1+j≤136*(n/136+1))∧(Row Na 5 1 pa na ca (u8s (refX l j)))) ?_ (.refl _) ⟨0,a13,0+n+1,p13,N13,rfl,rfl,rfl,by omega,by omega,r13⟩ ?_))))))
 ·exact .cons (by first|exact aP rfl (by omega)|rfl) (.cons (by first|exact aP rfl (by omega)|rfl) .nil)
 rintro _ _ _ ⟨j,pa,na,ca,Na,rfl,rfl,rfl,hna,hj,ra⟩
 have sa:=ra.rsl
 have hca:=sa.cap63
 have hxl:=refX_len l j
 refine At.seq fun _ s_4=>At.seq fun _ s_5=>At.region (aC (aD rfl) rfl rfl (aU (aD rfl) se23 rfl rfl (op_rem (aD rfl) rfl rfl (by omega) (by omega) rfl (op_neq (aD rfl) rfl rfl rfl (aA (aB (s_5 (aK rfl (fun c17=>?_) (fun c17=>?_)))))))))
 ·refine At.skip (aB (s_4 (At.block (At.region (aC (aD rfl) rfl rfl (op_lit (bA rfl) Tryz.underlying23 ze5 sz5 (.cons rfl .nil) rfl rfl (by simp [Value.cells]) rfl rfl rfl (fun N19 a19 r19=>?_)))))))
  simp only [flatV,List.flatMap_cons,List.flatMap_nil,Value.cells,List.append_nil,List.cons_append,List.nil_append]at r19
  have s19:=r19.rsl
  change Row N19 _ 1 a19 1 1 (u8s [0])at r19
  have s19:=r19.rsl
  refine bE (nxl rfl) Tryz.underlying23 Tryz.underlying23 te5 rfl rfl ra s19 (by first|exact aL|exact aZ|exact bB|exact bF|exact bG|exact bH|exact bL|exact bK|exact bJ|exact bM) (by first|exact one_u8s _|exact one_u64s _|exact one_u32s _|(intro u hu;simp at hu;subst hu;rfl)) (by omega) (by omega) sel1 rfl (fun N20 a20 p20 r20=>?_)
  have s20:=r20.rsl
  have r20:Row N20 5 1 a20 (na+1) p20 (u8s (refX l (j+1))):=by
   rw [←refX_more,u8s_ap2]
   exact r20
  refine aE (aD rfl) rfl rfl (aA (aR (aB (At.sub (L':= [N20,N2,R]) (.cons_cons _ (.cons _ (.cons_cons _ (.cons_cons _ (.slnil))))) (bD ?_ (.refl _) ⟨j+1,a20,na+1,p20,N20,rfl,rfl,rfl,by omega,by omega,r20⟩ ?_)))))
  ·exact .cons (by first|exact aP rfl (by omega)|rfl) (.cons (by first|exact aP rfl (by omega)|rfl) .nil)
  ·omega
 refine At.exit (aG (aG (bC (aB (s_3 (At.seq fun _ s_6=>At.region (aC (aD rfl) rfl rfl (aC (aD rfl) rfl rfl (aU (aD rfl) se23 rfl rfl (op_subI (aD rfl) rfl rfl (by omega) (by omega) rfl (aC (aD rfl) rfl rfl (aC (aD rfl) rfl rfl (aU (aD rfl) se23 rfl rfl (op_subI (aD rfl) rfl rfl (by omega) (by omega) rfl (bI (aD rfl) se23 rfl rfl sa (show _=(((na- 1:Nat)):Int)from by omega) (by omega) rfl ?_)))))))))))))))
 refine aT (aD rfl) sc5 rfl sa (by first|exact get8 (by omega)|exact bT (by omega)|exact bU (by omega)) (by first|exact aL|exact aZ|exact bB|exact bF|exact bG|exact bH|exact bL|exact bK|exact bJ|exact bM) rfl ?_
 refine op_bits (by simp) (aD rfl) rfl rfl rfl ?_
 rw [or128]
 refine bI (aD rfl) se23 rfl rfl sa (show _=(((na- 1:Nat)):Int)from by omega) (by omega) rfl ?_
 refine op_storeE (nxl rfl) sz5 rfl rfl rfl rfl rfl ra (by rw [len8s (refX_len l j),List.length_singleton];omega) (by simp) sel0 (fun Na ra=>?_)
 have hjm:l.length+1+j=136*(n/136+1):=by omega
 have hm:n/136=l.length/136:=by rw [hlen]
 simp only [setL]at ra
 rw [set_u8s,show na- 1=l.length+j by omega]at ra
 change Row Na _ 1 pa na ca (u8s (refB l j))at ra
 have sa:=ra.rsl
 refine aA (aB (s_6 (At.seq fun _ s_7=>At.region (bO (bA rfl) ze99 rfl (fun N4 b4 B4=>?_)))))
 change Blk N4 b4 _ [.int .u64 0,.int .u64 0,.int .u64 0,.int .u64 0,.int .u64 0,.int .u64 0,.int .u64 0,.int .u64 0,.int .u64 0,.int .u64 0,.int .u64 0,.int .u64 0,.int .u64 0,.int .u64 0,.int .u64 0,.int .u64 0,.int .u64 0,.int .u64 0,.int .u64 0,.int .u64 0,.int .u64 0,.int .u64 0,.int .u64 0,.int .u64 0,.int .u64 0]at B4
 obtain⟨B,hB⟩: ∃B,refB l j=B:=⟨_,rfl⟩
 have hBl:B.length=na:=by rw [←hB,refB_len];omega
 rw [hB]at ra
 have sa:=ra.rsl
 change Blk N4 b4 _ (u64s (absN B 0))at B4
 refine aA (aB (s_7 (At.seq fun _ s_8=>At.seq fun _ s_9=>At.region (aE (aD rfl) rfl rfl (aA (aB (s_9 (At.block (At.loop (fun fr_ hp_ ms_=> ∃(k:Nat) (N4:Heaplet),fr_= [(2,.pointer (some ⟨b2,0,none⟩)),(3,.slice pa na ca),(4,.pointer (some ⟨b4,0,none⟩)),(5,.int .i64 (136*(k:Int)))]∧hp_= [N4,Na,N2,R]∧n/136+1- k=ms_∧(k≤n/136+1)∧(Blk N4 b4 99 (u64s (absN B k)))) ?_ (.refl _) ⟨0,N4,rfl,rfl,rfl,by omega,B4⟩ ?_)))))))))
 ·exact .cons (by first|exact aP rfl (by omega)|rfl) (.cons (by first|exact aP rfl (by omega)|rfl) (.cons (by first|exact aP rfl (by omega)|rfl) (.cons (by first|exact aP rfl (by omega)|rfl) .nil)))
 rintro _ _ _ ⟨k,N4,rfl,rfl,rfl,hk,B4⟩
 refine At.seq fun _ s_10=>At.seq fun _ s_11=>At.region (aC (aD rfl) rfl rfl (aC (aD rfl) rfl rfl (aU (aD rfl) se23 rfl rfl (op_lss (aD rfl) rfl rfl rfl (aA (aB (s_11 (aK rfl (fun c36=>?_) (fun c36=>?_)))))))))
 ·refine At.skip (aB (s_10 (At.seq fun _ s_12=>At.block (At.seq fun _ s_13=>At.seq fun _ s_14=>At.region (aE (aD rfl) rfl rfl (aA (aB (s_14 (At.block ?_)))))))))
  obtain⟨blk,hblk⟩: ∃blk,(B.drop (136*k)).take 136=blk:=⟨_,rfl⟩
  change Blk N4 b4 _ (u64s (abI (absN B k) blk 0))at B4
  have hNl:=absN_len B k
  refine At.loop (fun fr_ hp_ ms_=> ∃(i:Nat) (N4:Heaplet),fr_= [(2,.pointer (some ⟨b2,0,none⟩)),(3,.slice pa na ca),(4,.pointer (some ⟨b4,0,none⟩)),(5,.int .i64 (136*(k:Int))),(6,.int .i64 (i:Int))]∧hp_= [N4,Na,N2,R]∧136- i=ms_∧(i≤136)∧(Blk N4 b4 99 (u64s (abI (absN B k) blk i)))) ?_ (.refl _) ⟨0,N4,rfl,rfl,rfl,by omega,B4⟩ ?_
  ·exact .cons (by first|exact aP rfl (by omega)|rfl) (.cons (by first|exact aP rfl (by omega)|rfl) (.cons (by first|exact aP rfl (by omega)|rfl) (.cons (by first|exact aP rfl (by omega)|rfl) (.cons (by first|exact aP rfl (by omega)|rfl) .nil))))
  rintro _ _ _ ⟨i,N4,rfl,rfl,rfl,hi,B4⟩
  have hil:=(abI_len (absN B k) blk i).trans hNl
  refine At.seq fun _ s_15=>At.seq fun _ s_16=>At.region (aC (aD rfl) rfl rfl (op_lss (aD rfl) rfl rfl rfl (aA (aB (s_16 (aK rfl (fun c40=>?_) (fun c40=>?_)))))))
  ·refine At.skip (aB (s_15 (At.seq fun _ s_17=>At.block (At.drawn [19] [0,1,2,3,4,5,6,7,8,9,10,11,12,13,14,15,16,17,18,19] (by kernel_rfl) (by kernel_rfl) (aC (aN rfl rfl rfl (by kernel_rfl)) rfl rfl (op_quoI (aN rfl rfl rfl (by kernel_rfl)) rfl rfl (by omega) (by omega) (by omega) rfl (aC (aN rfl rfl rfl (by kernel_rfl)) rfl rfl (op_quoI (aN rfl rfl rfl (by kernel_rfl)) rfl rfl (by omega) (by omega) (by omega) rfl (op_idxA (aN rfl rfl rfl (by kernel_rfl)) ae99 rfl rfl (show _=(((i/8:Nat)):Int)from by omega) (by omega) rfl ?_)))))))))
   -- an operation that writes, not last
   refine aI (aN rfl rfl rfl (by kernel_rfl)) sc70 rfl B4 (get64A (by omega)) (by first|exact aL|exact aZ|exact bB) rfl (aC (aN rfl rfl rfl (by kernel_rfl)) rfl rfl (aC (aN rfl rfl rfl (by kernel_rfl)) rfl rfl (aC (aN rfl rfl rfl (by kernel_rfl)) rfl rfl (aV (aN rfl rfl rfl (by kernel_rfl)) rfl rfl (by omega) (by omega) rfl (bI (aN rfl rfl rfl (by kernel_rfl)) se23 rfl rfl sa (show _=(((136*k+i:Nat)):Int)from by omega) (by omega) rfl ?_)))))
   refine aT (aN rfl rfl rfl (by kernel_rfl)) sc5 rfl sa (by first|exact get8 (by omega)|exact bT (by omega)|exact bU (by omega)) (by first|exact aL|exact aZ|exact bB|exact bF|exact bG|exact bH|exact bL|exact bK|exact bJ|exact bM) rfl ?_
   rw [←blk_at (B:=B) (k:=k) (i:=i) (by omega),hblk]
   refine op_conv64 (aN rfl rfl rfl (by kernel_rfl)) (und_some Tryz.underlying5) Tryz.underlying70 rfl (show _=((((blk.getD i 0).toNat:Nat)):Int)from by omega) rfl ?_
   refine aC (aN rfl rfl rfl (by kernel_rfl)) rfl rfl (op_rem (aN rfl rfl rfl (by kernel_rfl)) rfl rfl (by omega) (by omega) rfl (op_mulI (aN rfl rfl rfl (by kernel_rfl)) rfl rfl (by omega) (by omega) rfl (op_shlU (aN rfl rfl rfl (by kernel_rfl)) rfl rfl (show _=(((i % 8*8:Nat)):Int)from by omega) rfl ?_)))
   refine op_xorU (aN rfl rfl rfl (by kernel_rfl)) rfl rfl rfl (op_idxA (aN rfl rfl rfl (by kernel_rfl)) ae99 rfl rfl (show _=(((i/8:Nat)):Int)from by omega) (by omega) rfl ?_)
   refine aO (nxos rfl rfl rfl rfl) sz70 rfl rfl rfl rfl rfl B4 (by simp<;>omega) sel0 (fun N4 B4=>?_)
   rw [set64A]at B4
   refine At.oneNil (aR (aB (s_17 (At.region (aC (aD rfl) rfl rfl (aV (aD rfl) rfl rfl (by omega) (by omega) rfl (aE (aD rfl) rfl rfl (aA (aB (bD ?_ (.refl _) ⟨i+1,N4,rfl,rfl,rfl,by omega,B4⟩ ?_))))))))))
   ·exact .cons (by first|exact aP rfl (by omega)|rfl) (.cons (by first|exact aP rfl (by omega)|rfl) (.cons (by first|exact aP rfl (by omega)|rfl) (.cons (by first|exact aP rfl (by omega)|rfl) (.cons (by first|exact aP rfl (by omega)|rfl) .nil))))
   ·omega
  refine At.exit (aG (aG (bC (aB (s_13 (At.region ?_))))))
  obtain rfl:i=136:=by omega
  obtain⟨A,hA⟩: ∃A,abI (absN B k) blk 136=A:=⟨_,rfl⟩
  rw [hA]at B4 hil
  have hpl:=(prm_len A 24).trans hil
  have hnx:absN B (k+1)=prm A 24:=by rw [absN,absorb,hblk,hA]
  refine op_loadAggB (ds:=u64s A) (aD rfl) ag99 rfl B4 (all_take (len64s hil)) (len64s hil) (by first|exact aL|exact aZ|exact bB) rfl (aJ (bA rfl) (.cons rfl .nil) (rPermute_f hil) Tryz.func53 rfl rfl (by simp) rfl ?_)
  rintro v63 L63 ⟨rfl,rfl⟩
  change At _ _ _ [N4,Na,N2,R] _
  refine aO (nxl rfl) sz99 rfl rfl rfl (len64s hpl) (all64 _) B4 (by rw [len64s hpl,len64s hil];simp) sel0 (fun N4 B4=>?_)
  rw [setL_whole (by rw [len64s hpl,len64s hil]), ←hnx]at B4
  refine aA (aR (aB (s_12 (At.region (aC (aD rfl) rfl rfl (aV (aD rfl) rfl rfl (by omega) (by omega) rfl (aE (aD rfl) rfl rfl (aA (aB (bD ?_ (.refl _) ⟨k+1,N4,rfl,rfl,rfl,by omega,B4⟩ ?_))))))))))
  ·exact .cons (by first|exact aP rfl (by omega)|rfl) (.cons (by first|exact aP rfl (by omega)|rfl) (.cons (by first|exact aP rfl (by omega)|rfl) (.cons (by first|exact aP rfl (by omega)|rfl) .nil)))
  ·omega
 refine At.exit (aG (aG (bC (aB (s_8 (At.seq fun _ s_18=>At.region (bO (bA rfl) ze25 rfl (fun N7 b7 B7=>?_))))))))
 change Blk N7 b7 _ [.int .u8 0,.int .u8 0,.int .u8 0,.int .u8 0,.int .u8 0,.int .u8 0,.int .u8 0,.int .u8 0,.int .u8 0,.int .u8 0,.int .u8 0,.int .u8 0,.int .u8 0,.int .u8 0,.int .u8 0,.int .u8 0,.int .u8 0,.int .u8 0,.int .u8 0,.int .u8 0,.int .u8 0,.int .u8 0,.int .u8 0,.int .u8 0,.int .u8 0,.int .u8 0,.int .u8 0,.int .u8 0,.int .u8 0,.int .u8 0,.int .u8 0,.int .u8 0]at B7
 have hkm:k=n/136+1:=by omega
 obtain⟨A,hA⟩: ∃A,absN B k=A:=⟨_,rfl⟩
 have hAl:A.length=25:=by rw [←hA];exact absN_len B k
 have hfin:ouI A 32=kec l:=by rw [←hA,hkm, ←hB,ref_abs hm hjm]
 rw [hA]at B4
 change Blk N7 b7 _ (u8s (ouI A 0))at B7
 refine aA (aB (s_18 (At.seq fun _ s_19=>At.seq fun _ s_20=>At.region (aE (aD rfl) rfl rfl (aA (aB (s_20 (At.block (At.sub (L':= [N7,N4,N2,R]) (.cons_cons _ (.cons_cons _ (.cons _ (.cons_cons _ (.cons_cons _ (.slnil)))))) (At.loop (fun fr_ hp_ ms_=> ∃(i:Nat) (N7:Heaplet),fr_= [(2,.pointer (some ⟨b2,0,none⟩)),(4,.pointer (some ⟨b4,0,none⟩)),(7,.pointer (some ⟨b7,0,none⟩)),(8,.int .i64 (i:Int))]∧hp_= [N7,N4,N2,R]∧32- i=ms_∧(i≤32)∧(Blk N7 b7 25 (u8s (ouI A i)))) ?_ (.refl _) ⟨0,N7,rfl,rfl,rfl,by omega,B7⟩ ?_))))))))))
 ·exact .cons (by first|exact aP rfl (by omega)|rfl) (.cons (by first|exact aP rfl (by omega)|rfl) (.cons (by first|exact aP rfl (by omega)|rfl) (.cons (by first|exact aP rfl (by omega)|rfl) .nil)))
 rintro _ _ _ ⟨i,N7,rfl,rfl,rfl,hi,B7⟩
 have hol:=ouI_len A i
 refine At.seq fun _ s_21=>At.seq fun _ s_22=>At.region (aC (aD rfl) rfl rfl (op_lss (aD rfl) rfl rfl rfl (aA (aB (s_22 (aK rfl (fun c65=>?_) (fun c65=>?_)))))))
 ·refine At.skip (aB (s_21 (At.seq fun _ s_23=>At.block (At.region (aC (aD rfl) rfl rfl (aC (aD rfl) rfl rfl (op_quoI (aD rfl) rfl rfl (by omega) (by omega) (by omega) rfl (op_idxA (aD rfl) ae99 rfl rfl (show _=(((i/8:Nat)):Int)from by omega) (by omega) rfl ?_))))))))
  refine aI (aD rfl) sc70 rfl B4 (get64A (by omega)) (by first|exact aL|exact aZ|exact bB) rfl (aC (aD rfl) rfl rfl (op_rem (aD rfl) rfl rfl (by omega) (by omega) rfl (op_mulI (aD rfl) rfl rfl (by omega) (by omega) rfl (op_shrU (aD rfl) rfl rfl (show _=(((i % 8*8:Nat)):Int)from by omega) rfl ?_))))
  refine op_conv8 (aD rfl) (und_some Tryz.underlying70) Tryz.underlying5 rfl (show _=((((shr64 (A.getD (i/8) 0) (i % 8*8)).toNat:Nat)):Int)from by omega) rfl ?_
  refine op_idxA (aD rfl) ae25 rfl rfl (show _=(((i:Nat)):Int)from by omega) (by omega) rfl ?_
  refine aO (nxl rfl) sz5 rfl rfl rfl rfl rfl B7 (by simp<;>omega) sel0 (fun N7 B7=>?_)
  rw [set8A]at B7
  refine aA (aR (aB (s_23 (At.region (aC (aD rfl) rfl rfl (aV (aD rfl) rfl rfl (by omega) (by omega) rfl (aE (aD rfl) rfl rfl (aA (aB (bD ?_ (.refl _) ⟨i+1,N7,rfl,rfl,rfl,by omega,B7⟩ ?_))))))))))
  ·exact .cons (by first|exact aP rfl (by omega)|rfl) (.cons (by first|exact aP rfl (by omega)|rfl) (.cons (by first|exact aP rfl (by omega)|rfl) (.cons (by first|exact aP rfl (by omega)|rfl) .nil)))
  ·omega
 refine At.exit (aG (aG (bC (aB (s_19 (At.seq fun _ s_24=>At.region ?_))))))
 obtain rfl:i=32:=by omega
 rw [hfin]at B7 hol
 refine op_loadAggB (ds:=u8s (kec l)) (aD rfl) ag25 rfl B7 (all_take (len8s hol)) (len8s hol) (by first|exact aL|exact aZ|exact bB) rfl ?_
 refine aO (nxl rfl) sz25 rfl rfl rfl (len8s hol) (all8 _) B2 (by rw [len8s hol];simp) sel2 (fun N2 B2=>?_)
 rw [setL_whole (by rw [len8s hol];simp)]at B2
 refine aA (aB (s_24 (At.ret ((At.sub (L':= [N2,R]) (.cons_cons _ (.cons _ (.cons _ (.cons_cons _ (.slnil))))) (aW (L1:= []) rfl (.cell rfl (res_agg (ds:=u8s (kec l)) ag25 B2 (all_take (len8s hol)) (len8s hol) aL) .nil) (.cons _ (.refl _)) (.refl _) ?_))))))
 exact⟨rfl,rfl⟩
end Go.Proofs.YtdpjbefeabokgaaGreat
/- Plain law: a number of two limbs divided by one limb, as package math/bits reckons it. No condition. -/
namespace Go.Proofs.YtdpjbefeabokgaaGreat
/-- A guess of the quotient's digit, and what it leaves of the upper digits. -/
def DInv (R u1 y1 y0 q rh:Nat):Prop:=rh+q*y1=R∧rh*4294967296+u1<q*y0+y1*4294967296+y0∧q≤4294967297
end Go.Proofs.YtdpjbefeabokgaaGreat
/- Package math/bits: sums, differences, products, quotients of limbs. No condition but what Go asks. -/
namespace Go.Proofs.YtdpjbefeabokgaaGreat
open Go Go.RowKit
def sub64E:Array Value→Sem Value:=fun args=>do
 let (x,y,b)←Extern.MathBitsCarry.three "Sub64" args
 pure (Extern.MathBitsCarry.pair ((x+Extern.MathBitsCarry.m64- y- b) % Extern.MathBitsCarry.m64) (if x<y+b then 1 else 0))
end Go.Proofs.YtdpjbefeabokgaaGreat
/- math/bits.Div64: a number of two limbs by one limb. Condition: the upper limb is below the divisor. -/
namespace Go.Proofs.YtdpjbefeabokgaaGreat
open Go Go.RowKit
def DivP (hi lo y:UInt64) (v:Value) (L:List Heaplet):Prop:=
 ∃q r:UInt64,v=.tuple #[.int .u64 (q.toNat:Int),.int .u64 (r.toNat:Int)]∧L= []∧q.toNat=(hi.toNat*18446744073709551616+lo.toNat)/y.toNat∧r.toNat=(hi.toNat*18446744073709551616+lo.toNat) % y.toNat
end Go.Proofs.YtdpjbefeabokgaaGreat
/- math/bits.Div64: a number of two limbs by one limb. Condition: the upper limb is below the divisor. -/
namespace Go.Proofs.YtdpjbefeabokgaaGreat
open Go Go.RowKit
end Go.Proofs.YtdpjbefeabokgaaGreat
/- limb.Add, limb.Sub: sums and differences of numbers in limbs. Condition: numbers of at most 2^40 limbs; for Sub: the second is no greater. -/
namespace Go.Proofs.YtdpjbefeabokgaaGreat
open Go Go.RowKit
/-- Limbs in new memory: a number without zeros at its upper end. -/
def LimbsP (V:Nat) (v:Value) (L:List Heaplet):Prop:=
 ∃M a c,v=.slice a (limbsOf V).length c∧L= [M]∧RSl M 1 a (limbsOf V).length c (u64s (limbsOf V))
end Go.Proofs.YtdpjbefeabokgaaGreat
/- Plain laws: numbers in limbs compared, their bits, shifted. No condition. -/
namespace Go.Proofs.YtdpjbefeabokgaaGreat
/-- The order of two numbers. -/
def cmpN (a b:Nat):Int:=if a<b then-1 else if b<a then 1 else 0
/-! Shifts. -/
/-- The limbs of V shifted to the left, so many. -/
def shlN (L V s:Nat):List UInt64:=limbsN L (V*2^s)
/-- What stands when the places from i on are shifted. -/
def shSt (o:List UInt64) (L s i:Nat):List UInt64:=o.take i++(shlN L (v64 o) s).drop i
end Go.Proofs.YtdpjbefeabokgaaGreat
/- Plain laws: one step of the division of numbers in limbs, and the whole. No condition. -/
namespace Go.Proofs.YtdpjbefeabokgaaGreat
theorem getD_set_ne {α:Type} {l:List α} {i j:Nat} {y z:α} (h:i≠j):(l.set i y).getD j z=l.getD j z:=by
 rw [List.getD_eq_getElem?_getD,List.getD_eq_getElem?_getD,List.getElem?_set_ne h]
/-! The whole division. -/
end Go.Proofs.YtdpjbefeabokgaaGreat
/- limb.Mul, limb.Cmp, limb.Bit, limb.shifted. Condition: numbers of at most 2^40 limbs. -/
namespace Go.Proofs.YtdpjbefeabokgaaGreat
open Go Go.RowKit
end Go.Proofs.YtdpjbefeabokgaaGreat
/- limb.shifted, limb.step: the parts of a division of numbers in limbs. Condition: numbers of at most 2^40 limbs. -/
namespace Go.Proofs.YtdpjbefeabokgaaGreat
open Go Go.RowKit
end Go.Proofs.YtdpjbefeabokgaaGreat
/- limb.step: the upper limbs divided. Condition: at most 2^40 limbs; the quotient is one limb. -/
namespace Go.Proofs.YtdpjbefeabokgaaGreat
open Go Go.RowKit
def StepP (b:Nat) (e:TypeId) (pre u v post:List UInt64) (r:Value) (L:List Heaplet):Prop:=
 ∃M x, ∃q:UInt64,r=.int .u64 (q.toNat:Int)∧L= [M]∧Blk M b e (u64s (pre++x++post))∧x.length=u.length∧q.toNat=v64 u/v64 v∧v64 x=v64 u % v64 v
end Go.Proofs.YtdpjbefeabokgaaGreat
/- limb.DivMod: a number in limbs divided by one that is not 0. Condition: numbers of at most 2^40 limbs. -/
namespace Go.Proofs.YtdpjbefeabokgaaGreat
open Go Go.RowKit
theorem Row.blk {N:Heaplet} {e:TypeId} {ao:Option Addr} {n:Nat} {xs:List Value} (h:Row N e 1 ao n n xs) (h0:0<n): ∃b,ao=some ⟨b,0,none⟩∧Blk N b e xs:=by
 obtain⟨h1,h2,h3,h4⟩:=h
 rcases h4 with ⟨_,h5,_⟩|⟨b,cur,rfl,hN,hs,ht⟩
 ·omega
 ·refine⟨b,rfl,?_⟩
  have hl:cur.toList.length=n:=by simpa using hs
  rw [List.take_of_length_le (by omega)]at ht
  rw [Blk,hN, ←ht]
/-- Two numbers in limbs, in new memory. -/
def LimbsP2 (A B:Nat) (v:Value) (L:List Heaplet):Prop:=
 ∃M1 a1 c1 M2 a2 c2,v=.tuple #[.slice a1 (limbsOf A).length c1,.slice a2 (limbsOf B).length c2]∧L= [M1,M2]∧RSl M1 1 a1 (limbsOf A).length c1 (u64s (limbsOf A))∧RSl M2 1 a2 (limbsOf B).length c2 (u64s (limbsOf B))
end Go.Proofs.YtdpjbefeabokgaaGreat
/- Plain laws: words. No condition. -/
namespace Go.Proofs.YtdpjbefeabokgaaGreat
open Go Go.RowKit
/-- How many words there are. -/
def WW:Nat:=2^256
/-- The word of a number modulo 2^256, as limbs and as a value. -/
def wl (x:Nat):List UInt64:=limbsN 4 x
def wo (x:Nat):Value:=.agg (u64s (wl x)).toArray
@[simp] theorem length_wl (x:Nat):(wl x).length=4:=rfl
theorem v64_wl (x:Nat):v64 (wl x)=x % WW:=v64_limbsN 4 x
end Go.Proofs.YtdpjbefeabokgaaGreat
/- Package word: Of, Small, sums, differences, products. No condition. -/
namespace Go.Proofs.YtdpjbefeabokgaaGreat
open Go Go.RowKit
end Go.Proofs.YtdpjbefeabokgaaGreat
/- The engine, words compared. For whatever program. No condition. -/
namespace Go.Proofs.YtdpjbefeabokgaaGreat
open Go Go.RowKit
section
variable {P : Program}
theorem eqGuard_agg {op:BinOp} {t:TypeId} {x y:Operand} {a b:Array Value} (h:P.eqGuardType P.depth t=false) (w:World):(eqGuard op t x y (.agg a) (.agg b)).run P w=.ok () w:=by
 unfold eqGuard
 by_cases ho:(!(op matches .eql|.neq))=true<;>simp [ho,h]
variable {n : Nat} {l : List (Nat × Value)} {E : World} {L Ls : List Heaplet} {X Y : Act → World → Prop} {d : Nat} {t t' ty e : TypeId} {x y : Operand}
end
end Go.Proofs.YtdpjbefeabokgaaGreat
/- Package word: products, quotients, with signs and without. No condition. -/
namespace Go.Proofs.YtdpjbefeabokgaaGreat
open Go Go.RowKit
/-- What is left; 0 by 0. -/
def modZ (x y:Nat):Nat:=if y=0 then 0 else x % y
def HW:Nat:=2^255
/-- Is the signed value below 0? -/
def negB (x:Nat):Bool:=decide (HW≤x)
/-- A word, or less it. -/
def sgn (m:Bool) (x:Nat):Nat:=if m then WW- x else x
def absW (x:Nat):Nat:=sgn (negB x) x
end Go.Proofs.YtdpjbefeabokgaaGreat
/- Package nat: forms, orders, bits, sums, differences, products, quotients. Condition: numbers of at most 2^38 bytes. -/
namespace Go.Proofs.YtdpjbefeabokgaaGreat
open Go Go.RowKit
/-- A number's bytes in new memory. -/
def BytesP (V:Nat) (v:Value) (L:List Heaplet):Prop:=
 ∃M a c,v=.slice a (bytesOf V).length c∧L= [M]∧Row M 5 1 a (bytesOf V).length c (u8s (bytesOf V))
section
variable {N M : Heaplet} {ao bo : Option Addr} {n m ca cb : Nat} {a b : List UInt8}
def SubP (A B:Nat) (v:Value) (L:List Heaplet):Prop:=
 ∃M p c,v=.tuple #[.slice p (bytesOf (A- B)).length c,.bool (decide (B≤A))]∧L= [M]∧Row M 5 1 p (bytesOf (A- B)).length c (u8s (bytesOf (A- B)))
def DivModP (A B:Nat) (v:Value) (L:List Heaplet):Prop:=
 ∃M1 p1 c1 M2 p2 c2,v=.tuple #[.slice p1 (bytesOf (A/B)).length c1,.slice p2 (bytesOf (A % B)).length c2,.bool true]∧L= [M1,M2]∧Row M1 5 1 p1 (bytesOf (A/B)).length c1 (u8s (bytesOf (A/B)))∧Row M2 5 1 p2 (bytesOf (A % B)).length c2 (u8s (bytesOf (A % B)))
end
end Go.Proofs.YtdpjbefeabokgaaGreat
/- nat.ModExp: powers modulo a number. Condition: numbers of at most 2^34 bytes. -/
namespace Go.Proofs.YtdpjbefeabokgaaGreat
open Go Go.RowKit
theorem Blk.one {N:Heaplet} {b:Nat} {e:TypeId} {v:Value} (h:Blk N b e [v]):RSl N 1 (some ⟨b,0,none⟩) 1 1 [v]:=
 ⟨rfl,Nat.le_refl _,by decide,fun _=>⟨b,0,rfl,h.rng⟩⟩
section
variable {N M Nb Nm : Heaplet} {ao bo mo : Option Addr} {n m nm ca cb cm bb : Nat} {e : TypeId} {a b l : List UInt64}
end
section
variable {N M Nm : Heaplet} {ao bo mo : Option Addr} {n m nm ca cb cm : Nat} {a b l : List UInt8}
end
end Go.Proofs.YtdpjbefeabokgaaGreat
/- Package word: powers. No condition. -/
namespace Go.Proofs.YtdpjbefeabokgaaGreat
open Go Go.RowKit
end Go.Proofs.YtdpjbefeabokgaaGreat
/- Package word: all bits turned, order. No condition. -/
namespace Go.Proofs.YtdpjbefeabokgaaGreat
open Go Go.RowKit
end Go.Proofs.YtdpjbefeabokgaaGreat
/- Plain laws on numbers in digits of 32 bits (out of those on limbs, by a program). No condition. -/
namespace Go.Proofs.YtdpjbefeabokgaaGreat
end Go.Proofs.YtdpjbefeabokgaaGreat
