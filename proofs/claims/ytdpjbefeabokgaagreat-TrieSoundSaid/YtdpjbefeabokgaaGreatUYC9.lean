/- Layer 12: nobody is told a wrong value: 'quarrylaw12.TrieSound' answers true. No condition. -/
import Derived.Test.YtdpjbefeabokgaaGreatU17
import Derived.Test.YtdpjbefeabokgaaGreatU15
set_option linter.unusedSimpArgs false
set_option linter.unusedVariables false
namespace Go.Proofs.YtdpjbefeabokgaaGreat
open Go Go.RowKit
set_option maxRecDepth 100000
theorem set8Q (l:List UInt8) (j:Nat) (x:UInt8):setL (u8s l) j [.int .u8 (x.toNat:Int)]=u8s (l.set j x):=by rw [setL,setL,set_u8s]
theorem u8s_ints (l:List UInt8):(u8s l).all isInt=true:=by
 refine List.all_eq_true.2 fun u hu=>?_
 obtain⟨x,_,rfl⟩:=List.mem_map.1 hu
 rfl
theorem okB_eq8 {P:Program} {l:List (Nat×Value)} {t t':TypeId} {x y:Operand} {a b:List UInt8} (hx:ev l x=some (.agg (u8s a).toArray)) (hy:ev l y=some (.agg (u8s b).toArray)) (hg:(!P.eqGuardType P.depth t&&intsB P t)=true):okB P l (.binOp .eql t x y t')=true:=by
 rw [Bool.and_eq_true]at hg
 simp [okB,Op.operands,floatOK,hx,hy,hg.1,hg.2,u8s_ints]
theorem xorN: ∀n:Nat,n<256→bits .xor .u8 (n:Int) 1=((n^^^1:Nat):Int):=by decide+kernel
theorem xor1 (b:UInt8):bits .xor .u8 (b.toNat:Int) 1=((b^^^1).toNat:Int):=by
 rw [UInt8.toNat_xor];exact xorN b.toNat b.toNat_lt
theorem set_le7 {ls:List (List UInt8)} {i:Nat} {y:List UInt8} (h: ∀b∈ls,b.length≤700) (hy:y.length≤700): ∀b∈ls.set i y,b.length≤700:=fun b hb=>by
 rcases List.mem_or_eq_of_mem_set hb with hb|rfl
 ·exact h b hb
 ·exact hy
theorem snoc_le7 {ls:List (List UInt8)} {y:List UInt8} (h: ∀b∈ls,b.length≤700) (hy:y.length≤700): ∀b∈ls++ [y],b.length≤700:=fun b hb=>by
 rcases List.mem_append.1 hb with hb|hb
 ·exact h b hb
 ·rw [List.mem_singleton.1 hb];exact hy
theorem bag_take {e:TypeId} {N:Heaplet} {vs:List Value} {xs:List (List UInt8)} (h:Bag e N vs xs) (k:Nat):Bag e N (vs.take k) (xs.take k):=by
 refine⟨by rw [List.length_take,List.length_take,h.len],fun i x hx=>?_,fun i j p q n m c d hij hi hj=>?_⟩
 ·rw [List.getElem?_take]at hx
  split at hx
  ·rename_i hi
   obtain⟨p,c,h1,h2⟩:=h.row i x hx
   exact⟨p,c,by rw [List.getElem?_take,if_pos hi];exact h1,h2⟩
  ·cases hx
 ·rw [List.getElem?_take]at hi hj
  split at hi
  ·split at hj
   ·exact h.apart i j p q n m c d hij hi hj
   ·cases hj
  ·cases hi
section
variable {N : Heaplet} {oa ka ta ba ma : Option Addr} {on oc kn kc tn tc bn bc mn mc : Nat} {xs : List OV} {k mo : List UInt8} {tl bl : List Int}
set_option maxHeartbeats 4000000 in
theorem TrieSound_f (h:RSl N 4 oa on oc (opsC xs)) (hg:OpsN N xs) (hk:RSl N 1 ka kn kc (u8s k)) (ht:RSl N 1 ta tn tc (intsV tl)) (htb: ∀q∈tl, -9223372036854775808≤q∧q≤9223372036854775807) (hb:RSl N 1 ba bn bc (intsV bl)) (hbb: ∀q∈bl, -9223372036854775808≤q∧q≤9223372036854775807) (hm:RSl N 1 ma mn mc (u8s mo)):Fn Tryz.prog 5 #[.agg #[.slice oa on oc,.slice ka kn kc,.slice ta tn tc,.slice ba bn bc,.slice ma mn mc]] [] [N] (fun v L=>v=.bool true∧L= []):=by
 have htl:tl.length=tn:=by have:=ht.1;rw [intsV_len]at this;omega
 have hbl:bl.length=bn:=by have:=hb.1;rw [intsV_len]at this;omega
 have htc:=ht.cap63
 have hbc:=hb.cap63
 refine Fn.enter (vs:= [.agg #[.slice oa on oc,.slice ka kn kc,.slice ta tn tc,.slice ba bn bc,.slice ma mn mc]]) Tryz.func5 rfl rfl rfl ?_
 intro E R hR
 have hle:=hR N (by simp)
 have h:=h.le hle
 have hg:=hg.le hle
 have hk:=hk.le hle
 have ht:=ht.le hle
 have hb:=hb.le hle
 have hm:=hm.le hle
 change At _ _ E [R] _
 refine At.seq fun _ s_1=>At.region (op_box (aX rfl) rfl rfl rfl (fun N1 b1 B1=>aE (aD rfl) rfl rfl (aA (aB (s_1 (At.seq fun _ s_2=>At.region (aF (aD rfl) fl46_0 rfl rfl (aJ (aD rfl) sc31 rfl B1 (by first|rfl) aO rfl ?_))))))))
 refine aI (aX rfl) (.cons rfl .nil) (FMade h hg) Tryz.func12 rfl rfl (by simp) rfl ?_
 rintro v19 L19 ⟨P,Q,bp,bq,rfl,rfl,c0,R0,hT,hQ,hc0,hR0⟩
 change At _ _ _ [P,Q,N1,R] _
 have hG:Good R0:=by obtain⟨_,_,_,_,_,hG⟩:=hT;exact hG
 refine aC (aD rfl) rfl rfl (aN (aD rfl) rfl rfl rfl (aN (aD rfl) rfl rfl rfl (aE (aD rfl) rfl rfl (aE (aD rfl) rfl rfl (aA (aB (s_2 (At.seq fun _ s_3=>At.seq fun _ s_4=>At.region (aC (aD rfl) rfl rfl (op_eqPt (aD rfl) Tryz.underlying32 rfl rfl (aC (aD rfl) rfl rfl (aI (nxga rfl rfl rfl rfl) .nil (TWakes) Tryz.func11 rfl rfl (by simp) rfl ?_))))))))))))
 rintro v25 L25 ⟨rfl,rfl⟩
 change At _ _ _ [P,Q,N1,R] _
 refine op_not (bA rfl rfl rfl rfl) rfl rfl (bL (aD rfl) rfl rfl rfl (aA (aB (s_4 (At.condF rfl (At.skip (aB (s_3 (At.seq fun _ s_5=>At.region (aC (aD rfl) rfl rfl (aF (aD rfl) fl46_1 rfl rfl (aJ (aD rfl) sc23 rfl B1 (by first|rfl) aZ rfl ?_))))))))))))
 refine aI (aX rfl) (.cons rfl .nil) (FKey hk) Tryz.func14 rfl rfl (by simp) rfl ?_
 rintro v31 L31 ⟨N31,a31,c31,rfl,rfl,r31⟩
 change At _ _ _ [N31,P,Q,N1,R] _
 have hk40:(k.take 40).length≤40:=by rw [List.length_take];omega
 refine aI (aX rfl) (.cons rfl (.cons rfl .nil)) (FProve hT (by omega) r31.rsl (by omega)) Tryz.func13 rfl rfl (by simp) rfl ?_
 rintro v32 L32 ⟨N32,a32,c32,us32,rfl,rfl,r32,hB32⟩
 change At _ _ _ [N32,N31,P,Q,N1,R] _
 refine aE (aD rfl) rfl rfl (aA (aB (s_5 (At.seq fun _ s_6=>At.region (aC (aD rfl) rfl rfl ?_)))))
 have hpl:=provM_len R0 (k.take 40)
 have hps:=provM_small hG (k.take 40)
 have hsnd:=fun(q:List (List UInt8)) hq u hu=>check_sound hG (k.take 40) (q:=q) hq (u:=u) hu
 obtain⟨fs,hfs⟩: ∃fs,provM R0 (k.take 40)=fs:=⟨_,rfl⟩
 rw [hfs]at r32 hB32 hpl hps hsnd⊢
 have hcl:=cutB_len fs
 refine aI (aX rfl) (.cons rfl .nil) (FTwinsO r32 hB32) Tryz.func19 rfl rfl (by simp) rfl ?_
 rintro v34 L34 ⟨N34,M34,a34,c34,us34,rfl,rfl,r34,hB34⟩
 change At _ _ _ [N34,M34,N32,N31,P,Q,N1,R] _
 refine aE (aD rfl) rfl rfl (aA (aB (s_6 (At.seq fun _ s_7=>At.meet (fun fr_ hp_=> ∃(m:Nat) (a:Option Addr) (c:Nat) (us:List Value) (ls:List (List UInt8)) (No Nb:Heaplet),fr_= [(1,.pointer (some ⟨b1,0,none⟩)),(3,.pointer (some ⟨bp,0,none⟩)),(5,.slice a32 fs.length c32),(6,.slice a m c)]∧hp_= [No,Nb,N32,P,N1,R]∧(Row No 23 1 a m c us)∧(ls.length=m)∧(Bag 5 Nb us ls)∧(∀b∈ls,b.length≤700)) ?_ (fun K7_ jk_7=>?_)))))
 rotate_left
 ·skip
  refine At.seq fun _ s_8=>At.region (aE (aD rfl) rfl rfl (aA (aB (s_8 (At.block (At.sub (L':= [N34,M34,N32,P,N1,R]) (.cons_cons _ (.cons_cons _ (.cons_cons _ (.cons _ (.cons_cons _ (.cons _ (.cons_cons _ (.cons_cons _ (.slnil))))))))) (At.loop (fun fr_ hp_ ms_=> ∃(i m:Nat) (a:Option Addr) (c:Nat) (us:List Value) (ls:List (List UInt8)) (No Nb:Heaplet),fr_= [(1,.pointer (some ⟨b1,0,none⟩)),(3,.pointer (some ⟨bp,0,none⟩)),(5,.slice a32 fs.length c32),(6,.slice a m c),(7,.int .i64 (i:Int))]∧hp_= [No,Nb,N32,P,N1,R]∧tn- i=ms_∧(i≤5)∧(Row No 23 1 a m c us)∧(ls.length=m)∧(Bag 5 Nb us ls)∧(m≤80+i)∧(∀b∈ls,b.length≤700)) ?_ (.refl _) ⟨0,_,a34,c34,us34,cutB fs,N34,M34,rfl,rfl,rfl,by omega,r34,rfl,hB34,by omega,cutB_le⟩ ?_)))))))
  ·exact .cons (by first|exact aS rfl (by omega)|rfl) (.cons (by first|exact aS rfl (by omega)|rfl) (.cons (by first|exact aS rfl (by omega)|rfl) (.cons (by first|exact aS rfl (by omega)|rfl) (.cons (by first|exact aS rfl (by omega)|rfl) .nil))))
  rintro _ _ _ ⟨i,m,a,c,us,ls,No,Nb,rfl,rfl,rfl,hi,ro,hml,hbg,hl80,hl7⟩
  refine At.seq fun _ s_9=>At.seq fun _ s_10=>At.region (aC (aD rfl) rfl rfl (aF (aD rfl) fl46_2 rfl rfl (aJ (aD rfl) sc44 rfl B1 (by first|rfl) bG rfl ?_)))
  refine aR (aD rfl) se44 rfl rfl (op_lss (aD rfl) rfl rfl rfl (aC (aD rfl) rfl rfl (At.partP (d:=40) rfl (fun g40=>?_) (fun g40=>?_))))
  ·refine aC (bA rfl rfl rfl rfl) rfl rfl (aF (bA rfl rfl rfl rfl) fl46_3 rfl rfl (aJ (bA rfl rfl rfl rfl) sc44 rfl B1 (by first|rfl) bG rfl ?_))
   refine aR (bA rfl rfl rfl rfl) se44 rfl rfl (op_lss (bA rfl rfl rfl rfl) rfl rfl rfl (bQ (aD rfl) rfl rfl rfl (aC (aD rfl) rfl rfl (At.partP (d:=47) rfl (fun g47=>?_) (fun g47=>?_)))))
   ·refine aC (bA rfl rfl rfl rfl) rfl rfl (op_lss (bA rfl rfl rfl rfl) rfl rfl rfl (bQ (aD rfl) rfl rfl rfl (aC (aD rfl) rfl rfl (At.partP (d:=51) rfl (fun g51=>?_) (fun g51=>?_)))))
    ·refine aC (bA rfl rfl rfl rfl) rfl rfl (aR (bA rfl rfl rfl rfl) se22 rfl rfl (op_gtr (bA rfl rfl rfl rfl) rfl rfl rfl (bQ (aD rfl) rfl rfl rfl (aA (aB (s_10 (aL rfl (fun c55=>?_) (fun c55=>?_))))))))
     ·have hln:0<m:=by omega
      obtain⟨q1,hq1⟩: ∃q,tl[i]? =some q:=⟨_,List.getElem?_eq_getElem (by omega)⟩
      obtain⟨q2,hq2⟩: ∃q,bl[i]? =some q:=⟨_,List.getElem?_eq_getElem (by omega)⟩
      have hb1:=htb q1 (List.mem_of_getElem? hq1)
      have hb2:=hbb q2 (List.mem_of_getElem? hq2)
      have hr1:=tmod_rng q1 hln
      obtain⟨kk,ekk,hkk⟩:=tmod_pos (q:=Int.tmod q1 m+m) hln (by omega)
      have hr2: -4<Int.tmod q2 4∧Int.tmod q2 4<4:=tmod_rng q2 (n:=4) (by decide)
      obtain⟨y,hy⟩: ∃y,ls[kk]? =some y:=⟨_,List.getElem?_eq_getElem (by omega)⟩
      obtain⟨pk,ck,huk,hrk⟩:=hbg.row kk y hy
      have hy7:=hl7 y (List.mem_of_getElem? hy)
      have srk:=hrk.rsl
      have so:=ro.rsl
      have hcs:=so.cap63
      have hts:=ht.isSome (by omega)
      have hbs:=hb.isSome (by omega)
      have hos:=so.isSome (by omega)
      have hrkc:=srk.cap63
      refine At.skip (aB (s_9 (At.seq fun _ s_11=>At.block (At.seq fun _ s_12=>At.region (aF (aD rfl) fl46_2 rfl rfl (aJ (aD rfl) sc44 rfl B1 (by first|rfl) bG rfl ?_))))))
      refine aC (aD rfl) rfl rfl (bI (aD rfl) se44 rfl rfl ht (show _=(((i:Nat)):Int)from by omega) (by omega) rfl ?_)
      refine aT (aD rfl) sc3 rfl ht (by first|exact get8 (by omega)|exact get64 (by omega)|exact get32 (by omega)|exact intsV_at hq1) (by first|exact aO|exact aY|exact aZ|exact bK|exact bG|exact bJ|exact bP|exact bO|exact bM|exact bN) rfl ?_
      refine aC (aD rfl) rfl rfl (aR (aD rfl) se22 rfl rfl (op_remT (aD rfl) rfl rfl (by omega) rfl (aC (aD rfl) rfl rfl (aR (aD rfl) se22 rfl rfl (aV (aD rfl) rfl rfl (by omega) (by omega) rfl (aC (aD rfl) rfl rfl (aR (aD rfl) se22 rfl rfl (op_remT (aD rfl) rfl rfl (by omega) rfl (aE (aD rfl) rfl rfl (aA (aB (s_12 (At.seq fun _ s_13=>At.region (aF (aD rfl) fl46_3 rfl rfl (aJ (aD rfl) sc44 rfl B1 (by first|rfl) bG rfl ?_)))))))))))))))
      refine aC (aD rfl) rfl rfl (bI (aD rfl) se44 rfl rfl hb (show _=(((i:Nat)):Int)from by omega) (by omega) rfl ?_)
      refine aT (aD rfl) sc3 rfl hb (by first|exact get8 (by omega)|exact get64 (by omega)|exact get32 (by omega)|exact intsV_at hq2) (by first|exact aO|exact aY|exact aZ|exact bK|exact bG|exact bJ|exact bP|exact bO|exact bM|exact bN) rfl ?_
      refine op_remT (aD rfl) rfl rfl (by omega) rfl (aV (aD rfl) rfl rfl (by omega) (by omega) rfl (op_remT (aD rfl) rfl rfl (by omega) rfl (aA (aB (s_13 (At.block (At.seq fun _ s_14=>At.region (op_eql (aD rfl) rfl rfl rfl (aE (aD rfl) rfl rfl (aA (aB (s_14 (aL rfl (fun c80=>?_) (fun c80=>?_))))))))))))))
      ·refine At.seq fun _ s_15=>At.region (aC (aD rfl) rfl rfl (aC (aD rfl) rfl rfl (bI (aD rfl) se22 rfl rfl so (show _=(((kk:Nat)):Int)from by omega) (by omega) rfl ?_)))
       refine aT (aD rfl) sc23 rfl so (by first|exact get8 (by omega)|exact get64 (by omega)|exact get32 (by omega)|exact huk) (by first|exact aO|exact aY|exact aZ|exact bK|exact bG|exact bJ|exact bP|exact bO|exact bM|exact bN) rfl ?_
       refine aR (aD rfl) se23 rfl rfl (op_gtr (aD rfl) rfl rfl rfl (aA (aB (s_15 (aL rfl (fun c87=>?_) (fun c87=>?_))))))
       ·have hy0:0<y.length:=by omega
        have hdr:=tdiv_rng (p:=q2) (q:=4) (by decide) (by omega) (by omega)
        have hr3:=tmod_rng (q2.tdiv 4) hy0
        obtain⟨jj,ejj,hjj⟩:=tmod_pos (q:=(q2.tdiv 4).tmod y.length+y.length) hy0 (by omega)
        refine At.seq fun _ s_16=>At.drawn [] [0,1,2,3,4,5,6,7,8,9,10,11,12,13,14,15,16,17,18,19,20,21,22,23,24] (by kernel_rfl) (by kernel_rfl) (aF (aK rfl rfl rfl (by kernel_rfl)) fl46_3 rfl rfl (aJ (aK rfl rfl rfl (by kernel_rfl)) sc44 rfl B1 (by first|rfl) bG rfl ?_))
        refine aC (aK rfl rfl rfl (by kernel_rfl)) rfl rfl (bI (aK rfl rfl rfl (by kernel_rfl)) se44 rfl rfl hb (show _=(((i:Nat)):Int)from by omega) (by omega) rfl ?_)
        refine aT (aK rfl rfl rfl (by kernel_rfl)) sc3 rfl hb (by first|exact get8 (by omega)|exact get64 (by omega)|exact get32 (by omega)|exact intsV_at hq2) (by first|exact aO|exact aY|exact aZ|exact bK|exact bG|exact bJ|exact bP|exact bO|exact bM|exact bN) rfl ?_
        refine op_quoT (aK rfl rfl rfl (by kernel_rfl)) rfl rfl (by omega) (by omega) (by omega) rfl (aC (aK rfl rfl rfl (by kernel_rfl)) rfl rfl (aC (aK rfl rfl rfl (by kernel_rfl)) rfl rfl (bI (aK rfl rfl rfl (by kernel_rfl)) se22 rfl rfl so (show _=(((kk:Nat)):Int)from by omega) (by omega) rfl ?_)))
        refine aT (aK rfl rfl rfl (by kernel_rfl)) sc23 rfl so (by first|exact get8 (by omega)|exact get64 (by omega)|exact get32 (by omega)|exact huk) (by first|exact aO|exact aY|exact aZ|exact bK|exact bG|exact bJ|exact bP|exact bO|exact bM|exact bN) rfl ?_
        refine aR (aK rfl rfl rfl (by kernel_rfl)) se23 rfl rfl (op_remT (aK rfl rfl rfl (by kernel_rfl)) rfl rfl (by omega) rfl (aC (aK rfl rfl rfl (by kernel_rfl)) rfl rfl (aC (aK rfl rfl rfl (by kernel_rfl)) rfl rfl (bI (aK rfl rfl rfl (by kernel_rfl)) se22 rfl rfl so (show _=(((kk:Nat)):Int)from by omega) (by omega) rfl ?_))))
        refine aT (aK rfl rfl rfl (by kernel_rfl)) sc23 rfl so (by first|exact get8 (by omega)|exact get64 (by omega)|exact get32 (by omega)|exact huk) (by first|exact aO|exact aY|exact aZ|exact bK|exact bG|exact bJ|exact bP|exact bO|exact bM|exact bN) rfl ?_
        refine aR (aK rfl rfl rfl (by kernel_rfl)) se23 rfl rfl (aV (aK rfl rfl rfl (by kernel_rfl)) rfl rfl (by omega) (by omega) rfl (aC (aK rfl rfl rfl (by kernel_rfl)) rfl rfl (aC (aK rfl rfl rfl (by kernel_rfl)) rfl rfl (bI (aK rfl rfl rfl (by kernel_rfl)) se22 rfl rfl so (show _=(((kk:Nat)):Int)from by omega) (by omega) rfl ?_))))
        refine aT (aK rfl rfl rfl (by kernel_rfl)) sc23 rfl so (by first|exact get8 (by omega)|exact get64 (by omega)|exact get32 (by omega)|exact huk) (by first|exact aO|exact aY|exact aZ|exact bK|exact bG|exact bJ|exact bP|exact bO|exact bM|exact bN) rfl ?_
        refine aR (aK rfl rfl rfl (by kernel_rfl)) se23 rfl rfl (op_remT (aK rfl rfl rfl (by kernel_rfl)) rfl rfl (by omega) rfl (aE (aK rfl rfl rfl (by kernel_rfl)) rfl rfl (At.oneNil (aB (s_16 (At.drawnS [No,Nb,N32,P,N1,R] [14] [] [0,1,2,3,4,5,6,7,8,9,10,11,12,13,14] (by kernel_rfl) (by kernel_rfl) (.refl _) (aC (aU rfl rfl rfl) rfl rfl (aC (aU rfl rfl rfl) rfl rfl (bI (aU rfl rfl rfl) se22 rfl rfl so (show _=(((kk:Nat)):Int)from by omega) (by omega) rfl ?_)))))))))
        refine aT (aU rfl rfl rfl) sc23 rfl so (by first|exact get8 (by omega)|exact get64 (by omega)|exact get32 (by omega)|exact huk) (by first|exact aO|exact aY|exact aZ|exact bK|exact bG|exact bJ|exact bP|exact bO|exact bM|exact bN) rfl ?_
        refine aC (aU rfl rfl rfl) rfl rfl (aC (aU rfl rfl rfl) rfl rfl (aC (aU rfl rfl rfl) rfl rfl (bI (aU rfl rfl rfl) se22 rfl rfl so (show _=(((kk:Nat)):Int)from by omega) (by omega) rfl ?_)))
        refine aT (aU rfl rfl rfl) sc23 rfl so (by first|exact get8 (by omega)|exact get64 (by omega)|exact get32 (by omega)|exact huk) (by first|exact aO|exact aY|exact aZ|exact bK|exact bG|exact bJ|exact bP|exact bO|exact bM|exact bN) rfl ?_
        refine aC (aU rfl rfl rfl) rfl rfl (bI (aU rfl rfl rfl) se23 rfl rfl srk (show _=(((jj:Nat)):Int)from by omega) (by omega) rfl ?_)
        refine aT (aU rfl rfl rfl) sc5 rfl srk (by first|exact get8 (by omega)|exact get64 (by omega)|exact get32 (by omega)) (by first|exact aO|exact aY|exact aZ|exact bK|exact bG|exact bJ|exact bP|exact bO|exact bM|exact bN) rfl ?_
        refine op_bits (by simp) (aU rfl rfl rfl) rfl rfl rfl ?_
        rw [xor1]
        refine bI (aU rfl rfl rfl) se23 rfl rfl srk (show _=(((jj:Nat)):Int)from by omega) (by omega) rfl ?_
        refine op_storeU (nxsl rfl rfl rfl rfl) sz5 rfl rfl rfl rfl rfl hrk (by simp<;>omega) (by simp) sel1 (fun NJ rJ oJ=>?_)
        change Row NJ _ 1 pk y.length ck (setL (u8s y) jj [.int .u8 (((y.getD jj 0^^^1).toNat:Nat):Int)])at rJ
        rw [set8Q]at rJ
        refine At.sNil (aP (aP (aB (s_11 (At.region (aC (aD rfl) rfl rfl (aV (aD rfl) rfl rfl (by omega) (by omega) rfl (aE (aD rfl) rfl rfl (aA (aB (At.perm sel5 (At.perm sel5 (At.perm sel5 (At.perm sel5 (At.perm sel4 (At.perm sel5 ?_))))))))))))))))
        refine bD ?_ (.refl _) ⟨i+1,m,a,c,us,ls.set kk (y.set jj (y.getD jj 0^^^1)),No,NJ,rfl,rfl,rfl,by omega,ro,by rw [List.length_set];exact hml,hbg.set huk rJ oJ,by omega,set_le7 hl7 (by rw [List.length_set];exact hy7)⟩ ?_
        ·exact .cons (by first|exact aS rfl (by omega)|rfl) (.cons (by first|exact aS rfl (by omega)|rfl) (.cons (by first|exact aS rfl (by omega)|rfl) (.cons (by first|exact aS rfl (by omega)|rfl) (.cons (by first|exact aS rfl (by omega)|rfl) .nil))))
        ·omega
       refine At.skip (aP (aP (aB (s_11 (At.region (aC (aD rfl) rfl rfl (aV (aD rfl) rfl rfl (by omega) (by omega) rfl (aE (aD rfl) rfl rfl (aA (aB (bD ?_ (.refl _) ⟨i+1,m,a,c,us,ls,No,Nb,rfl,rfl,rfl,by omega,ro,hml,hbg,by omega,hl7⟩ ?_)))))))))))
       ·exact .cons (by first|exact aS rfl (by omega)|rfl) (.cons (by first|exact aS rfl (by omega)|rfl) (.cons (by first|exact aS rfl (by omega)|rfl) (.cons (by first|exact aS rfl (by omega)|rfl) (.cons (by first|exact aS rfl (by omega)|rfl) .nil))))
       ·omega
      refine At.seq fun _ s_17=>At.region (op_eql (aD rfl) rfl rfl rfl (aE (aD rfl) rfl rfl (aA (aB (s_17 (aL rfl (fun c126=>?_) (fun c126=>?_)))))))
      ·refine At.region (aC (aD rfl) rfl rfl (aC (aD rfl) rfl rfl (op_slice0 (aD rfl) se22 rfl (.some rfl (show _=(((kk:Nat)):Int)from by omega)) .none (by omega) (by omega) (by simp) rfl ?_)))
       refine aE (aD rfl) rfl rfl (aA (aP (aP (aB (s_11 (At.region (aC (aD rfl) rfl rfl (aV (aD rfl) rfl rfl (by omega) (by omega) rfl (aE (aD rfl) rfl rfl (aA (aB ?_)))))))))))
       refine bD ?_ (.refl _) ⟨i+1,kk,a,c,us.take kk,ls.take kk,No,Nb,rfl,rfl,rfl,by omega,ro.first (by omega) (by rw [Nat.mul_one]) (fun e=>by rw [e]at hos;cases hos),by rw [List.length_take];omega,bag_take hbg kk,by omega,fun b hb=>hl7 b (List.mem_of_mem_take hb)⟩ ?_
       ·exact .cons (by first|exact aS rfl (by omega)|rfl) (.cons (by first|exact aS rfl (by omega)|rfl) (.cons (by first|exact aS rfl (by omega)|rfl) (.cons (by first|exact aS rfl (by omega)|rfl) (.cons (by first|exact aS rfl (by omega)|rfl) .nil))))
       ·omega
      refine At.seq fun _ s_18=>At.region (op_eql (aD rfl) rfl rfl rfl (aE (aD rfl) rfl rfl (aA (aB (s_18 (aL rfl (fun c131=>?_) (fun c131=>?_)))))))
      ·refine At.region (aC (aD rfl) rfl rfl (aF (aD rfl) fl46_4 rfl rfl (aJ (aD rfl) sc23 rfl B1 (by first|rfl) bG rfl ?_)))
       refine aI (aX rfl) (.cons rfl (.cons rfl .nil)) (KTwin_f hm 600 600 rfl (by decide)) Tryz.func20 rfl rfl (by simp) rfl ?_
       rintro v136 L136 ⟨N136,a136,c136,rfl,rfl,r136⟩
       change At _ _ _ [N136,No,Nb,N32,P,N1,R] _
       refine op_lit (aX rfl) Tryz.underlying22 ze23 sz23 (.cons rfl .nil) rfl rfl (by simp [Value.cells]) rfl rfl rfl (fun N137 a137 r137=>?_)
       simp only [flatV,List.flatMap_cons,List.flatMap_nil,Value.cells,List.append_nil,List.cons_append,List.nil_append]at r137
       have s137:=r137.rsl
       have hbk:=bags_one hbg.bags
       refine bR (nxl rfl) Tryz.underlying22 Tryz.underlying22 te23 rfl rfl ro s137 (by first|exact aO|exact aY|exact aZ|exact bK|exact bG|exact bJ|exact bP|exact bO|exact bM|exact bN) (by intro u hu;simp at hu;subst hu;rfl) (by omega) (by omega) sel2 rfl (fun N138 a138 p138 r138=>?_)
       have s138:=r138.rsl
       refine aE (aD rfl) rfl rfl (aA (aP (aP (aB (s_11 (At.region (aC (aD rfl) rfl rfl (aV (aD rfl) rfl rfl (by omega) (by omega) rfl (aE (aD rfl) rfl rfl (aA (aB (At.perm sel7 (At.perm sel7 (At.perm sel7 (At.perm sel7 (At.perm sel5 (At.perm sel5 (At.perm sel7 (At.perm sel7 (At.merge (fun h136=>At.sub (L':= [(join2 N136 Nb),N138,N32,P,N1,R]) (.cons_cons _ (.cons_cons _ (.cons _ (.cons_cons _ (.cons_cons _ (.cons_cons _ (.cons_cons _ (.slnil)))))))) ?_)))))))))))))))))))))
       refine At.perm sel5 (At.perm sel5 (At.perm sel5 (At.perm sel5 (At.perm sel4 (At.perm sel5 ?_)))))
       refine bD ?_ (.refl _) ⟨i+1,m+1,a138,p138,_,ls++ [mo.take 600],N138,join2 N136 Nb,rfl,rfl,rfl,by omega,r138,by simp [hml],hbg.snoc r136 h136,by omega,snoc_le7 hl7 (by rw [List.length_take];omega)⟩ ?_
       ·exact .cons (by first|exact aS rfl (by omega)|rfl) (.cons (by first|exact aS rfl (by omega)|rfl) (.cons (by first|exact aS rfl (by omega)|rfl) (.cons (by first|exact aS rfl (by omega)|rfl) (.cons (by first|exact aS rfl (by omega)|rfl) .nil))))
       ·omega
      refine At.skip (aP (aP (aB (s_11 (At.region (aC (aD rfl) rfl rfl (aV (aD rfl) rfl rfl (by omega) (by omega) rfl (aE (aD rfl) rfl rfl (aA (aB (bD ?_ (.refl _) ⟨i+1,m,a,c,us,ls,No,Nb,rfl,rfl,rfl,by omega,ro,hml,hbg,by omega,hl7⟩ ?_)))))))))))
      ·exact .cons (by first|exact aS rfl (by omega)|rfl) (.cons (by first|exact aS rfl (by omega)|rfl) (.cons (by first|exact aS rfl (by omega)|rfl) (.cons (by first|exact aS rfl (by omega)|rfl) (.cons (by first|exact aS rfl (by omega)|rfl) .nil))))
      ·omega
     refine At.exit (aG (aG (bC (aB (jk_7 ?_ (.refl _) ⟨m,a,c,us,ls,No,Nb,rfl,rfl,ro,hml,hbg,hl7⟩)))))
     exact .cons (by first|exact aS rfl (by omega)|rfl) (.cons (by first|exact aS rfl (by omega)|rfl) (.cons (by first|exact aS rfl (by omega)|rfl) (.cons (by first|exact aS rfl (by omega)|rfl) .nil)))
    refine aH rfl rfl rfl rfl rfl rfl rfl (aH rfl rfl rfl rfl rfl rfl rfl (aH rfl rfl rfl rfl rfl rfl rfl (bL (aD rfl) rfl rfl rfl (aA (aB (s_10 (At.condF rfl (At.exit (aG (aG (bC (aB (jk_7 ?_ (.refl _) ⟨m,a,c,us,ls,No,Nb,rfl,rfl,ro,hml,hbg,hl7⟩)))))))))))))
    exact .cons (by first|exact aS rfl (by omega)|rfl) (.cons (by first|exact aS rfl (by omega)|rfl) (.cons (by first|exact aS rfl (by omega)|rfl) (.cons (by first|exact aS rfl (by omega)|rfl) .nil)))
   refine aH rfl rfl rfl rfl rfl rfl rfl (aH rfl rfl rfl rfl rfl rfl rfl (bL (aD rfl) rfl rfl rfl (aC (aD rfl) rfl rfl (aH rfl rfl rfl rfl rfl rfl rfl (aH rfl rfl rfl rfl rfl rfl rfl (aH rfl rfl rfl rfl rfl rfl rfl (bL (aD rfl) rfl rfl rfl (aA (aB (s_10 (At.condF rfl (At.exit (aG (aG (bC (aB (jk_7 ?_ (.refl _) ⟨m,a,c,us,ls,No,Nb,rfl,rfl,ro,hml,hbg,hl7⟩)))))))))))))))))
   exact .cons (by first|exact aS rfl (by omega)|rfl) (.cons (by first|exact aS rfl (by omega)|rfl) (.cons (by first|exact aS rfl (by omega)|rfl) (.cons (by first|exact aS rfl (by omega)|rfl) .nil)))
  refine aH rfl rfl rfl rfl rfl rfl rfl (aH rfl rfl rfl rfl rfl rfl rfl (aH rfl rfl rfl rfl rfl rfl rfl (aH rfl rfl rfl rfl rfl rfl rfl (aH rfl rfl rfl rfl rfl rfl rfl (bL (aD rfl) rfl rfl rfl (aC (aD rfl) rfl rfl (aH rfl rfl rfl rfl rfl rfl rfl (aH rfl rfl rfl rfl rfl rfl rfl (bL (aD rfl) rfl rfl rfl (aC (aD rfl) rfl rfl (aH rfl rfl rfl rfl rfl rfl rfl (aH rfl rfl rfl rfl rfl rfl rfl (aH rfl rfl rfl rfl rfl rfl rfl (bL (aD rfl) rfl rfl rfl (aA (aB (s_10 (At.condF rfl (At.exit (aG (aG (bC (aB (jk_7 ?_ (.refl _) ⟨m,a,c,us,ls,No,Nb,rfl,rfl,ro,hml,hbg,hl7⟩))))))))))))))))))))))))
  exact .cons (by first|exact aS rfl (by omega)|rfl) (.cons (by first|exact aS rfl (by omega)|rfl) (.cons (by first|exact aS rfl (by omega)|rfl) (.cons (by first|exact aS rfl (by omega)|rfl) .nil)))
 rintro _ _ ⟨m,a,c,us,ls,No,Nb,rfl,rfl,ro,hml,hbg,hl7⟩
 refine s_7 (At.seq fun _ s_19=>At.drawnS [No,Nb,N32,P,N1,R] [4,6,7] [5] [0,2,3,5,1,4,6,7,8,9,10,11,12,13,14] (by kernel_rfl) (by kernel_rfl) (.refl _) (aC (aU rfl rfl rfl) rfl rfl (aF (aU rfl rfl rfl) fl46_1 rfl rfl (aJ (aU rfl rfl rfl) sc23 rfl B1 (by first|rfl) bG rfl ?_))))
 refine aC (aU rfl rfl rfl) rfl rfl (aI (Nx.agree (nxsm rfl rfl rfl)) (.cons rfl .nil) (FRoot hT (by omega)) Tryz.func17 rfl rfl (by simp) rfl ?_)
 rintro v141 L141 ⟨rfl,rfl⟩
 change At _ _ _ [No,Nb,N32,P,N1,R] _
 refine At.moreS (Lst:= [No,Nb,N32,P,N1,R]) (Lst':= [No,Nb,N32,P,N1,R]) (.refl _) (.refl _) (aI (Nx.agree (nxss rfl rfl rfl rfl)) (.cons rfl .nil) (FKey hk) Tryz.func14 rfl rfl (by simp) rfl ?_)
 rintro v144 L144 ⟨N144,a144,c144,rfl,rfl,r144⟩
 change At _ _ _ [N144,No,Nb,N32,P,N1,R] _
 refine At.anyS (.refl _) (aI (Nx.agree (nxss rfl rfl rfl rfl)) (.cons rfl .nil) (Fn.overJ (Ns:= [No,Nb]) fun J hJ=>FTwinsO (ro.rsl.le (hJ No (by simp))) (hbg.bags.le (hJ Nb (by simp)))) Tryz.func19 rfl rfl (by simp) rfl ?_)
 rintro v146 L146 ⟨N146,M146,a146,c146,us146,rfl,rfl,r146,hB146⟩
 change At _ _ _ [N146,M146,N144,No,Nb,N32,P,N1,R] _
 refine At.anyS (.refl _) (aI (Nx.agree (nxss rfl rfl rfl rfl)) (.cons rfl (.cons rfl (.cons rfl .nil))) (Fn.overJ (Ns:= [N144,N146,M146]) fun J hJ=>(FCheck (root_len R0) (r144.rsl.le (hJ N144 (by simp))) (by omega) (r146.rsl.le (hJ N146 (by simp))) (hB146.bags.le (hJ M146 (by simp))) (fun b hb=>Nat.le_trans (cutB_le b hb) (by decide))).dupN) Tryz.func16 rfl rfl (by simp) rfl ?_)
 rintro v147 L147 (⟨u,N147,a147,c147,b147,hu147,rfl,rfl,r147,hb147⟩|⟨hu147,rfl,rfl⟩)
 ·change At _ _ _ [N147,N146,M146,N144,No,Nb,N32,P,N1,R] _
  refine At.anyS (.refl _) ?_
  have s147:=r147.rsl
  refine aC (aU rfl rfl rfl) rfl rfl (aN (aU rfl rfl rfl) rfl rfl rfl (aN (aU rfl rfl rfl) rfl rfl rfl (aN (aU rfl rfl rfl) rfl rfl rfl (aE (aU rfl rfl rfl) rfl rfl (aE (aU rfl rfl rfl) rfl rfl (aE (aU rfl rfl rfl) rfl rfl (At.sNil (aB (s_19 (At.seq fun _ s_20=>At.seq fun _ s_21=>At.region (aC (aD rfl) rfl rfl (op_neq (aD rfl) rfl rfl rfl (aA (aB (s_21 (aL rfl (fun c152=>?_) (fun c152=>?_)))))))))))))))))
  ·exact absurd rfl c152
  refine At.skip (aB (s_20 (At.seq fun _ s_22=>At.region (aC (aD rfl) rfl rfl (aF (aD rfl) fl46_1 rfl rfl (aJ (aD rfl) sc23 rfl B1 (by first|rfl) bM rfl ?_))))))
  refine aI (aX rfl) (.cons rfl .nil) (FKey hk) Tryz.func14 rfl rfl (by simp) rfl ?_
  rintro v157 L157 ⟨N157,a157,c157,rfl,rfl,r157⟩
  change At _ _ _ [N157,N147,N146,M146,N144,No,Nb,N32,P,N1,R] _
  refine aI (aX rfl) (.cons rfl (.cons rfl .nil)) (FGet hT r157.rsl (by omega)) Tryz.func18 rfl rfl (by simp) rfl ?_
  rintro v158 L158 ⟨N158,a158,c158,rfl,rfl,r158⟩
  change At _ _ _ [N158,N157,N147,N146,M146,N144,No,Nb,N32,P,N1,R] _
  have s158:=r158.rsl;have hsd:=hsnd (cutB ls) cutB_le u hu147
  refine aC (aD rfl) rfl rfl (aN (aD rfl) rfl rfl rfl (aN (aD rfl) rfl rfl rfl (aE (aD rfl) rfl rfl (aE (aD rfl) rfl rfl (aA (aB (s_22 (At.seq fun _ s_23=>At.meet (fun fr_ hp_=>fr_= [(1,.pointer (some ⟨b1,0,none⟩)),(3,.pointer (some ⟨bp,0,none⟩)),(5,.slice a32 fs.length c32),(6,.slice a m c)]∧hp_= [No,Nb,N32,P,N1,R]∧(Clash fs ls)) ?_ (fun K23_ jk_23=>?_)))))))))
  rotate_left
  ·skip
   refine At.seq fun _ s_24=>At.region (aC (aD rfl) rfl rfl (aC (aD rfl) rfl rfl (op_eqB (aD rfl) Tryz.underlying4 rfl rfl rfl (aC (aD rfl) rfl rfl (At.part (d:=164) rfl (fun g164=>?_) (fun g164=>?_))))))
   ·refine aC (bA rfl rfl rfl rfl) rfl rfl (op_str (bA rfl rfl rfl rfl) Tryz.underlying23 Tryz.underlying5 Tryz.underlying9 rfl (by assumption) (by first|exact aO|exact aY|exact aZ|exact bK|exact bG|exact bJ|exact bP|exact bO|exact bM|exact bN|exact mem10|exact mem11) rfl ?_)
    refine aC (bA rfl rfl rfl rfl) rfl rfl (op_str (bA rfl rfl rfl rfl) Tryz.underlying23 Tryz.underlying5 Tryz.underlying9 rfl (by assumption) (by first|exact aO|exact aY|exact aZ|exact bK|exact bG|exact bJ|exact bP|exact bO|exact bM|exact bN|exact mem10|exact mem11) rfl ?_)
    refine op_eqS (bA rfl rfl rfl rfl) rfl rfl rfl (bQ (aD rfl) rfl rfl rfl (aA (aB (s_24 (aL rfl (fun c170=>?_) (fun c170=>?_))))))
    ·refine At.seq fun _ s_25=>At.region (aE (aD rfl) rfl rfl (aA (aB (s_25 (At.ret (aM ((At.sub (L':= [R]) (.cons _ (.cons _ (.cons _ (.cons _ (.cons _ (.cons _ (.cons _ (.cons _ (.cons _ (.cons _ (.cons _ (.cons_cons _ (.slnil))))))))))))) (aW (L1:= []) rfl (.tmp rfl .nil) (.refl _) (.refl _) ?_)))))))))
     exact⟨rfl,rfl⟩
    refine At.skip (At.sub (L':= [No,Nb,N32,P,N1,R]) (.cons _ (.cons _ (.cons _ (.cons _ (.cons _ (.cons _ (.cons_cons _ (.cons_cons _ (.cons_cons _ (.cons_cons _ (.cons_cons _ (.cons_cons _ (.slnil))))))))))))) (aB (jk_23 ?_ (.refl _) ⟨rfl,rfl,clash_cut hl7 (hsd.resolve_left fun e=>c170 e)⟩)))
    exact .cons (by first|exact aS rfl (by omega)|rfl) (.cons (by first|exact aS rfl (by omega)|rfl) (.cons (by first|exact aS rfl (by omega)|rfl) (.cons (by first|exact aS rfl (by omega)|rfl) .nil)))
   refine aH rfl rfl rfl rfl rfl rfl rfl (aH rfl rfl rfl rfl rfl rfl rfl (aH rfl rfl rfl rfl rfl rfl rfl (aH rfl rfl rfl rfl rfl rfl rfl (aH rfl rfl rfl rfl rfl rfl rfl (bL (aD rfl) rfl rfl rfl (aA (aB (s_24 (At.condF rfl (At.skip (At.sub (L':= [No,Nb,N32,P,N1,R]) (.cons _ (.cons _ (.cons _ (.cons _ (.cons _ (.cons _ (.cons_cons _ (.cons_cons _ (.cons_cons _ (.cons_cons _ (.cons_cons _ (.cons_cons _ (.slnil))))))))))))) ?_)))))))))))
   refine aB (jk_23 ?_ (.refl _) ⟨rfl,rfl,clash_cut hl7 (hsd.resolve_left fun e=>by rw [Bool.eq_iff_iff.2 (hb147.trans ((has_ne hG (k.take 40)).trans (by rw [e])).symm)]at g164;simp at g164)⟩)
   exact .cons (by first|exact aS rfl (by omega)|rfl) (.cons (by first|exact aS rfl (by omega)|rfl) (.cons (by first|exact aS rfl (by omega)|rfl) (.cons (by first|exact aS rfl (by omega)|rfl) .nil)))
  rintro _ _ ⟨rfl,rfl,hcl9⟩
  refine s_23 (At.seq fun _ s_26=>At.seq fun _ s_27=>At.region (aE (aD rfl) rfl rfl (aA (aB (s_27 (At.block ?_))))))
  have so:=ro.rsl
  have hso:=so.cap63
  have hsp:=r32.cap63
  have hbg2:=hbg.bags
  refine At.loop (fun fr_ hp_ ms_=> ∃(i:Nat),fr_= [(5,.slice a32 fs.length c32),(6,.slice a m c),(15,.int .i64 (i:Int))]∧hp_= [No,Nb,N32,P,N1,R]∧m- i=ms_∧(i≤fs.length∧i≤m)∧(fs.take i=ls.take i)) ?_ (.refl _) ⟨0,rfl,rfl,rfl,⟨Nat.zero_le _,Nat.zero_le _⟩,rfl⟩ ?_
  ·exact .cons (by first|exact aS rfl (by omega)|rfl) (.cons (by first|exact aS rfl (by omega)|rfl) (.cons (by first|exact aS rfl (by omega)|rfl) .nil))
  rintro _ _ _ ⟨i,rfl,rfl,rfl,hi2,hpre⟩
  refine At.seq fun _ s_28=>At.seq fun _ s_29=>At.region (aC (aD rfl) rfl rfl (aC (aD rfl) rfl rfl (aR (aD rfl) se22 rfl rfl (op_lss (aD rfl) rfl rfl rfl (aC (aD rfl) rfl rfl (At.partP (d:=175) rfl (fun g175=>?_) (fun g175=>?_)))))))
  rotate_left
  ·have hci:=clash_i hcl9 hpre;exfalso;omega
  refine aC (bA rfl rfl rfl rfl) rfl rfl (aC (bA rfl rfl rfl rfl) rfl rfl (aR (bA rfl rfl rfl rfl) se22 rfl rfl (op_lss (bA rfl rfl rfl rfl) rfl rfl rfl (bQ (aD rfl) rfl rfl rfl (aA (aB (s_29 (aL rfl (fun c180=>?_) (fun c180=>?_)))))))))
  rotate_left
  ·have hci:=clash_i hcl9 hpre;exfalso;omega
  obtain⟨x,hx⟩: ∃b,fs[i]? =some b:=⟨_,List.getElem?_eq_getElem (by omega)⟩
  obtain⟨y,hy⟩: ∃b,ls[i]? =some b:=⟨_,List.getElem?_eq_getElem (by omega)⟩
  obtain⟨xa,xc,hux,hxr⟩:=hB32.rsl i x hx
  obtain⟨ya,yc,huy,hyr⟩:=hbg2.rsl i y hy
  have hci:=clash_i hcl9 hpre
  have hos:=so.isSome (by omega)
  have hps2:=r32.isSome (by omega)
  have hx2:=hps x (List.mem_of_getElem? hx)
  have hy2:=hl7 y (List.mem_of_getElem? hy)
  refine At.skip (aB (s_28 (At.seq fun _ s_30=>At.block (At.seq fun _ s_31=>At.drawn [] [0,1,2,3,4,5,6,7,8,9,10] (by kernel_rfl) (by kernel_rfl) (aC (aK rfl rfl rfl (by kernel_rfl)) rfl rfl (aC (aK rfl rfl rfl (by kernel_rfl)) rfl rfl (bI (aK rfl rfl rfl (by kernel_rfl)) se22 rfl rfl r32 (show _=(((i:Nat)):Int)from by omega) (by omega) rfl ?_)))))))
  refine aT (aK rfl rfl rfl (by kernel_rfl)) sc23 rfl r32 (by first|exact get8 (by omega)|exact get64 (by omega)|exact get32 (by omega)|exact hux) (by first|exact aO|exact aY|exact aZ|exact bK|exact bG|exact bJ|exact bP|exact bO|exact bM|exact bN) rfl ?_
  refine op_str (aK rfl rfl rfl (by kernel_rfl)) Tryz.underlying23 Tryz.underlying5 Tryz.underlying9 rfl (by assumption) (by first|exact aO|exact aY|exact aZ|exact bK|exact bG|exact bJ|exact bP|exact bO|exact bM|exact bN) rfl ?_
  refine aC (aK rfl rfl rfl (by kernel_rfl)) rfl rfl (aC (aK rfl rfl rfl (by kernel_rfl)) rfl rfl (bI (aK rfl rfl rfl (by kernel_rfl)) se22 rfl rfl so (show _=(((i:Nat)):Int)from by omega) (by omega) rfl ?_))
  refine aT (aK rfl rfl rfl (by kernel_rfl)) sc23 rfl so (by first|exact get8 (by omega)|exact get64 (by omega)|exact get32 (by omega)|exact huy) (by first|exact aO|exact aY|exact aZ|exact bK|exact bG|exact bJ|exact bP|exact bO|exact bM|exact bN) rfl ?_
  refine op_str (aK rfl rfl rfl (by kernel_rfl)) Tryz.underlying23 Tryz.underlying5 Tryz.underlying9 rfl (by assumption) (by first|exact aO|exact aY|exact aZ|exact bK|exact bG|exact bJ|exact bP|exact bO|exact bM|exact bN) rfl ?_
  refine op_neS (aK rfl rfl rfl (by kernel_rfl)) rfl rfl rfl (At.oneNil (aB (s_31 (aL rfl (fun c193=>?_) (fun c193=>?_)))))
  ·obtain⟨z,hz⟩: ∃z,kec x=z:=⟨_,rfl⟩
   have hz2:kec y=z:=(hci.2.2 x y hx hy c193).symm.trans hz
   have hzl:z.length=32:=by rw [←hz,kec_len]
   refine At.seq fun _ s_32=>At.drawn [9] [0,1,2,3,5,6,7,8,4,9,10,11] (by kernel_rfl) (by kernel_rfl) (aC (aK rfl rfl rfl (by kernel_rfl)) rfl rfl (aC (aK rfl rfl rfl (by kernel_rfl)) rfl rfl (bI (aK rfl rfl rfl (by kernel_rfl)) se22 rfl rfl r32 (show _=(((i:Nat)):Int)from by omega) (by omega) rfl ?_)))
   refine aT (aK rfl rfl rfl (by kernel_rfl)) sc23 rfl r32 (by first|exact get8 (by omega)|exact get64 (by omega)|exact get32 (by omega)|exact hux) (by first|exact aO|exact aY|exact aZ|exact bK|exact bG|exact bJ|exact bP|exact bO|exact bM|exact bN) rfl ?_
   refine aC (aK rfl rfl rfl (by kernel_rfl)) rfl rfl (aC (aK rfl rfl rfl (by kernel_rfl)) rfl rfl (bI (aK rfl rfl rfl (by kernel_rfl)) se22 rfl rfl so (show _=(((i:Nat)):Int)from by omega) (by omega) rfl ?_))
   refine aT (aK rfl rfl rfl (by kernel_rfl)) sc23 rfl so (by first|exact get8 (by omega)|exact get64 (by omega)|exact get32 (by omega)|exact huy) (by first|exact aO|exact aY|exact aZ|exact bK|exact bG|exact bJ|exact bP|exact bO|exact bM|exact bN) rfl ?_
   refine aI (nxoa rfl rfl rfl) (.cons rfl .nil) (rKeccak_f hxr (by omega)) Tryz.func21 rfl rfl (by simp) rfl ?_
   rintro v198 L198 ⟨rfl,rfl⟩
   change At _ _ _ [No,Nb,N32,P,N1,R] _
   rw [hz]
   refine aI (nxosa rfl rfl rfl rfl) (.cons rfl .nil) (rKeccak_f hyr (by omega)) Tryz.func21 rfl rfl (by simp) rfl ?_
   rintro v203 L203 ⟨rfl,rfl⟩
   change At _ _ _ [No,Nb,N32,P,N1,R] _
   rw [hz2]
   refine op_eqW8 (a:=z) (b:=z) (aK rfl rfl rfl (by exact okB_eq8 rfl rfl (by kernel_rfl))) ae25 Tryz.underlying5 (by kernel_rfl) rfl rfl hzl hzl rfl ?_
   refine aE (aK rfl rfl rfl (by kernel_rfl)) rfl rfl (At.oneNil (aB (s_32 (At.ret (At.inRet (aM (aM (At.inRet (aM ((At.sub (L':= [R]) (.cons _ (.cons _ (.cons _ (.cons _ (.cons _ (.cons_cons _ (.slnil))))))) (aW (L1:= []) rfl (.tmp rfl .nil) (.refl _) (.refl _) ?_))))))))))))
   exact⟨by simp,rfl⟩
  refine At.skip (aP (aB (s_30 (At.region (aC (aD rfl) rfl rfl (aV (aD rfl) rfl rfl (by omega) (by omega) rfl (aE (aD rfl) rfl rfl (aA (aB (bD ?_ (.refl _) ⟨i+1,rfl,rfl,rfl,⟨by omega,by omega⟩,by rw [take_next1 hx,take_next1 hy,hpre,Classical.not_not.1 c193]⟩ ?_))))))))))
  ·exact .cons (by first|exact aS rfl (by omega)|rfl) (.cons (by first|exact aS rfl (by omega)|rfl) (.cons (by first|exact aS rfl (by omega)|rfl) .nil))
  ·omega
 change At _ _ _ [N146,M146,N144,No,Nb,N32,P,N1,R] _
 refine At.anyS (.refl _) (aC (aU rfl rfl rfl) rfl rfl (aN (aU rfl rfl rfl) rfl rfl rfl (aN (aU rfl rfl rfl) rfl rfl rfl (aN (aU rfl rfl rfl) rfl rfl rfl (aE (aU rfl rfl rfl) rfl rfl (aE (aU rfl rfl rfl) rfl rfl (aE (aU rfl rfl rfl) rfl rfl (At.sNil (aB (s_19 (At.seq fun _ s_33=>At.seq fun _ s_34=>At.region (aC (aD rfl) rfl rfl (op_neq (aD rfl) rfl rfl rfl (aA (aB (s_34 (aL rfl (fun c152=>?_) (fun c152=>?_))))))))))))))))))
 rotate_left
 ·exfalso;omega
 refine At.seq fun _ s_35=>At.region (aE (aD rfl) rfl rfl (aA (aB (s_35 (At.ret (aM ((At.sub (L':= [R]) (.cons _ (.cons _ (.cons _ (.cons _ (.cons _ (.cons _ (.cons _ (.cons _ (.cons_cons _ (.slnil)))))))))) (aW (L1:= []) rfl (.tmp rfl .nil) (.refl _) (.refl _) ?_)))))))))
 exact⟨by simp,rfl⟩
end
end Go.Proofs.YtdpjbefeabokgaaGreat
