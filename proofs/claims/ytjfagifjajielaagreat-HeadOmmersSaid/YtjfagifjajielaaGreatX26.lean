/- Several texts in one: see the remarks ahead of each part. No condition but those told there. -/
import Derived.Test.YtjfagifjajielaaGreatX1
import Derived.Test.YtjfagifjajielaaGreatX25
import Derived.Test.YtjfagifjajielaaGreatX24
set_option linter.unusedSimpArgs false
set_option linter.unusedVariables false
namespace Go.Proofs.YtjfagifjajielaaGreat
open Go Go.RowKit
set_option maxRecDepth 100000
theorem below_succ {P:Nat→Prop} {i:Nat} (h: ∀j,j<i→P j) (hi:P i): ∀j,j<i+1→P j:=by
 intro j hj
 rcases Nat.lt_or_ge j i with h1|h1
 ·exact h j h1
 ·obtain rfl:j=i:=by omega
  exact hi
theorem srt_two {ti:List UInt64} (ht:ti.length=2):Srt ti↔(ti.getD 0 0).toNat≤(ti.getD 1 0).toNat:=by
 constructor
 ·intro h;exact h 1 (by omega) (by omega)
 ·intro h i h0 hi
  obtain rfl:i=1:=by omega
  exact h
theorem nodup_of {fr:List (List UInt8)} (h: ∀(i k:Nat) (a b:List UInt8),k<i→fr[i]? =some a→fr[k]? =some b→a≠b):fr.Nodup:=by
 unfold List.Nodup
 rw [List.pairwise_iff_getElem]
 intro k i hk hi hki e
 exact h i k fr[i] fr[k] hki (List.getElem?_eq_getElem hi) (List.getElem?_eq_getElem hk) e.symm
theorem nodup_at {fr:List (List UInt8)} (h:fr.Nodup) {i k:Nat} {a b:List UInt8} (hki:k<i) (hi:fr[i]? =some a) (hk:fr[k]? =some b):a≠b:=by
 unfold List.Nodup at h
 rw [List.pairwise_iff_getElem]at h
 obtain⟨h1,rfl⟩:=List.getElem?_eq_some_iff.1 hi
 obtain⟨h2,rfl⟩:=List.getElem?_eq_some_iff.1 hk
 exact(h k i h2 h1 hki).symm
section
variable {N : Heaplet} {ch dao : UInt64} {bl ti : List UInt64} {ao : Option Addr} {n cap : Nat} {tw : List UInt8} {fr : List (List UInt8)}
set_option maxRecDepth 100000 in
set_option maxHeartbeats 2000000 in
theorem rCheck_f (hb:bl.length=14) (ht:ti.length=2) (ho:tw.length=20) (hA:RSl N 20 ao n cap (fr.flatMap u8s)) (hfn:fr.length=n) (h20: ∀a∈fr,a.length=20):Fn Tryz.prog 125 #[.agg (cfg ch dao bl ti ao n cap tw).toArray] [] [N] (fun v L=>v=.int .i64 (chk (GoodC bl ti fr))∧L= []):=by
 have hcap:=hA.cap63
 have h2:=srt_two ht
 refine Fn.enter (vs:= [.agg (cfg ch dao bl ti ao n cap tw).toArray]) Tryz.func125 U U U ?_
 intro E R hR
 have hA:=hA.le (hR N (by simp))
 change At _ _ E [R] _
 refine aC fun _ s_1=>aA (op_box aZ U U U (fun N1 b1 B1=>?_))
 change Blk N1 b1 _ (cfg ch dao bl ti ao n cap tw)at B1
 refine aG U U (aB (s_1 (aC fun _ s_2=>aC fun _ s_3=>aA (aI aD fl75_1 U U (cI aD ae71 U U (show _=(((0:Nat)):Int)from by omega) (by omega) U ?_)))))
 refine aV aD sc24 U B1 (cfg_blk (i:=0) hb (by omega)) bZ U (op_neq aD U U U (aF U U (cJ (d:=10) U (fun g10=>?_) (fun g10=>?_))))
 ·refine aU U U U U U U U (aU U U U U U U U (aU U U U U U U U (aU U U U U U U U (aU U U U U U U U (aU U U U U U U U (aU U U U U U U U (bO aD U U U (aB (s_3 (At.condT U (aC fun _ s_4=>aA (aG U U (aB (s_4 (aR (aJ ((bP (aW (L1:= []) U (.tmp U .nil) (.refl _) aM (⟨?_,rfl⟩))))))))))))))))))))
  first
   |(rw [chk_f fun h=>nodup_at h.2.2.2 (show q<p by omega) ha hb2 c55];done)
   |(rw [chk_f fun h=>by have:=h.2.1 i (by omega) (by omega);omega];done)
   |(rw [chk_f fun h=>by have h5:=h2.1 h.2.2.1;have h6:=h.1;omega];done)
   |(rw [chk_t ⟨by omega,hsb,h2.2 (by omega),nodup_of fun i k a b hki e1 e2=>hd i k a b hki (by have:=(List.getElem?_eq_some_iff.1 e1).1;omega) e1 e2⟩];done)
 refine aI (cL U U U U) fl75_2 U U (cI (cL U U U U) ae72 U U (show _=(((0:Nat)):Int)from by omega) (by omega) U ?_)
 refine aV (cL U U U U) sc24 U B1 (cfg_time (i:=0) hb ht (by omega)) bZ U (aI (cL U U U U) fl75_2 U U (cI (cL U U U U) ae72 U U (show _=(((1:Nat)):Int)from by omega) (by omega) U ?_))
 refine aV (cL U U U U) sc24 U B1 (cfg_time (i:=1) hb ht (by omega)) bZ U (op_gtr (cL U U U U) U U U (cB aD U U U (aB (s_3 (aO U (fun c18=>?_) (fun c18=>?_))))))
 ·refine aC fun _ s_5=>aA (aG U U (aB (s_5 (aR (aJ ((bP (aW (L1:= []) U (.tmp U .nil) (.refl _) aM (⟨?_,rfl⟩)))))))))
  first
   |(rw [chk_f fun h=>nodup_at h.2.2.2 (show q<p by omega) ha hb2 c55];done)
   |(rw [chk_f fun h=>by have:=h.2.1 i (by omega) (by omega);omega];done)
   |(rw [chk_f fun h=>by have h5:=h2.1 h.2.2.1;have h6:=h.1;omega];done)
   |(rw [chk_t ⟨by omega,hsb,h2.2 (by omega),nodup_of fun i k a b hki e1 e2=>hd i k a b hki (by have:=(List.getElem?_eq_some_iff.1 e1).1;omega) e1 e2⟩];done)
 refine aQ (aE (s_2 (aC fun _ s_6=>aC fun _ s_7=>aA (aG U U (aB (s_7 (aT (cF (fun fr_ hp_ ms_=> ∃(i:Nat),fr_= [(1,.pointer (some ⟨b1,0,none⟩)),(3,.int .i64 (i:Int))]∧hp_= [N1,R]∧14- i=ms_∧(1≤i)∧(i≤14)∧(∀j,0<j→j<i→(bl.getD (j- 1) 0).toNat≤(bl.getD j 0).toNat)) ?_ aM ⟨1,rfl,rfl,rfl,by omega,by omega,fun j h0 h1=>by omega⟩ ?_))))))))
 ·repeat first|apply bD|exact .nil|exact lkI rfl (by omega)|rfl
 rintro _ _ _ ⟨i,rfl,rfl,rfl,h1,hi,hs⟩
 refine aC fun _ s_8=>aC fun _ s_9=>aA (aF U U (op_lss aD U U U (aB (s_9 (aO U (fun c20=>?_) (fun c20=>?_))))))
 ·refine aQ (aE (s_8 (aC fun _ s_10=>aT (aC fun _ s_11=>At.drawnS [N1,R] [] [] [0,1,2,3,4,5,6,7,8,9] (by kernel_rfl) (by kernel_rfl) (.refl _) (aL (bF U U U) U U (op_subI (bF U U U) U U (by omega) (by omega) U (aI (bF U U U) fl75_1 U U (cI (bF U U U) ae71 U U (show _=(((i- 1:Nat)):Int)from by omega) (by omega) U ?_))))))))
  refine aV (bF U U U) sc24 U B1 (cfg_blk (i:=i- 1) hb (by omega)) bZ U (aL (bF U U U) U U (aI (bF U U U) fl75_1 U U (cI (bF U U U) ae71 U U (show _=(((i:Nat)):Int)from by omega) (by omega) U ?_)))
  refine aV (bF U U U) sc24 U B1 (cfg_blk (i:=i) hb (by omega)) bZ U (op_gtr (bF U U U) U U U (At.sNil (aE (s_11 (aO U (fun c32=>?_) (fun c32=>?_))))))
  ·refine aC fun _ s_12=>aA (aG U U (aB (s_12 (aR (b9 (aJ (aJ (b9 (aJ ((bP (aW (L1:= []) U (.tmp U .nil) (.refl _) aM (⟨?_,rfl⟩)))))))))))))
   first
    |(rw [chk_f fun h=>nodup_at h.2.2.2 (show q<p by omega) ha hb2 c55];done)
    |(rw [chk_f fun h=>by have:=h.2.1 i (by omega) (by omega);omega];done)
    |(rw [chk_f fun h=>by have h5:=h2.1 h.2.2.1;have h6:=h.1;omega];done)
    |(rw [chk_t ⟨by omega,hsb,h2.2 (by omega),nodup_of fun i k a b hki e1 e2=>hd i k a b hki (by have:=(List.getElem?_eq_some_iff.1 e1).1;omega) e1 e2⟩];done)
  refine aQ (a0 (aE (s_10 (aA (aF U U (a6 aD U U (by omega) (by omega) U (aG U U (aB (bQ ?_ aM ⟨i+1,rfl,rfl,rfl,by omega,by omega,fun j h0 hj=>below_succ (P:=fun j=>0<j→(bl.getD (j- 1) 0).toNat≤(bl.getD j 0).toNat) (fun j hj h0=>hs j h0 hj) (fun _=>by omega) j hj h0⟩ ?_)))))))))
  ·repeat first|apply bD|exact .nil|exact lkI rfl (by omega)|rfl
  ·omega
 refine bW (aK (aK (bH (aE (s_6 (aC fun _ s_13=>aC fun _ s_14=>aA (aG U U (aB (s_14 (aT ?_))))))))))
 have hsb:Srt bl:=fun j h0 hj=>hs j h0 (by omega)
 refine cF (fun fr_ hp_ ms_=> ∃(p:Nat),fr_= [(1,.pointer (some ⟨b1,0,none⟩)),(4,.int .i64 (p:Int))]∧hp_= [N1,R]∧n- p=ms_∧(p≤n)∧(∀(i k:Nat) (a b:List UInt8),k<i→i<p→fr[i]? =some a→fr[k]? =some b→a≠b)) ?_ aM ⟨0,rfl,rfl,rfl,by omega,fun i k a b h1 h2=>by omega⟩ ?_
 ·repeat first|apply bD|exact .nil|exact lkI rfl (by omega)|rfl
 rintro _ _ _ ⟨p,rfl,rfl,rfl,hp,hd⟩
 refine aC fun _ s_15=>aC fun _ s_16=>aA (aF U U (aI aD fl75_4 U U (aV aD sc73 U B1 (by first|rfl|first|exact cfg_from hb ht|exact cfg_blk hb (by omega)|exact cfg_time hb ht (by omega)) bZ U ?_)))
 refine bG aD se73 U U (op_lss aD U U U (aB (s_16 (aO U (fun c37=>?_) (fun c37=>?_)))))
 ·obtain⟨a,ha⟩:=get_lt' (xs:=fr) (i:=p) (by omega)
  have hal:=h20 a (mem_of_get ha)
  have hul:(u8s a).length=20:=by rw [cK,hal]
  refine aQ (aE (s_15 (aC fun _ s_17=>aT (aC fun _ s_18=>aA (aG U U (aB (s_18 (aT (cF (fun fr_ hp_ ms_=> ∃(q:Nat),fr_= [(1,.pointer (some ⟨b1,0,none⟩)),(4,.int .i64 (p:Int)),(5,.int .i64 (q:Int))]∧hp_= [N1,R]∧p- q=ms_∧(q≤p)∧(∀(k:Nat) (b:List UInt8),k<q→fr[k]? =some b→a≠b)) ?_ aM ⟨0,rfl,rfl,rfl,by omega,fun k b h=>by omega⟩ ?_)))))))))
  ·repeat first|apply bD|exact .nil|exact lkI rfl (by omega)|rfl
  rintro _ _ _ ⟨q,rfl,rfl,rfl,hqp,hq⟩
  refine aC fun _ s_19=>aC fun _ s_20=>aA (aF U U (aF U U (op_lss aD U U U (aB (s_20 (aO U (fun c42=>?_) (fun c42=>?_)))))))
  ·obtain⟨b,hb2⟩:=get_lt' (xs:=fr) (i:=q) (by omega)
   have hbl2:=h20 b (mem_of_get hb2)
   have hub:(u8s b).length=20:=by rw [cK,hbl2]
   refine aQ (aE (s_19 (aC fun _ s_21=>aT (aC fun _ s_22=>At.drawnS [N1,R] [] [] [0,1,2,3,4,5,6,7,8,9,10] (by kernel_rfl) (by kernel_rfl) (.refl _) (aI (bF U U U) fl75_4 U U (aV (bF U U U) sc73 U B1 (by first|rfl|first|exact cfg_from hb ht|exact cfg_blk hb (by omega)|exact cfg_time hb ht (by omega)) bZ U ?_))))))
   refine aL (bF U U U) U U (op_idxE (bF U U U) se73 U U hA (show _=(((p:Nat)):Int)from by omega) (by omega) U ?_)
   refine op_loadAggE (ds:=u8s a) (bF U U U) ag28 U hA (addr_at h20 ha) hul (by omega) mem1 U (aI (bF U U U) fl75_4 U U (aV (bF U U U) sc73 U B1 (by first|rfl|first|exact cfg_from hb ht|exact cfg_blk hb (by omega)|exact cfg_time hb ht (by omega)) bZ U ?_))
   refine aL (bF U U U) U U (op_idxE (bF U U U) se73 U U hA (show _=(((q:Nat)):Int)from by omega) (by omega) U ?_)
   refine op_loadAggE (ds:=u8s b) (bF U U U) ag28 U hA (addr_at h20 hb2) hub (by omega) mem1 U (op_eqW8 (a:=a) (b:=b) (bF U U U) ae28 Tryz.underlying5 (by kernel_rfl) U U hal hbl2 U (At.sNil (aE (s_22 (aO U (fun c55=>?_) (fun c55=>?_))))))
   ·refine aC fun _ s_23=>aA (aG U U (aB (s_23 (aR (b9 (aJ (aJ (b9 (b9 (aJ (aJ (b9 (aJ ((bP (aW (L1:= []) U (.tmp U .nil) (.refl _) aM (⟨?_,rfl⟩)))))))))))))))))
    first
     |(rw [chk_f fun h=>nodup_at h.2.2.2 (show q<p by omega) ha hb2 c55];done)
     |(rw [chk_f fun h=>by have:=h.2.1 i (by omega) (by omega);omega];done)
     |(rw [chk_f fun h=>by have h5:=h2.1 h.2.2.1;have h6:=h.1;omega];done)
     |(rw [chk_t ⟨by omega,hsb,h2.2 (by omega),nodup_of fun i k a b hki e1 e2=>hd i k a b hki (by have:=(List.getElem?_eq_some_iff.1 e1).1;omega) e1 e2⟩];done)
   refine aQ (a0 (aE (s_21 (aA (aF U U (a6 aD U U (by omega) (by omega) U (aG U U (aB ?_))))))))
   refine bQ ?_ aM ⟨q+1,rfl,rfl,rfl,by omega,fun k b' hk=>below_succ (P:=fun k=> ∀b:List UInt8,fr[k]? =some b→a≠b) (fun k hk b e=>hq k b hk e) (fun b3 e=>by rw [hb2]at e;cases e;exact c55) k hk b'⟩ ?_
   ·repeat first|apply bD|exact .nil|exact lkI rfl (by omega)|rfl
   ·omega
  refine bW (aK (aK (bH (a0 (aE (s_17 (aA (aF U U (a6 aD U U (by omega) (by omega) U (aG U U (aB ?_)))))))))))
  refine bQ ?_ aM ⟨p+1,rfl,rfl,rfl,by omega,fun i k a' b' hki hi=>below_succ (P:=fun i=> ∀(k:Nat) (a b:List UInt8),k<i→fr[i]? =some a→fr[k]? =some b→a≠b) (fun i hi k a b h e1 e2=>hd i k a b h hi e1 e2) (fun k a2 b2 hk e1 e2=>by rw [ha]at e1;cases e1;exact hq k b2 (by omega) e2) i hi k a' b' hki⟩ ?_
  ·repeat first|apply bD|exact .nil|exact lkI rfl (by omega)|rfl
  ·omega
 refine bW (aK (aK (bH (aE (s_13 (aC fun _ s_24=>aA (aG U U (aB (s_24 (aR ((bP (aW (L1:= []) U (.tmp U .nil) (.refl _) aM (⟨?_,rfl⟩))))))))))))))
 first
  |(rw [chk_f fun h=>nodup_at h.2.2.2 (show q<p by omega) ha hb2 c55];done)
  |(rw [chk_f fun h=>by have:=h.2.1 i (by omega) (by omega);omega];done)
  |(rw [chk_f fun h=>by have h5:=h2.1 h.2.2.1;have h6:=h.1;omega];done)
  |(rw [chk_t ⟨by omega,hsb,h2.2 (by omega),nodup_of fun i k a b hki e1 e2=>hd i k a b hki (by have:=(List.getElem?_eq_some_iff.1 e1).1;omega) e1 e2⟩];done)
end
def comeB (x now:UInt64):Bool:=decide (x.toNat≤now.toNat∧x.toNat≠18446744073709551615)
theorem FComes_f (x now:UInt64):Fn Tryz.prog 119 #[.int .u64 (x.toNat:Int),.int .u64 (now.toNat:Int)] [] [] (fun v L=>v=.bool (comeB x now)∧L= []):=by
 refine Fn.enter (vs:= [.int .u64 (x.toNat:Int),.int .u64 (now.toNat:Int)]) Tryz.func119 U U U ?_
 intro E R hR
 change At _ _ E [R] _
 refine aC fun _ s_1=>aA (aG U U (aB (s_1 (aC fun _ s_2=>aA (aF U U (aF U U (op_leq aD U U U (aF U U (cJ (d:=8) U (fun g8=>?_) (fun g8=>?_))))))))))
 ·refine aL (cL U U U U) U U (op_neq (cL U U U U) U U U (bO aD U U U (aG U U (aB (s_2 (aR ((aW (L1:= []) U (.tmp U .nil) (.refl _) aM (⟨?_,rfl⟩)))))))))
  unfold comeB
  first
   |(congr 1;exact decide_eq_decide.2 ⟨fun h=>⟨by omega,by omega⟩,fun h=>by omega⟩)
   |(rw [decide_eq_false (fun h=>by omega)];done)
 refine aU U U U U U U U (aU U U U U U U U (cB aD U U U (aG U U (aB (s_2 (aR ((aW (L1:= []) U (.tmp U .nil) (.refl _) aM (⟨?_,rfl⟩)))))))))
 unfold comeB
 first
  |(congr 1;exact decide_eq_decide.2 ⟨fun h=>⟨by omega,by omega⟩,fun h=>by omega⟩)
  |(rw [decide_eq_false (fun h=>by omega)];done)
theorem rCome_f (x now:UInt64):Fn Tryz.prog 126 #[.int .u64 (x.toNat:Int),.int .u64 (now.toNat:Int)] [] [] (fun v L=>v=.bool (comeB x now)∧L= []):=by
 refine Fn.enter (vs:= [.int .u64 (x.toNat:Int),.int .u64 (now.toNat:Int)]) Tryz.func126 U U U ?_
 intro E R hR
 change At _ _ E [R] _
 refine aC fun _ s_1=>aA (aG U U (aB (s_1 (aC fun _ s_2=>aA (aF U U (op_neq aD U U U (aF U U (cJ (d:=7) U (fun g7=>?_) (fun g7=>?_)))))))))
 ·refine aL (cL U U U U) U U (aL (cL U U U U) U U (op_leq (cL U U U U) U U U (bO aD U U U (aG U U (aB (s_2 (aR ((aW (L1:= []) U (.tmp U .nil) (.refl _) aM (⟨?_,rfl⟩))))))))))
  unfold comeB
  first
   |(congr 1;exact decide_eq_decide.2 ⟨fun h=>⟨by omega,by omega⟩,fun h=>by omega⟩)
   |(rw [decide_eq_false (fun h=>by omega)];done)
 refine aU U U U U U U U (aU U U U U U U U (aU U U U U U U U (cB aD U U U (aG U U (aB (s_2 (aR ((aW (L1:= []) U (.tmp U .nil) (.refl _) aM (⟨?_,rfl⟩))))))))))
 unfold comeB
 first
  |(congr 1;exact decide_eq_decide.2 ⟨fun h=>⟨by omega,by omega⟩,fun h=>by omega⟩)
  |(rw [decide_eq_false (fun h=>by omega)];done)
def lastI (f:Nat→Bool):Nat→Nat
 |0=>0
 |k+1=>if f k=true then k else lastI f k
def tmI (a:Nat) (g:Nat→Bool):Nat→Nat
 |0=>a
 |i+1=>if 13≤tmI a g i∧g i=true then 14+i else tmI a g i
theorem lastI_le (f:Nat→Bool): ∀k,lastI f (k+1)≤k
 |0=>by unfold lastI;split<;>simp [lastI]
 |k+1=>by
  have:=lastI_le f k
  rw [lastI]
  split<;>omega
theorem lastI_t {f:Nat→Bool} {k:Nat} (h:f k=true):lastI f (k+1)=k:=by rw [lastI,if_pos h]
theorem lastI_f {f:Nat→Bool} {k:Nat} (h:f k=false):lastI f (k+1)=lastI f k:=by rw [lastI,if_neg (by rw [h];exact Bool.false_ne_true)]
theorem tmI_t {a:Nat} {g:Nat→Bool} {i:Nat} (h:13≤tmI a g i) (h2:g i=true):tmI a g (i+1)=14+i:=by rw [tmI,if_pos ⟨h,h2⟩]
theorem tmI_f {a:Nat} {g:Nat→Bool} {i:Nat} (h: ¬(13≤tmI a g i∧g i=true)):tmI a g (i+1)=tmI a g i:=by rw [tmI,if_neg h]
def blF (bl:List UInt64) (nu:UInt64) (i:Nat):Bool:=comeB (bl.getD i 0) nu
def atV (bl ti:List UInt64) (nu tm:UInt64):Nat:=tmI (lastI (blF bl nu) 14) (blF ti tm) 2
theorem tmI_le {a:Nat} {g:Nat→Bool} (h:a≤13):tmI a g 1≤14∧tmI a g 2≤15:=by
 have h1:tmI a g 1≤14:=by
  rw [show(1:Nat)=0+1 from rfl,tmI]
  split<;>simp [tmI]<;>omega
 refine⟨h1,?_⟩
 rw [show(2:Nat)=1+1 from rfl,tmI]
 split<;>omega
def atF (A:Nat) (b0 b1:Bool):Nat:=if 13≤(if A=13∧b0=true then 14 else A)∧b1=true then 15 else (if A=13∧b0=true then 14 else A)
theorem at_tt {A:Nat} {b0 b1:Bool} (h:(A:Int)=13) (h0:b0=true) (h1:b1=true):atF A b0 b1=15:=by
 have e:A=13:=by omega
 subst e;subst h0;subst h1;rfl
theorem at_tf {A:Nat} {b0 b1:Bool} (h:(A:Int)=13) (h0:b0=true) (h1:b1=false):atF A b0 b1=14:=by
 have e:A=13:=by omega
 subst e;subst h0;subst h1;rfl
theorem at_ft {A:Nat} {b0 b1:Bool} (h:(A:Int)=13) (h0:b0=false) (h1:b1=true):atF A b0 b1=15:=by
 have e:A=13:=by omega
 subst e;subst h0;subst h1;rfl
theorem at_ff {A:Nat} {b0 b1:Bool} (h0:b0=false) (h1:b1=false):atF A b0 b1=A:=by
 subst h0;subst h1
 simp [atF]
theorem at_no {A:Nat} {b0 b1:Bool} (h: ¬(A:Int)=13) (hA:A≤13):atF A b0 b1=A:=by
 have e: ¬A=13:=by omega
 have e2:(if A=13∧b0=true then 14 else A)=A:=if_neg (fun x=>e x.1)
 unfold atF
 rw [e2,if_neg (fun x=>by have:=x.1;omega)]
theorem atV_eq (bl ti:List UInt64) (nu tm:UInt64):atV bl ti nu tm=atF (lastI (blF bl nu) 14) (comeB (ti.getD 0 0) tm) (comeB (ti.getD 1 0) tm):=by
 have hle:=lastI_le (blF bl nu) 13
 have e:tmI (lastI (blF bl nu) 14) (blF ti tm) 1=if lastI (blF bl nu) 14=13∧comeB (ti.getD 0 0) tm=true then 14 else lastI (blF bl nu) 14:=by
  rw [show(1:Nat)=0+1 from rfl,tmI,tmI]
  by_cases h:13≤lastI (blF bl nu) 14
  ·have h':lastI (blF bl nu) 14=13:=Nat.le_antisymm hle h
   simp only [h',Nat.le_refl,true_and];rfl
  ·have h': ¬lastI (blF bl nu) 14=13:=by omega
   rw [if_neg (fun e=>h e.1),if_neg (fun e=>h' e.1)]
 rw [atV,show(2:Nat)=1+1 from rfl,tmI,e]
 rfl
open Classical in
noncomputable def atI (p:Prop) (k:Nat):Int:=if p then (k:Int)else 0
theorem atI_t {p:Prop} {k:Nat} (h:p):atI p k=k:=by rw [atI,if_pos h]
theorem atI_f {p:Prop} {k:Nat} (h: ¬p):atI p k=0:=by rw [atI,if_neg h]
theorem chk_ne {p:Prop} (h:chk p≠0): ¬p:=fun hp=>h (chk_t hp)
theorem chk_eq {p:Prop} (h: ¬chk p≠0):p:=Classical.byContradiction fun hp=>h (by rw [chk_f hp];decide)
section
variable {N : Heaplet} {ch dao : UInt64} {bl ti : List UInt64} {ao : Option Addr} {n cap : Nat} {tw : List UInt8} {fr : List (List UInt8)}
set_option maxRecDepth 100000 in
set_option maxHeartbeats 2000000 in
theorem FAt_f (hb:bl.length=14) (ht:ti.length=2) (ho:tw.length=20) (hA:RSl N 20 ao n cap (fr.flatMap u8s)) (hfn:fr.length=n) (h20: ∀a∈fr,a.length=20) (nu tm:UInt64):Fn Tryz.prog 76 #[.agg (cfg ch dao bl ti ao n cap tw).toArray,.int .u64 (nu.toNat:Int),.int .u64 (tm.toNat:Int)] [] [N] (fun v L=>v=.tuple #[.int .i64 (atI (GoodC bl ti fr) (atV bl ti nu tm)),.int .i64 (chk (GoodC bl ti fr))]∧L= []):=by
 have hl:=cfg_len (ch:=ch) (dao:=dao) (ao:=ao) (n:=n) (cap:=cap) hb ht ho
 have hub:(u64s bl).length=14:=by rw [u64s_len,hb]
 have hut:(u64s ti).length=2:=by rw [u64s_len,ht]
 have hle:=lastI_le (blF bl nu) 13
 have hle2:=tmI_le (g:=blF ti tm) hle
 refine Fn.enter (vs:= [.agg (cfg ch dao bl ti ao n cap tw).toArray,.int .u64 (nu.toNat:Int),.int .u64 (tm.toNat:Int)]) Tryz.func76 U U U ?_
 intro E R hR
 have hA:=hA.le (hR N (by simp))
 change At _ _ E [R] _
 refine aC fun _ s_1=>aA (op_box aZ U U U (fun N3 b3 B3=>?_))
 change Blk N3 b3 _ (cfg ch dao bl ti ao n cap tw)at B3
 refine aG U U (aG U U (aB (s_1 (aC fun _ s_2=>aC fun _ s_3=>aA (aY (ds:=cfg ch dao bl ti ao n cap tw) aD ag75 U B3 (cfg_all hb ht ho) hl bZ U (aH aZ (.cons U .nil) (FCheck_f hb ht ho hA hfn h20) Tryz.func118 U U (by simp) U ?_))))))
 rintro _ _ ⟨rfl,rfl⟩
 show At _ _ _ [N3,R] _
 refine op_neq aD U U U (aB (s_3 (aO U (fun c15=>?_) (fun c15=>?_))))
 ·have hnp:=chk_ne c15
  refine aC fun _ s_4=>aA (aG U U (aG U U (aB (s_4 (aR (aJ ((bP (bV (L1:= []) U (.tmp U (.tmp U .nil)) U (.refl _) aM ?_)))))))))
  exact⟨by rw [atI_f hnp,chk_f hnp],rfl⟩
 have hp:=chk_eq c15
 refine aQ (aE (s_2 (aC fun _ s_5=>aA (aG U U (aB (s_5 (aC fun _ s_6=>aC fun _ s_7=>aA (aI aD fl75_1 U U (aY (ds:=u64s bl) aD ag71 U B3 (cfg_blks hb) hub bZ U (aF U U (aB (s_7 (aT (cF (fun fr_ hp_ ms_=> ∃(k:Nat),fr_= [(2,.int .u64 (tm.toNat:Int)),(1,.int .u64 (nu.toNat:Int)),(3,.pointer (some ⟨b3,0,none⟩)),(8,.int .i64 (lastI (blF bl nu) k:Int)),(17,.agg (u64s bl).toArray),(18,.int .i64 (k:Int))]∧hp_= [N3,R]∧14- k=ms_∧(k≤14)) ?_ aM ⟨0,rfl,rfl,rfl,by omega⟩ ?_))))))))))))))
 ·repeat first|apply bD|exact .nil|exact lkI rfl (by omega)|rfl
 rintro _ _ _ ⟨k,rfl,rfl,rfl,hk⟩
 refine aC fun _ s_8=>aA (op_lss aD U U U (aB (s_8 (aC fun _ s_9=>aO U (fun c19=>?_) (fun c19=>?_)))))
 ·refine aQ (aE (s_9 (aC fun _ s_10=>aT (aC fun _ s_11=>aA (aF U U ?_)))))
  refine op_idxV aD ae71 sc24 U U (show _=(((k:Nat)):Int)from by omega) (by omega) (by rw [List.getElem?_toArray];exact get64 (bs:=bl) (by omega)) U ?_
  refine aG U U (aG U U (aB (s_11 (aC fun _ s_12=>aA (aF U U (aF U U (aH aZ (.cons U (.cons U .nil)) (FComes_f (bl.getD k 0) nu) Tryz.func119 U U (by simp) U ?_)))))))
  rintro _ _ ⟨rfl,rfl⟩
  show At _ _ _ [N3,R] _
  refine aB (s_12 (At.condB U (fun c24=>?_) (fun c24=>?_)))
  ·refine aA (aF U U (aG U U (At.opsNil (a0 (aE (s_10 (aA (a6 aD U U (by omega) (by omega) U (aF U U (aB ?_))))))))))
   have e1:=lastI_t (f:=blF bl nu) (k:=k) c24
   refine bQ ?_ aM ⟨k+1,rfl,rfl,rfl,by omega⟩ ?_
   ·repeat first|apply bD|exact .nil|exact lkI rfl (by omega)|rfl
   ·omega
  refine aQ (a0 (aE (s_10 (aA (a6 aD U U (by omega) (by omega) U (aF U U (aB ?_)))))))
  have e1:=lastI_f (f:=blF bl nu) (k:=k) c24
  refine bQ ?_ aM ⟨k+1,rfl,rfl,rfl,by omega⟩ ?_
  ·repeat first|apply bD|exact .nil|exact lkI rfl (by omega)|rfl
  ·omega
 refine bW (aK (aK (bH (aE (s_6 (aC fun _ s_13=>aC fun _ s_14=>aA ?_))))))
 have hk14:k=14:=by omega
 subst hk14
 refine aI aD fl75_2 U U (aY (ds:=u64s ti) aD ag72 U B3 (cfg_times hb ht) hut bZ U (aF U U (aB (s_14 (aT (bP (cF (fun fr_ hp_ ms_=> ∃(i:Nat),fr_= [(2,.int .u64 (tm.toNat:Int)),(8,.int .i64 (tmI (lastI (blF bl nu) 14) (blF ti tm) i:Int)),(28,.agg (u64s ti).toArray),(29,.int .i64 (i:Int))]∧hp_= [R]∧2- i=ms_∧(i≤2)) ?_ aM ⟨0,rfl,rfl,rfl,by omega⟩ ?_)))))))
 ·repeat first|apply bD|exact .nil|exact lkI rfl (by omega)|rfl
 rintro _ _ _ ⟨i,rfl,rfl,rfl,hi⟩
 refine aC fun _ s_15=>aA (op_lss aD U U U (aB (s_15 (aC fun _ s_16=>aO U (fun c30=>?_) (fun c30=>?_)))))
 ·refine aQ (aE (s_16 (aC fun _ s_17=>aT (aC fun _ s_18=>aA (aF U U ?_)))))
  refine op_idxV aD ae72 sc24 U U (show _=(((i:Nat)):Int)from by omega) (by omega) (by rw [List.getElem?_toArray];exact get64 (bs:=ti) (by omega)) U ?_
  refine aG U U (aG U U (aB (s_18 (aC fun _ s_19=>aA (aF U U (op_geq aD U U U (aF U U (cJ (d:=35) U (fun g35=>?_) (fun g35=>?_)))))))))
  ·refine aL (cL U U U U) U U (aL (cL U U U U) U U (aH (nxga U U U U) (.cons U (.cons U .nil)) (FComes_f (ti.getD i 0) tm) Tryz.func119 U U (by simp) U ?_))
   rintro _ _ ⟨rfl,rfl⟩
   show At _ _ _ [R] _
   refine bO aD U U U (aB (s_19 (At.condB U (fun c39=>?_) (fun c39=>?_))))
   ·refine aA (aF U U (a6 aD U U (by omega) (by omega) U (aG U U (At.opsNil (a0 (aE (s_17 (aA (a6 aD U U (by omega) (by omega) U (aF U U (aB ?_)))))))))))
    have e1:=tmI_t (a:=lastI (blF bl nu) 14) (g:=blF ti tm) (i:=i) (by omega) c39
    refine bQ ?_ aM ⟨i+1,rfl,rfl,rfl,by omega⟩ ?_
    ·repeat first|apply bD|exact .nil|exact lkI rfl (by omega)|rfl
    ·omega
   refine aQ (a0 (aE (s_17 (aA (a6 aD U U (by omega) (by omega) U (aF U U (aB ?_)))))))
   have e1:=tmI_f (a:=lastI (blF bl nu) 14) (g:=blF ti tm) (i:=i) (fun h=>absurd (h.2.symm.trans c39) (by decide))
   refine bQ ?_ aM ⟨i+1,rfl,rfl,rfl,by omega⟩ ?_
   ·repeat first|apply bD|exact .nil|exact lkI rfl (by omega)|rfl
   ·omega
  refine aU U U U U U U U (aU U U U U U U U (aU U U U U U U U (cB aD U U U (aB (s_19 (At.condF U (aQ (a0 (aE (s_17 (aA (a6 aD U U (by omega) (by omega) U (aF U U (aB ?_))))))))))))))
  have e1:=tmI_f (a:=lastI (blF bl nu) 14) (g:=blF ti tm) (i:=i) (fun h=>by omega)
  refine bQ ?_ aM ⟨i+1,rfl,rfl,rfl,by omega⟩ ?_
  ·repeat first|apply bD|exact .nil|exact lkI rfl (by omega)|rfl
  ·omega
 refine bW (aK (aK (bH (aE (s_13 (aC fun _ s_20=>aA (aF U U (aG U U (aG U U (aB (s_20 (aR ((bV (L1:= []) U (.tmp U (.tmp U .nil)) U (.refl _) aM ?_))))))))))))))
 have hi2:i=2:=by omega
 subst hi2
 exact⟨by rw [atI_t hp,chk_t hp];rfl,rfl⟩
set_option maxRecDepth 100000 in
set_option maxHeartbeats 2000000 in
theorem rAt_f (hb:bl.length=14) (ht:ti.length=2) (ho:tw.length=20) (hA:RSl N 20 ao n cap (fr.flatMap u8s)) (hfn:fr.length=n) (h20: ∀a∈fr,a.length=20) (nu tm:UInt64):Fn Tryz.prog 81 #[.agg (cfg ch dao bl ti ao n cap tw).toArray,.int .u64 (nu.toNat:Int),.int .u64 (tm.toNat:Int)] [] [N] (fun v L=>v=.tuple #[.int .i64 (atI (GoodC bl ti fr) (atV bl ti nu tm)),.int .i64 (chk (GoodC bl ti fr))]∧L= []):=by
 have hl:=cfg_len (ch:=ch) (dao:=dao) (ao:=ao) (n:=n) (cap:=cap) hb ht ho
 have hle:lastI (blF bl nu) 14≤13:=lastI_le (blF bl nu) 13
 have hfin:=atV_eq bl ti nu tm
 refine Fn.enter (vs:= [.agg (cfg ch dao bl ti ao n cap tw).toArray,.int .u64 (nu.toNat:Int),.int .u64 (tm.toNat:Int)]) Tryz.func81 U U U ?_
 intro E R hR
 have hA:=hA.le (hR N (by simp))
 change At _ _ E [R] _
 refine aC fun _ s_1=>aA (op_box aZ U U U (fun N3 b3 B3=>?_))
 change Blk N3 b3 _ (cfg ch dao bl ti ao n cap tw)at B3
 refine aG U U (aG U U (aB (s_1 (aC fun _ s_2=>aC fun _ s_3=>aA (aY (ds:=cfg ch dao bl ti ao n cap tw) aD ag75 U B3 (cfg_all hb ht ho) hl bZ U (aH aZ (.cons U .nil) (rCheck_f hb ht ho hA hfn h20) Tryz.func125 U U (by simp) U ?_))))))
 rintro _ _ ⟨rfl,rfl⟩
 show At _ _ _ [N3,R] _
 refine op_neq aD U U U (aB (s_3 (aO U (fun c12=>?_) (fun c12=>?_))))
 ·have hnp:=chk_ne c12
  refine aC fun _ s_4=>aA (aG U U (aG U U (aB (s_4 (aR (aJ ((bP (bV (L1:= []) U (.tmp U (.tmp U .nil)) U (.refl _) aM ?_)))))))))
  first
   |exact⟨by rw [atI_f hnp,chk_f hnp],rfl⟩
   |exact⟨by rw [atI_t hp,chk_t hp,hfin,at_tt g26 c32 c41];rfl,rfl⟩
   |exact⟨by rw [atI_t hp,chk_t hp,hfin,at_tf g26 c32 c41];rfl,rfl⟩
   |exact⟨by rw [atI_t hp,chk_t hp,hfin,at_ft g26 c32 c41];rfl,rfl⟩
   |exact⟨by rw [atI_t hp,chk_t hp,hfin,at_ff c32 c41],rfl⟩
   |(exfalso;omega)
   |exact⟨by rw [atI_t hp,chk_t hp,hfin,at_no g26 hle],rfl⟩
 have hp:=chk_eq c12
 refine aQ (aE (s_2 (aC fun _ s_5=>aA (aG U U (aB (s_5 (aC fun _ s_6=>aC fun _ s_7=>aA (aG U U (aB (s_7 (aT (cF (fun fr_ hp_ ms_=> ∃(k:Nat),fr_= [(2,.int .u64 (tm.toNat:Int)),(1,.int .u64 (nu.toNat:Int)),(3,.pointer (some ⟨b3,0,none⟩)),(8,.int .i64 (lastI (blF bl nu) k:Int)),(9,.int .i64 (k:Int))]∧hp_= [N3,R]∧14- k=ms_∧(k≤14)) ?_ aM ⟨0,rfl,rfl,rfl,by omega⟩ ?_))))))))))))
 ·repeat first|apply bD|exact .nil|exact lkI rfl (by omega)|rfl
 rintro _ _ _ ⟨k,rfl,rfl,rfl,hk⟩
 refine aC fun _ s_8=>aC fun _ s_9=>aA (aF U U (op_lss aD U U U (aB (s_9 (aO U (fun c14=>?_) (fun c14=>?_))))))
 ·refine aQ (aE (s_8 (aC fun _ s_10=>aT (aC fun _ s_11=>aA (aF U U (aI aD fl75_1 U U (cI aD ae71 U U (show _=(((k:Nat)):Int)from by omega) (by omega) U ?_)))))))
  refine aV aD sc24 U B3 (cfg_blk (i:=k) hb (by omega)) bZ U (aF U U (aH aZ (.cons U (.cons U .nil)) (rCome_f (bl.getD k 0) nu) Tryz.func126 U U (by simp) U ?_))
  rintro _ _ ⟨rfl,rfl⟩
  show At _ _ _ [N3,R] _
  refine aB (s_11 (At.condB U (fun c22=>?_) (fun c22=>?_)))
  ·refine aA (aF U U (aG U U (At.opsNil (a0 (aE (s_10 (aA (aF U U (a6 aD U U (by omega) (by omega) U (aG U U (aB ?_)))))))))))
   have e1:=lastI_t (f:=blF bl nu) (k:=k) c22
   refine bQ ?_ aM ⟨k+1,rfl,rfl,rfl,by omega⟩ ?_
   ·repeat first|apply bD|exact .nil|exact lkI rfl (by omega)|rfl
   ·omega
  refine aQ (a0 (aE (s_10 (aA (aF U U (a6 aD U U (by omega) (by omega) U (aG U U (aB ?_))))))))
  have e1:=lastI_f (f:=blF bl nu) (k:=k) c22
  refine bQ ?_ aM ⟨k+1,rfl,rfl,rfl,by omega⟩ ?_
  ·repeat first|apply bD|exact .nil|exact lkI rfl (by omega)|rfl
  ·omega
 refine bW (aK (aK (bH (aE (s_6 (aC fun _ s_12=>aC fun _ s_13=>aA ?_))))))
 have hk14:k=14:=by omega
 subst hk14
 refine aF U U (op_eql aD U U U (aF U U (cJ (d:=26) U (fun g26=>?_) (fun g26=>?_))))
 ·refine aI (cL U U U U) fl75_2 U U (cI (cL U U U U) ae72 U U (show _=(((0:Nat)):Int)from by omega) (by omega) U ?_)
  refine aV (cL U U U U) sc24 U B3 (cfg_time (i:=0) hb ht (by omega)) bZ U (aL (cL U U U U) U U (aH (nxga U U U U) (.cons U (.cons U .nil)) (rCome_f (ti.getD 0 0) tm) Tryz.func126 U U (by simp) U ?_))
  rintro _ _ ⟨rfl,rfl⟩
  show At _ _ _ [N3,R] _
  refine bO aD U U U (aB (s_13 (At.condB U (fun c32=>?_) (fun c32=>?_))))
  ·refine aA (aG U U (aB (s_12 (aC fun _ s_14=>aC fun _ s_15=>aA (aF U U (op_geq aD U U U (aF U U (cJ (d:=35) U (fun g35=>?_) (fun g35=>?_)))))))))
   ·refine aI (cL U U U U) fl75_2 U U (cI (cL U U U U) ae72 U U (show _=(((1:Nat)):Int)from by omega) (by omega) U ?_)
    refine aV (cL U U U U) sc24 U B3 (cfg_time (i:=1) hb ht (by omega)) bZ U (aL (cL U U U U) U U (aH (nxga U U U U) (.cons U (.cons U .nil)) (rCome_f (ti.getD 1 0) tm) Tryz.func126 U U (by simp) U ?_))
    rintro _ _ ⟨rfl,rfl⟩
    show At _ _ _ [N3,R] _
    refine bO aD U U U (aB (s_15 (At.condB U (fun c41=>?_) (fun c41=>?_))))
    ·refine aA (aG U U (aB (s_14 (aC fun _ s_16=>aA (aF U U (aG U U (aG U U (aB (s_16 (aR ((bP (bV (L1:= []) U (.tmp U (.tmp U .nil)) U (.refl _) aM ?_)))))))))))))
     first
      |exact⟨by rw [atI_f hnp,chk_f hnp],rfl⟩
      |exact⟨by rw [atI_t hp,chk_t hp,hfin,at_tt g26 c32 c41];rfl,rfl⟩
      |exact⟨by rw [atI_t hp,chk_t hp,hfin,at_tf g26 c32 c41];rfl,rfl⟩
      |exact⟨by rw [atI_t hp,chk_t hp,hfin,at_ft g26 c32 c41];rfl,rfl⟩
      |exact⟨by rw [atI_t hp,chk_t hp,hfin,at_ff c32 c41],rfl⟩
      |(exfalso;omega)
      |exact⟨by rw [atI_t hp,chk_t hp,hfin,at_no g26 hle],rfl⟩
    refine aQ (aE (s_14 (aC fun _ s_17=>aA (aF U U (aG U U (aG U U (aB (s_17 (aR ((bP (bV (L1:= []) U (.tmp U (.tmp U .nil)) U (.refl _) aM ?_))))))))))))
    first
     |exact⟨by rw [atI_f hnp,chk_f hnp],rfl⟩
     |exact⟨by rw [atI_t hp,chk_t hp,hfin,at_tt g26 c32 c41];rfl,rfl⟩
     |exact⟨by rw [atI_t hp,chk_t hp,hfin,at_tf g26 c32 c41];rfl,rfl⟩
     |exact⟨by rw [atI_t hp,chk_t hp,hfin,at_ft g26 c32 c41];rfl,rfl⟩
     |exact⟨by rw [atI_t hp,chk_t hp,hfin,at_ff c32 c41],rfl⟩
     |(exfalso;omega)
     |exact⟨by rw [atI_t hp,chk_t hp,hfin,at_no g26 hle],rfl⟩
   refine aU U U U U U U U (aU U U U U U U U (aU U U U U U U U (aU U U U U U U U (aU U U U U U U U (cB aD U U U (aB (s_15 (At.condF U (aQ (aE (s_14 (aC fun _ s_18=>aA (aF U U (aG U U (aG U U (aB (s_18 (aR ((bP (bV (L1:= []) U (.tmp U (.tmp U .nil)) U (.refl _) aM ?_)))))))))))))))))))))
   first
    |exact⟨by rw [atI_f hnp,chk_f hnp],rfl⟩
    |exact⟨by rw [atI_t hp,chk_t hp,hfin,at_tt g26 c32 c41];rfl,rfl⟩
    |exact⟨by rw [atI_t hp,chk_t hp,hfin,at_tf g26 c32 c41];rfl,rfl⟩
    |exact⟨by rw [atI_t hp,chk_t hp,hfin,at_ft g26 c32 c41];rfl,rfl⟩
    |exact⟨by rw [atI_t hp,chk_t hp,hfin,at_ff c32 c41],rfl⟩
    |(exfalso;omega)
    |exact⟨by rw [atI_t hp,chk_t hp,hfin,at_no g26 hle],rfl⟩
  refine aQ (aE (s_12 (aC fun _ s_19=>aC fun _ s_20=>aA (aF U U (op_geq aD U U U (aF U U (cJ (d:=35) U (fun g35=>?_) (fun g35=>?_))))))))
  ·refine aI (cL U U U U) fl75_2 U U (cI (cL U U U U) ae72 U U (show _=(((1:Nat)):Int)from by omega) (by omega) U ?_)
   refine aV (cL U U U U) sc24 U B3 (cfg_time (i:=1) hb ht (by omega)) bZ U (aL (cL U U U U) U U (aH (nxga U U U U) (.cons U (.cons U .nil)) (rCome_f (ti.getD 1 0) tm) Tryz.func126 U U (by simp) U ?_))
   rintro _ _ ⟨rfl,rfl⟩
   show At _ _ _ [N3,R] _
   refine bO aD U U U (aB (s_20 (At.condB U (fun c41=>?_) (fun c41=>?_))))
   ·refine aA (aG U U (aB (s_19 (aC fun _ s_21=>aA (aF U U (aG U U (aG U U (aB (s_21 (aR ((bP (bV (L1:= []) U (.tmp U (.tmp U .nil)) U (.refl _) aM ?_)))))))))))))
    first
     |exact⟨by rw [atI_f hnp,chk_f hnp],rfl⟩
     |exact⟨by rw [atI_t hp,chk_t hp,hfin,at_tt g26 c32 c41];rfl,rfl⟩
     |exact⟨by rw [atI_t hp,chk_t hp,hfin,at_tf g26 c32 c41];rfl,rfl⟩
     |exact⟨by rw [atI_t hp,chk_t hp,hfin,at_ft g26 c32 c41];rfl,rfl⟩
     |exact⟨by rw [atI_t hp,chk_t hp,hfin,at_ff c32 c41],rfl⟩
     |(exfalso;omega)
     |exact⟨by rw [atI_t hp,chk_t hp,hfin,at_no g26 hle],rfl⟩
   refine aQ (aE (s_19 (aC fun _ s_22=>aA (aF U U (aG U U (aG U U (aB (s_22 (aR ((bP (bV (L1:= []) U (.tmp U (.tmp U .nil)) U (.refl _) aM ?_))))))))))))
   first
    |exact⟨by rw [atI_f hnp,chk_f hnp],rfl⟩
    |exact⟨by rw [atI_t hp,chk_t hp,hfin,at_tt g26 c32 c41];rfl,rfl⟩
    |exact⟨by rw [atI_t hp,chk_t hp,hfin,at_tf g26 c32 c41];rfl,rfl⟩
    |exact⟨by rw [atI_t hp,chk_t hp,hfin,at_ft g26 c32 c41];rfl,rfl⟩
    |exact⟨by rw [atI_t hp,chk_t hp,hfin,at_ff c32 c41],rfl⟩
    |(exfalso;omega)
    |exact⟨by rw [atI_t hp,chk_t hp,hfin,at_no g26 hle],rfl⟩
  refine aU U U U U U U U (aU U U U U U U U (aU U U U U U U U (aU U U U U U U U (aU U U U U U U U (cB aD U U U (aB (s_20 (At.condF U (aQ (aE (s_19 (aC fun _ s_23=>aA (aF U U (aG U U (aG U U (aB (s_23 (aR ((bP (bV (L1:= []) U (.tmp U (.tmp U .nil)) U (.refl _) aM ?_)))))))))))))))))))))
  first
   |exact⟨by rw [atI_f hnp,chk_f hnp],rfl⟩
   |exact⟨by rw [atI_t hp,chk_t hp,hfin,at_tt g26 c32 c41];rfl,rfl⟩
   |exact⟨by rw [atI_t hp,chk_t hp,hfin,at_tf g26 c32 c41];rfl,rfl⟩
   |exact⟨by rw [atI_t hp,chk_t hp,hfin,at_ft g26 c32 c41];rfl,rfl⟩
   |exact⟨by rw [atI_t hp,chk_t hp,hfin,at_ff c32 c41],rfl⟩
   |(exfalso;omega)
   |exact⟨by rw [atI_t hp,chk_t hp,hfin,at_no g26 hle],rfl⟩
 refine aU U U U U U U U (aU U U U U U U U (aU U U U U U U U (aU U U U U U U U (aU U U U U U U U (cB aD U U U (aB (s_13 (At.condF U (aQ (aE (s_12 (aC fun _ s_24=>aC fun _ s_25=>aA (aF U U (op_geq aD U U U (aF U U (cJ (d:=35) U (fun g35=>?_) (fun g35=>?_)))))))))))))))))
 ·refine aI (cL U U U U) fl75_2 U U (cI (cL U U U U) ae72 U U (show _=(((1:Nat)):Int)from by omega) (by omega) U ?_)
  refine aV (cL U U U U) sc24 U B3 (cfg_time (i:=1) hb ht (by omega)) bZ U (aL (cL U U U U) U U (aH (nxga U U U U) (.cons U (.cons U .nil)) (rCome_f (ti.getD 1 0) tm) Tryz.func126 U U (by simp) U ?_))
  rintro _ _ ⟨rfl,rfl⟩
  show At _ _ _ [N3,R] _
  refine bO aD U U U (aB (s_25 (At.condB U (fun c41=>?_) (fun c41=>?_))))
  ·refine aA (aG U U (aB (s_24 (aC fun _ s_26=>aA (aF U U (aG U U (aG U U (aB (s_26 (aR ((bP (bV (L1:= []) U (.tmp U (.tmp U .nil)) U (.refl _) aM ?_)))))))))))))
   first
    |exact⟨by rw [atI_f hnp,chk_f hnp],rfl⟩
    |exact⟨by rw [atI_t hp,chk_t hp,hfin,at_tt g26 c32 c41];rfl,rfl⟩
    |exact⟨by rw [atI_t hp,chk_t hp,hfin,at_tf g26 c32 c41];rfl,rfl⟩
    |exact⟨by rw [atI_t hp,chk_t hp,hfin,at_ft g26 c32 c41];rfl,rfl⟩
    |exact⟨by rw [atI_t hp,chk_t hp,hfin,at_ff c32 c41],rfl⟩
    |(exfalso;omega)
    |exact⟨by rw [atI_t hp,chk_t hp,hfin,at_no g26 hle],rfl⟩
  refine aQ (aE (s_24 (aC fun _ s_27=>aA (aF U U (aG U U (aG U U (aB (s_27 (aR ((bP (bV (L1:= []) U (.tmp U (.tmp U .nil)) U (.refl _) aM ?_))))))))))))
  first
   |exact⟨by rw [atI_f hnp,chk_f hnp],rfl⟩
   |exact⟨by rw [atI_t hp,chk_t hp,hfin,at_tt g26 c32 c41];rfl,rfl⟩
   |exact⟨by rw [atI_t hp,chk_t hp,hfin,at_tf g26 c32 c41];rfl,rfl⟩
   |exact⟨by rw [atI_t hp,chk_t hp,hfin,at_ft g26 c32 c41];rfl,rfl⟩
   |exact⟨by rw [atI_t hp,chk_t hp,hfin,at_ff c32 c41],rfl⟩
   |(exfalso;omega)
   |exact⟨by rw [atI_t hp,chk_t hp,hfin,at_no g26 hle],rfl⟩
 refine aU U U U U U U U (aU U U U U U U U (aU U U U U U U U (aU U U U U U U U (aU U U U U U U U (cB aD U U U (aB (s_25 (At.condF U (aQ (aE (s_24 (aC fun _ s_28=>aA (aF U U (aG U U (aG U U (aB (s_28 (aR ((bP (bV (L1:= []) U (.tmp U (.tmp U .nil)) U (.refl _) aM ?_)))))))))))))))))))))
 first
  |exact⟨by rw [atI_f hnp,chk_f hnp],rfl⟩
  |exact⟨by rw [atI_t hp,chk_t hp,hfin,at_tt g26 c32 c41];rfl,rfl⟩
  |exact⟨by rw [atI_t hp,chk_t hp,hfin,at_tf g26 c32 c41];rfl,rfl⟩
  |exact⟨by rw [atI_t hp,chk_t hp,hfin,at_ft g26 c32 c41];rfl,rfl⟩
  |exact⟨by rw [atI_t hp,chk_t hp,hfin,at_ff c32 c41],rfl⟩
  |(exfalso;omega)
  |exact⟨by rw [atI_t hp,chk_t hp,hfin,at_no g26 hle],rfl⟩
end
theorem take_flat {fr:List (List UInt8)} (h20: ∀a∈fr,a.length=20) (k:Nat):(fr.flatMap u8s).take (k*20)=(fr.take k).flatMap u8s:=by
 induction fr generalizing k with
 |nil=>simp
 |cons a t ih=>
  have ha:(u8s a).length=20:=by rw [cK];exact h20 a (List.mem_cons_self ..)
  cases k with
  |zero=>simp
  |succ k=>
   rw [List.flatMap_cons,List.take_succ_cons,List.flatMap_cons,List.take_append,ha,List.take_of_length_le (by omega),show(k+1)*20- 20=k*20 by omega,ih (fun b hb=>h20 b (List.mem_cons_of_mem _ hb))]
theorem one_flat (fr:List (List UInt8)): ∀u∈fr.flatMap u8s,u.oneCell'=true:=by
 intro u hu
 obtain⟨a,_,h⟩:=List.mem_flatMap.1 hu
 exact one_u8s a u h
section
variable {N : Heaplet} {ch dao : UInt64} {bl ti : List UInt64} {ao : Option Addr} {n cap : Nat} {tw : List UInt8} {fr : List (List UInt8)}
set_option maxRecDepth 100000 in
set_option maxHeartbeats 2000000 in
theorem FTwin_f (hb:bl.length=14) (ht:ti.length=2) (ho:tw.length=20) (hA:RSl N 20 ao n cap (fr.flatMap u8s)) (hfn:fr.length=n) (h20: ∀a∈fr,a.length=20):Fn Tryz.prog 25 #[.agg (cfg ch dao bl ti ao n cap tw).toArray] [] [N] (fun v L=> ∃M a k c,v=.agg (cfg ch dao bl ti a k c tw).toArray∧L= [M]∧Row M 28 20 a k c ((fr.take 40).flatMap u8s)∧(fr.take 40).length=k):=by
 have hcap:=hA.cap63
 have hl: ∀(a:Option Addr) (k c:Nat),(cfg ch dao bl ti a k c tw).length=39:=fun a k c=>cfg_len hb ht ho
 obtain⟨q,hq⟩: ∃q,q=fr.take 40:=⟨_,rfl⟩
 rw [←hq]
 have hql:q.length=min 40 n:=by rw [hq,List.length_take,hfn]
 refine Fn.enter (vs:= [.agg (cfg ch dao bl ti ao n cap tw).toArray]) Tryz.func25 U U U ?_
 intro E R hR
 have hA:=hA.le (hR N (by simp))
 change At _ _ E [R] _
 refine aC fun _ s_1=>aA (op_box aZ U U U (fun N1 b1 B1=>?_))
 change Blk N1 b1 _ (cfg ch dao bl ti ao n cap tw)at B1
 refine bE aZ ze75 U (fun N2 b2 B2=>?_)
 change Blk N2 b2 _ [.int .u64 0,.int .u64 0,.int .u64 0,.int .u64 0,.int .u64 0,.int .u64 0,.int .u64 0,.int .u64 0,.int .u64 0,.int .u64 0,.int .u64 0,.int .u64 0,.int .u64 0,.int .u64 0,.int .u64 0,.int .u64 0,.int .u64 0,.int .u64 0,.slice none 0 0,.int .u8 0,.int .u8 0,.int .u8 0,.int .u8 0,.int .u8 0,.int .u8 0,.int .u8 0,.int .u8 0,.int .u8 0,.int .u8 0,.int .u8 0,.int .u8 0,.int .u8 0,.int .u8 0,.int .u8 0,.int .u8 0,.int .u8 0,.int .u8 0,.int .u8 0,.int .u8 0]at B2
 refine aB (s_1 (aC fun _ s_2=>aA (aI aD fl75_4 U U (aV aD sc73 U B1 (by first|rfl|exact cfg_from hb ht) mem1 U ?_))))
 refine aG U U (aB (s_2 (aC fun _ s_3=>aC fun _ s_4=>aA (aF U U (bG aD se73 U U (op_gtr aD U U U (aB (s_4 (aO U (fun c8=>?_) (fun c8=>?_))))))))))
 ·have sX:RSl R 20 ao 40 cap (q.flatMap u8s):=by
   have:=hA.take (hi:=40) (m:=cap) (by omega) (by omega) (by omega)
   rw [take_flat h20, ←hq]at this
   exact this
  refine aA (aF U U (op_slice0 aD se73 U (.some U (show _=(((40:Nat)):Int)from by omega)) .none (by omega) (by omega) (by simp) U ?_))
  refine aG U U (aB (s_3 (aC fun _ s_5=>aA (op_lit aZ Tryz.underlying73 ze28 sz28 .nil U U (by simp [Value.cells]) U U U (fun N11 a11 r11=>?_)))))
  simp only [flatV,List.flatMap_cons,List.flatMap_nil,Value.cells,List.append_nil,List.cons_append,List.nil_append]at r11
  have s11:=r11.rsl
  refine aF U U (op_append nxQ Tryz.underlying73 Tryz.underlying73 te28 U U r11 sX (by simp) (one_flat q) (by omega) (by omega) sel0 U (fun N13 a13 p13 r13=>?_))
  have s13:=r13.rsl
  refine aI aD fl75_4 U U ?_
  refine aX nxQ sz73 U U U U U B1 (by rw [hl];simp) sel2 (fun N1 B1=>?_)
  rw [cfg_set hb ht]at B1
  refine aB (s_5 (aC fun _ s_6=>aA (aY (ds:=cfg ch dao bl ti a13 _ p13 tw) aD ag75 U B1 (cfg_all hb ht ho) (hl _ _ _) bZ U ?_)))
  refine aX nxQ sz75 U U (cells_agg _) (hl _ _ _) cfg_one B2 (by rw [hl];simp) sel2 (fun N2 B2=>?_)
  rw [setL_all (hl _ _ _) rfl]at B2
  refine aB (s_6 (aR ((a7 (aW (L1:= [N13]) U (.cell U (res_agg (ds:=cfg ch dao bl ti a13 _ p13 tw) ag75 B2 (cfg_all hb ht ho) (hl _ _ _) bZ) .nil) (.cons _ (.refl _)) aM ?_)))))
  exact⟨N13,a13,_,p13,rfl,rfl,r13,by omega⟩
 have sX:RSl R 20 ao n cap (q.flatMap u8s):=by
  rw [hq,List.take_of_length_le (by omega)]
  exact hA
 refine aQ (aE (s_3 (aC fun _ s_7=>aA (op_lit aZ Tryz.underlying73 ze28 sz28 .nil U U (by simp [Value.cells]) U U U (fun N11 a11 r11=>?_)))))
 simp only [flatV,List.flatMap_cons,List.flatMap_nil,Value.cells,List.append_nil,List.cons_append,List.nil_append]at r11
 have s11:=r11.rsl
 refine aF U U (op_append nxQ Tryz.underlying73 Tryz.underlying73 te28 U U r11 sX (by simp) (one_flat q) (by omega) (by omega) sel0 U (fun N13 a13 p13 r13=>?_))
 have s13:=r13.rsl
 refine aI aD fl75_4 U U ?_
 refine aX nxQ sz73 U U U U U B1 (by rw [hl];simp) sel2 (fun N1 B1=>?_)
 rw [cfg_set hb ht]at B1
 refine aB (s_7 (aC fun _ s_8=>aA (aY (ds:=cfg ch dao bl ti a13 _ p13 tw) aD ag75 U B1 (cfg_all hb ht ho) (hl _ _ _) bZ U ?_)))
 refine aX nxQ sz75 U U (cells_agg _) (hl _ _ _) cfg_one B2 (by rw [hl];simp) sel2 (fun N2 B2=>?_)
 rw [setL_all (hl _ _ _) rfl]at B2
 refine aB (s_8 (aR ((a7 (aW (L1:= [N13]) U (.cell U (res_agg (ds:=cfg ch dao bl ti a13 _ p13 tw) ag75 B2 (cfg_all hb ht ho) (hl _ _ _) bZ) .nil) (.cons _ (.refl _)) aM ?_)))))
 exact⟨N13,a13,_,p13,rfl,rfl,r13,by omega⟩
end
theorem plains_map (l:List It):It.plains l=l.map It.plain:=by
 induction l with
 |nil=>rfl
 |cons t ts ih=>simp only [It.plains,List.map_cons,ih]
theorem plain_S (b:List UInt8):(itS b).plain=itS b:=by simp only [itS,It.plain]
theorem plain_L {l:List It} (h: ∀t∈l,t.plain=t):(itL l).plain=itL l:=by
 simp only [itL,It.plain,plains_map]
 congr 1
 exact(List.map_congr_left h).trans (List.map_id _)
def AcOk (m:TxM):Prop:= ∀g∈m.ac,g.addr.length=20∧ ∀k∈g.keys,k.length=32
end Go.Proofs.YtjfagifjajielaaGreat
