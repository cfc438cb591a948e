/- Layer 14: V, whether it may be a transaction, its envelope. No condition but sizes. -/
import Derived.Test.YtljacjjeinmfnaaU19
set_option linter.unusedSimpArgs false
set_option linter.unusedVariables false
namespace Go.Proofs.Ytljacjjeinmfnaa
open Go Go.RowKit
set_option maxRecDepth 100000
section
variable {m : TxM} {d a b : Value}
theorem TxM.lens (h:m.Ok):(txP m.ki m.ch m.nn m.pr m.tp m.ga m.ma m.to m.va d a m.bf b m.od m.r m.s).map List.length=txLens:=txP_lens h.to
theorem gx_ki (h:m.Ok):(m.cells d a b)[0+0]? =some (.int .i64 m.ki):=part_val (TxM.lens h) (j:=0) rfl rfl
theorem gx_ch (h:m.Ok):(m.cells d a b)[0+1]? =some (.int .u64 (m.ch:Int)):=part_val (TxM.lens h) (j:=1) rfl rfl
theorem gx_nn (h:m.Ok):(m.cells d a b)[0+2]? =some (.int .u64 (m.nn:Int)):=part_val (TxM.lens h) (j:=2) rfl rfl
theorem gx_ga (h:m.Ok):(m.cells d a b)[0+11]? =some (.int .u64 (m.ga:Int)):=part_val (TxM.lens h) (j:=5) rfl rfl
theorem gx_mk (h:m.Ok):(m.cells d a b)[0+12]? =some (.bool m.ma):=part_val (TxM.lens h) (j:=6) rfl rfl
theorem gx_d (h:m.Ok):(m.cells d a b)[0+37]? =some (d):=part_val (TxM.lens h) (j:=9) rfl rfl
theorem gx_a (h:m.Ok):(m.cells d a b)[0+38]? =some (a):=part_val (TxM.lens h) (j:=10) rfl rfl
theorem gx_b (h:m.Ok):(m.cells d a b)[0+43]? =some (b):=part_val (TxM.lens h) (j:=12) rfl rfl
theorem gx_od (h:m.Ok):(m.cells d a b)[0+44]? =some (.bool m.od):=part_val (TxM.lens h) (j:=13) rfl rfl
theorem gx_pr (h:m.Ok):((m.cells d a b).drop (0+3)).take 4=u64s (wl m.pr):=part_get (TxM.lens h) (j:=3) rfl rfl (by rw [u64s_len,length_wl])
theorem gx_tp (h:m.Ok):((m.cells d a b).drop (0+7)).take 4=u64s (wl m.tp):=part_get (TxM.lens h) (j:=4) rfl rfl (by rw [u64s_len,length_wl])
theorem gx_va (h:m.Ok):((m.cells d a b).drop (0+33)).take 4=u64s (wl m.va):=part_get (TxM.lens h) (j:=8) rfl rfl (by rw [u64s_len,length_wl])
theorem gx_bf (h:m.Ok):((m.cells d a b).drop (0+39)).take 4=u64s (wl m.bf):=part_get (TxM.lens h) (j:=11) rfl rfl (by rw [u64s_len,length_wl])
theorem gx_r (h:m.Ok):((m.cells d a b).drop (0+45)).take 4=u64s (wl m.r):=part_get (TxM.lens h) (j:=14) rfl rfl (by rw [u64s_len,length_wl])
theorem gx_s (h:m.Ok):((m.cells d a b).drop (0+49)).take 4=u64s (wl m.s):=part_get (TxM.lens h) (j:=15) rfl rfl (by rw [u64s_len,length_wl])
theorem gx_to (h:m.Ok):((m.cells d a b).drop (0+13)).take 20=u8s m.to:=part_get (TxM.lens h) (j:=7) rfl rfl (by rw [bN,h.to])
end
theorem len_w4 (x:Nat):(u64s (wl x)).length=4:=by rw [u64s_len,length_wl]
def oddN (o:Bool):Nat:=if o then 1 else 0
theorem u64_lt (u:UInt64):u.toNat<WW:=Nat.lt_trans u.toNat_lt (by decide)
theorem mul_lt (u:UInt64):UInt64.toNat 2*u.toNat<WW:=by
 have:=u.toNat_lt
 have hW:2^66≤WW:=by decide
 rw [show UInt64.toNat 2=2 from rfl];omega
/-- V. -/
def vM (m:TxM):Nat:=if 0<m.ki then oddN m.od else if m.ch=0 then 27+oddN m.od else 35+oddN m.od+2*m.ch
section
variable {m : TxM} {d a b : Value}
set_option maxHeartbeats 2000000 in
theorem FvOf (h:m.Ok) (hd:d.oneCell'=true) (ha:a.oneCell'=true) (hb:b.oneCell'=true):Fn Try.prog 60 #[.agg (m.cells d a b).toArray] [] [] (fun v L=>v=wo (vM m)∧L= []):=by
 have hln:=TxM.cells_len h d a b
 obtain⟨u,hu⟩: ∃u:UInt64,m.ch=u.toNat:=⟨UInt64.ofNat m.ch,by rw [UInt64.toNat_ofNat',Nat.mod_eq_of_lt h.ch]⟩
 have hul:=h.ch
 have hgc:(m.cells d a b)[0+1]? =some (.int .u64 (u.toNat:Int)):=by rw [←hu];exact gx_ch h
 have hol:oddN m.od≤1:=by unfold oddN;split<;>omega
 refine Fn.enter (vs:= [.agg (m.cells d a b).toArray]) Try.func60 rfl rfl rfl ?_
 intro E R hR
 change At _ _ E [R] _
 refine At.seq fun _ s_1=>At.region (op_box (aV rfl) rfl rfl rfl (fun N1 b1 B1=>aU (aV rfl) ze26 rfl (fun N2 b2 B2=>?_)))
 change Blk N2 b2 _ [.int .u64 0,.int .u64 0,.int .u64 0,.int .u64 0]at B2
 refine aA (aB (s_1 (At.seq fun _ s_2=>At.region (aE (aC rfl) rfl rfl (aA (aB (s_2 (At.seq fun _ s_3=>At.meet (fun fr_ hp_=> ∃(o:UInt64),fr_= [(1,.pointer (some ⟨b1,0,none⟩)),(2,.pointer (some ⟨b2,0,none⟩)),(3,.int .u64 (o.toNat:Int))]∧hp_= [N1,N2,R]∧(o.toNat=oddN m.od)) ?_ (fun K3_ jk_3=>?_)))))))))
 rotate_left
 ·skip
  refine At.seq fun _ s_4=>At.region (aF (aC rfl) fl58_13 rfl rfl (aH (aC rfl) sc4 rfl B1 (gx_od h) bC rfl (aA (aB (s_4 (At.condB rfl (fun c5=>?_) (fun c5=>?_)))))))
  ·refine At.knowBT (d:=5) rfl c5 (At.region (aE (aC rfl) rfl rfl (aA (At.perm aX (At.perm bZ (At.perm aX ?_))))))
   refine aB (jk_3 ?_ (.refl _) ⟨1,rfl,rfl,by rw [show m.od=true from c5];rfl⟩)
   exact .cons (by first|exact bE rfl (by omega)|rfl) (.cons (by first|exact bE rfl (by omega)|rfl) (.cons (by first|exact bE rfl (by omega)|rfl) .nil))
  refine At.knowBF (d:=5) rfl c5 (At.skip (At.perm aX (At.perm bZ (At.perm aX ?_))))
  refine aB (jk_3 ?_ (.refl _) ⟨0,rfl,rfl,by rw [show m.od=false from c5];rfl⟩)
  exact .cons (by first|exact bE rfl (by omega)|rfl) (.cons (by first|exact bE rfl (by omega)|rfl) (.cons (by first|exact bE rfl (by omega)|rfl) .nil))
 rintro _ _ ⟨o,rfl,rfl,ho⟩
 refine s_3 (At.seq fun _ s_5=>At.block (At.seq fun _ s_6=>At.region (aF (aC rfl) fl58_0 rfl rfl (aH (aC rfl) sc3 rfl B1 (gx_ki h) aN rfl (op_gtr (aC rfl) rfl rfl rfl (aE (aC rfl) rfl rfl (aA (aB (s_6 (aP rfl (fun c6=>?_) (fun c6=>?_)))))))))))
 ·refine At.knowT (d:=6) rfl c6 (At.seq fun _ s_7=>At.region (aD (aC rfl) rfl rfl (aR (aV rfl) (.cons rfl .nil) (WOf_f o) Try.func87 rfl rfl (by simp) rfl ?_)))
  rintro v11 L11 ⟨rfl,rfl⟩
  change At _ _ _ [N1,N2,R] _
  refine aG (nxl rfl) sz26 rfl rfl rfl rfl rfl B2 (by simp) bZ (fun N2 B2=>?_)
  rw [bD (by simp)]at B2
  refine aA (aB (s_7 (At.ret (At.inRet (aT ((At.sub (L':= [N2,R]) (.cons_cons _ (.cons _ (.cons_cons _ (.slnil)))) (aZ (L1:= []) rfl (.cell rfl (bH (ds:= [_,_,_,_]) ag26 B2 rfl rfl aN) .nil) (.cons _ (.refl _)) (.refl _) ?_))))))))
  exact⟨(by rw [ho,vM,if_pos (by omega)];rfl),rfl⟩
 refine At.knowF (d:=6) rfl c6 (At.seq fun _ s_8=>At.region (aF (aC rfl) fl58_1 rfl rfl (aH (aC rfl) sc24 rfl B1 (hgc) aN rfl (op_eql (aC rfl) rfl rfl rfl (aE (aC rfl) rfl rfl (aA (aB (s_8 (aP rfl (fun c12=>?_) (fun c12=>?_))))))))))
 ·refine At.knowT (d:=12) rfl c12 (At.seq fun _ s_9=>At.region (aD (aC rfl) rfl rfl (op_addU (a:=27) (aC rfl) rfl rfl rfl (aR (aV rfl) (.cons rfl .nil) (WOf_f (27+o)) Try.func87 rfl rfl (by simp) rfl ?_))))
  rintro v18 L18 ⟨rfl,rfl⟩
  change At _ _ _ [N1,N2,R] _
  refine aG (nxl rfl) sz26 rfl rfl rfl rfl rfl B2 (by simp) bZ (fun N2 B2=>?_)
  rw [bD (by simp)]at B2
  refine aA (aB (s_9 (At.ret (At.inRet (aT ((At.sub (L':= [N2,R]) (.cons_cons _ (.cons _ (.cons_cons _ (.slnil)))) (aZ (L1:= []) rfl (.cell rfl (bH (ds:= [_,_,_,_]) ag26 B2 rfl rfl aN) .nil) (.cons _ (.refl _)) (.refl _) ?_))))))))
  exact⟨(by rw [UInt64.toNat_add,ho,vM,if_neg (by omega),if_pos (by omega),show UInt64.toNat 27=27 from rfl,Nat.mod_eq_of_lt (by omega)];rfl),rfl⟩
 refine At.knowF (d:=12) rfl c12 (At.skip (bB (aB (s_5 (At.seq fun _ s_10=>At.perm aX (At.perm bZ (At.perm aX (At.drawnS [N1,R] [6,7,8,9] [] [0,1,4,5,2,3,6,7,8,9] (by kernel_rfl) (by kernel_rfl) (.cons _ (.refl _)) (aD (bK rfl rfl rfl) rfl rfl (op_addU (a:=35) (bK rfl rfl rfl) rfl rfl rfl (aF (bK rfl rfl rfl) fl58_1 rfl rfl (aH (bK rfl rfl rfl) sc24 rfl B1 (hgc) aN rfl (aR (Nx.agree (nxsm rfl rfl rfl)) (.cons rfl .nil) (WOf_f (35+o)) Try.func87 rfl rfl (by simp) rfl ?_)))))))))))))
 rintro v21 L21 ⟨rfl,rfl⟩
 change At _ _ _ [N2,N1,R] _
 refine At.moreS (Lst:= [N1,R]) (Lst':= [N1,R]) (.refl _) (.cons _ (.refl _)) (aR (Nx.agree (nxsm rfl rfl rfl)) (.cons rfl .nil) (WOf_f 2) Try.func87 rfl rfl (by simp) rfl ?_)
 rintro v22 L22 ⟨rfl,rfl⟩
 change At _ _ _ [N2,N1,R] _
 refine At.moreS (Lst:= [N1,R]) (Lst':= [N1,R]) (.refl _) (.cons _ (.refl _)) (aR (Nx.agree (nxss rfl rfl rfl rfl)) (.cons rfl .nil) (WOf_f u) Try.func87 rfl rfl (by simp) rfl ?_)
 rintro v25 L25 ⟨rfl,rfl⟩
 change At _ _ _ [N2,N1,R] _
 refine At.anyS (.refl _) (aR (Nx.agree (nxss rfl rfl rfl rfl)) (.cons rfl (.cons rfl .nil)) (WMul_f (u64_lt 2) (u64_lt u)) Try.func103 rfl rfl (by simp) rfl ?_)
 rintro v26 L26 ⟨rfl,rfl⟩
 change At _ _ _ [N2,N1,R] _
 refine At.anyS (.refl _) (aR (Nx.agree (nxss rfl rfl rfl rfl)) (.cons rfl (.cons rfl .nil)) (WAdd_f (u64_lt (35+o)) (mul_lt u)) Try.func102 rfl rfl (by simp) rfl ?_)
 rintro v27 L27 ⟨rfl,rfl⟩
 change At _ _ _ [N2,N1,R] _
 refine At.anyS (.refl _) (aG (nxsl rfl rfl rfl rfl) sz26 rfl rfl rfl rfl rfl B2 (by simp) sel0 (fun N2 B2=>?_))
 rw [bD (by simp)]at B2
 refine At.sNil (aB (s_10 (At.ret ((At.sub (L':= [N2,R]) (.cons_cons _ (.cons _ (.cons_cons _ (.slnil)))) (aZ (L1:= []) rfl (.cell rfl (bH (ds:= [_,_,_,_]) ag26 B2 rfl rfl aN) .nil) (.cons _ (.refl _)) (.refl _) ?_))))))
 exact⟨(by rw [UInt64.toNat_add,ho,vM,if_neg (by omega),if_neg (by omega),show UInt64.toNat 35=35 from rfl,show UInt64.toNat 2=2 from rfl,Nat.mod_eq_of_lt (by omega),hu];rfl),rfl⟩
theorem wl0 {x:Nat} (hx:x<WW) (h: ¬wl x≠wl 0):x=0:=by
 have h:=congrArg v64 (Decidable.not_not.1 h)
 rwa [v64_wl_lt hx,v64_wl_lt (show 0<WW by decide)]at h
/-- May it be a transaction? -/
def fitsM (m:TxM):Prop:=0≤m.ki∧m.ki≤3∧(m.ma=true→m.ki≠3∧m.to=zero20)∧(m.ki<2→m.tp=0)∧(m.ki<3→m.bf=0∧m.bb.length=0)∧(m.ki=0→m.ac.length=0)
instance (m:TxM):Decidable (fitsM m):=by unfold fitsM;infer_instance
section
variable {m : TxM}
theorem fno (h: ¬fitsM m):Value.bool false=.bool (decide (fitsM m))∧([]:List Heaplet)= []:=⟨congrArg Value.bool (decide_eq_false h).symm,rfl⟩
theorem fyes (h:m.Ok) (h1:0≤m.ki) (h2:m.ki≤3) (h3: ¬m.ma=true∨(¬m.ki=3∧ ¬m.to≠zero20)) (h4: ¬m.ki<2∨ ¬wl m.tp≠wl 0) (h5: ¬m.ki<3∨(¬wl m.bf≠wl 0∧m.bb.length=0)) (h6: ¬m.ki=0∨m.ac.length=0):Value.bool true=.bool (decide (fitsM m))∧([]:List Heaplet)= []:=
 ⟨congrArg Value.bool (decide_eq_true (show fitsM m from⟨h1,h2,fun k=>h3.elim (absurd k) fun q=>⟨q.1,Decidable.not_not.1 q.2⟩,fun k=>h4.elim (absurd k) (wl0 h.tp),fun k=>h5.elim (absurd k) fun q=>⟨wl0 h.bf q.1,q.2⟩,fun k=>h6.elim (absurd k) id⟩)).symm,rfl⟩
theorem n1 (h:m.ki<0∨3<m.ki): ¬fitsM m:=fun q=>by have:=q.1;have:=q.2.1;omega
theorem n2 (h:m.ma=true) (k:m.ki=3): ¬fitsM m:=fun q=>(q.2.2.1 h).1 k
theorem n3 (h:m.ma=true) (k:m.to≠zero20): ¬fitsM m:=fun q=>k (q.2.2.1 h).2
theorem n4 (h:m.ki<2) (k:wl m.tp≠wl 0): ¬fitsM m:=fun q=>k (congrArg wl (q.2.2.2.1 h))
theorem n5 (h:m.ki<3) (k:wl m.bf≠wl 0): ¬fitsM m:=fun q=>k (congrArg wl (q.2.2.2.2.1 h).1)
theorem n6 (h:m.ki<3) (k:0<m.bb.length): ¬fitsM m:=fun q=>by have:=(q.2.2.2.2.1 h).2;omega
theorem n7 (h:m.ki=0) (k:0<m.ac.length): ¬fitsM m:=fun q=>by have:=q.2.2.2.2.2 h;omega
end
section
variable {N : Heaplet} {da aa ba : Option Addr} {dc ac bc : Nat}
set_option maxHeartbeats 8000000 in
theorem Ffits (h:m.Ok):Fn Try.prog 56 #[.agg (m.cells (.slice da m.da.length dc) (.slice aa m.ac.length ac) (.slice ba m.bb.length bc)).toArray] [] [] (fun v L=>v=.bool (decide (fitsM m))∧L= []):=by
 have hln:=TxM.cells_len h (.slice da m.da.length dc) (.slice aa m.ac.length ac) (.slice ba m.bb.length bc)
 have hz20:zero20.length=20:=List.length_replicate ..
 refine Fn.enter (vs:= [.agg (m.cells (.slice da m.da.length dc) (.slice aa m.ac.length ac) (.slice ba m.bb.length bc)).toArray]) Try.func56 rfl rfl rfl ?_
 intro E R hR
 change At _ _ E [R] _
 refine At.seq fun _ s_1=>At.region (op_box (aV rfl) rfl rfl rfl (fun N1 b1 B1=>aE (aC rfl) rfl rfl (aA (aB (s_1 (At.seq fun _ s_2=>At.region (op_buildA (out:= [.int .u64 0,.int .u64 0,.int .u64 0,.int .u64 0]) (aC rfl) ze26 ae26 .nil rfl rfl (aU (aV rfl) ze26 rfl (fun N3 b3 B3=>?_)))))))))
 change Blk N3 b3 _ [.int .u64 0,.int .u64 0,.int .u64 0,.int .u64 0]at B3
 refine aG (nxl rfl) sz26 rfl rfl rfl rfl rfl B3 (by simp) sel0 (fun N3 B3=>?_)
 rw [bD (by simp)]at B3;change Blk N3 b3 _ (u64s (wl 0))at B3
 refine aA (aB (s_2 (At.seq fun _ s_3=>At.block (At.seq fun _ s_4=>At.meet (fun fr_ hp_=> ∃(v5:Bool),fr_= [(1,.pointer (some ⟨b1,0,none⟩)),(2,.bool false),(3,.pointer (some ⟨b3,0,none⟩)),(5,.bool v5)]∧hp_= [N1,N3,R]∧(v5=true→ ¬fitsM m)∧(v5=false→0≤m.ki∧m.ki≤3∧(¬m.ma=true∨(¬m.ki=3∧ ¬m.to≠zero20)))) ?_ (fun K4_ jk_4=>?_)))))
 rotate_left
 ·skip
  refine At.region (aF (aC rfl) fl58_0 rfl rfl (aH (aC rfl) sc3 rfl B1 (gx_ki h) bC rfl (op_lss (aC rfl) rfl rfl rfl (aD (aC rfl) rfl rfl (bU (d:=9) rfl (fun g9=>?_) (fun g9=>?_))))))
  ·refine aJ rfl rfl rfl rfl rfl rfl rfl (aJ rfl rfl rfl rfl rfl rfl rfl (aJ rfl rfl rfl rfl rfl rfl rfl (bW (aC rfl) rfl rfl rfl (aD (aC rfl) rfl rfl (aJ rfl rfl rfl rfl rfl rfl rfl (aJ rfl rfl rfl rfl rfl rfl rfl (aJ rfl rfl rfl rfl rfl rfl rfl (bO rfl rfl rfl rfl rfl rfl (bO rfl rfl rfl rfl rfl rfl (bO rfl rfl rfl rfl rfl rfl (bO rfl rfl rfl rfl rfl rfl (bO rfl rfl rfl rfl rfl rfl (bO rfl rfl rfl rfl rfl rfl (bO rfl rfl rfl rfl rfl rfl (bO rfl rfl rfl rfl rfl rfl (bO rfl rfl rfl rfl rfl rfl (aJ rfl rfl rfl rfl rfl rfl rfl (bW (aC rfl) rfl rfl rfl (aE (aC rfl) rfl rfl (aA ?_))))))))))))))))))))
   refine At.perm aX (At.perm bZ (At.perm aX (aB (jk_4 ?_ (.refl _) ⟨true,rfl,rfl,fun _=>n1 (.inl g9),fun h=>no_yes h.symm⟩))))
   exact .cons (by first|exact bE rfl (by omega)|rfl) (.cons (by first|exact bE rfl (by omega)|rfl) (.cons (by first|exact bE rfl (by omega)|rfl) (.cons (by first|exact bE rfl (by omega)|rfl) .nil)))
  refine aF (aS rfl rfl rfl rfl) fl58_0 rfl rfl (aH (aS rfl rfl rfl rfl) sc3 rfl B1 (gx_ki h) bC rfl (op_gtr (aS rfl rfl rfl rfl) rfl rfl rfl (bM (aC rfl) rfl rfl rfl (aD (aC rfl) rfl rfl (bU (d:=14) rfl (fun g14=>?_) (fun g14=>?_))))))
  ·refine aJ rfl rfl rfl rfl rfl rfl rfl (aJ rfl rfl rfl rfl rfl rfl rfl (aJ rfl rfl rfl rfl rfl rfl rfl (bO rfl rfl rfl rfl rfl rfl (bO rfl rfl rfl rfl rfl rfl (bO rfl rfl rfl rfl rfl rfl (bO rfl rfl rfl rfl rfl rfl (bO rfl rfl rfl rfl rfl rfl (bO rfl rfl rfl rfl rfl rfl (bO rfl rfl rfl rfl rfl rfl (bO rfl rfl rfl rfl rfl rfl (bO rfl rfl rfl rfl rfl rfl (aJ rfl rfl rfl rfl rfl rfl rfl (bW (aC rfl) rfl rfl rfl (aE (aC rfl) rfl rfl (aA (At.perm aX (At.perm bZ (At.perm aX (aB (jk_4 ?_ (.refl _) ⟨true,rfl,rfl,fun _=>n1 (.inr g14),fun h=>no_yes h.symm⟩))))))))))))))))))))
   exact .cons (by first|exact bE rfl (by omega)|rfl) (.cons (by first|exact bE rfl (by omega)|rfl) (.cons (by first|exact bE rfl (by omega)|rfl) (.cons (by first|exact bE rfl (by omega)|rfl) .nil)))
  refine aF (aS rfl rfl rfl rfl) fl58_6 rfl rfl (aH (aS rfl rfl rfl rfl) sc4 rfl B1 (gx_mk h) bC rfl (aD (aS rfl rfl rfl rfl) rfl rfl (At.part (d:=17) rfl (fun g17=>?_) (fun g17=>?_))))
  ·refine aF (aS rfl rfl rfl rfl) fl58_0 rfl rfl (aH (aS rfl rfl rfl rfl) sc3 rfl B1 (gx_ki h) bC rfl (op_eql (aS rfl rfl rfl rfl) rfl rfl rfl (aD (aS rfl rfl rfl rfl) rfl rfl (bU (d:=21) rfl (fun g21=>?_) (fun g21=>?_)))))
   ·refine aJ rfl rfl rfl rfl rfl rfl rfl (aJ rfl rfl rfl rfl rfl rfl rfl (aJ rfl rfl rfl rfl rfl rfl rfl (aJ rfl rfl rfl rfl rfl rfl rfl (bW (aS rfl rfl rfl rfl) rfl rfl rfl (bW (aS rfl rfl rfl rfl) rfl rfl rfl (bM (aC rfl) rfl rfl rfl (aE (aC rfl) rfl rfl (aA (At.perm aX (At.perm bZ (At.perm aX (aB (jk_4 ?_ (.refl _) ⟨true,rfl,rfl,fun _=>n2 g17 g21,fun h=>no_yes h.symm⟩)))))))))))))
    exact .cons (by first|exact bE rfl (by omega)|rfl) (.cons (by first|exact bE rfl (by omega)|rfl) (.cons (by first|exact bE rfl (by omega)|rfl) (.cons (by first|exact bE rfl (by omega)|rfl) .nil)))
   refine aF (aS rfl rfl rfl rfl) fl58_7 rfl rfl ?_
   refine aL (ds:=u8s m.to) (aS rfl rfl rfl rfl) ag23 rfl B1 (by exact gx_to h) (by rw [bN];exact h.to) bC rfl ?_
   refine op_buildA (out:= [.int .u8 0,.int .u8 0,.int .u8 0,.int .u8 0,.int .u8 0,.int .u8 0,.int .u8 0,.int .u8 0,.int .u8 0,.int .u8 0,.int .u8 0,.int .u8 0,.int .u8 0,.int .u8 0,.int .u8 0,.int .u8 0,.int .u8 0,.int .u8 0,.int .u8 0,.int .u8 0]) (aS rfl rfl rfl rfl) ze23 ae23 .nil rfl rfl (op_neW8 (a:=m.to) (b:=zero20) (aS rfl rfl rfl rfl) ae23 Try.underlying5 (by kernel_rfl) rfl rfl h.to hz20 rfl (bM (aS rfl rfl rfl rfl) rfl rfl rfl (bW (aS rfl rfl rfl rfl) rfl rfl rfl (bM (aC rfl) rfl rfl rfl (aE (aC rfl) rfl rfl (aA (At.perm aX (At.perm bZ (At.perm aX (aB (jk_4 ?_ (.refl _) ⟨decide (m.to≠zero20),rfl,rfl,fun q=>n3 g17 (of_decide_eq_true q),fun q=>⟨by omega,by omega,.inr ⟨g21,of_decide_eq_false q⟩⟩⟩)))))))))))
   exact .cons (by first|exact bE rfl (by omega)|rfl) (.cons (by first|exact bE rfl (by omega)|rfl) (.cons (by first|exact bE rfl (by omega)|rfl) (.cons (by first|exact bE rfl (by omega)|rfl) .nil)))
  refine aJ rfl rfl rfl rfl rfl rfl rfl (aJ rfl rfl rfl rfl rfl rfl rfl (aJ rfl rfl rfl rfl rfl rfl rfl (aJ rfl rfl rfl rfl rfl rfl rfl (bO rfl rfl rfl rfl rfl rfl (bO rfl rfl rfl rfl rfl rfl (bO rfl rfl rfl rfl rfl rfl (bO rfl rfl rfl rfl rfl rfl (aJ rfl rfl rfl rfl rfl rfl rfl (bM (aS rfl rfl rfl rfl) rfl rfl rfl (bM (aC rfl) rfl rfl rfl (aE (aC rfl) rfl rfl (aA (At.perm aX (At.perm bZ (At.perm aX ?_)))))))))))))))
  refine aB (jk_4 ?_ (.refl _) ⟨false,rfl,rfl,fun h=>no_yes h,fun _=>⟨by omega,by omega,.inl (by rw [g17];decide)⟩⟩)
  exact .cons (by first|exact bE rfl (by omega)|rfl) (.cons (by first|exact bE rfl (by omega)|rfl) (.cons (by first|exact bE rfl (by omega)|rfl) (.cons (by first|exact bE rfl (by omega)|rfl) .nil)))
 rintro _ _ ⟨v5,rfl,rfl,f1,f2⟩
 refine s_4 (At.condB rfl (fun c5=>?_) (fun c5=>?_))
 ·refine At.knowBT (d:=5) rfl c5 (At.seq fun _ s_5=>At.region (aE (aC rfl) rfl rfl (aA (aB (s_5 (At.ret (At.inRet (aT ((At.sub (L':= [R]) (.cons _ (.cons _ (.cons_cons _ (.slnil)))) (aZ (L1:= []) rfl (.tmp rfl .nil) (.refl _) (.refl _) ?_)))))))))))
  first
   |exact fno (f1 c5)
   |exact fyes h (f2 c5).1 (f2 c5).2.1 (f2 c5).2.2 (by first|exact .inl ‹_› |exact .inr ‹_›) (by first|exact .inl ‹_› |exact .inr ⟨‹_›,by omega⟩) (by first|exact .inl ‹_› |exact .inr (by omega))
   |exact fno (n4 g33 c29)
   |exact fno (n5 g42 g47)
   |exact fno (n6 g42 (by omega))
   |exact fno (n7 g57 (by omega))
 refine At.knowBF (d:=5) rfl c5 (At.seq fun _ s_6=>At.seq fun _ s_7=>At.region (aF (aC rfl) fl58_0 rfl rfl (aH (aC rfl) sc3 rfl B1 (gx_ki h) aN rfl (op_lss (aC rfl) rfl rfl rfl (aD (aC rfl) rfl rfl (bU (d:=33) rfl (fun g33=>?_) (fun g33=>?_)))))))
 ·refine aF (aS rfl rfl rfl rfl) fl58_4 rfl rfl (aL (ds:=u64s (wl m.tp)) (aS rfl rfl rfl rfl) ag26 rfl B1 (by exact gx_tp h) (by exact len_w4 _) aN rfl ?_)
  refine aL (ds:=u64s (wl 0)) (aS rfl rfl rfl rfl) ag26 rfl B3 (by first|(rw [List.drop_zero,List.take_of_length_le (by first|(simp;done)|(simp;omega))];done)|rfl) (by first|(simp;done)|(simp;omega)) bC rfl ?_
  refine op_neW (a:=wl m.tp) (b:=wl 0) (aS rfl rfl rfl rfl) ae26 Try.underlying24 (by kernel_rfl) rfl rfl rfl rfl rfl (bW (aC rfl) rfl rfl rfl (aE (aC rfl) rfl rfl (aA (aB (s_7 (aP rfl (fun c29=>?_) (fun c29=>?_)))))))
  ·refine At.knowT (d:=29) rfl c29 (At.skip (aB (s_6 (At.condT rfl (At.seq fun _ s_8=>At.region (aE (aC rfl) rfl rfl (aA (aB (s_8 (At.ret (At.inRet (aT ((At.sub (L':= [R]) (.cons _ (.cons _ (.cons_cons _ (.slnil)))) (aZ (L1:= []) rfl (.tmp rfl .nil) (.refl _) (.refl _) ?_)))))))))))))))
   first
    |exact fno (f1 c5)
    |exact fyes h (f2 c5).1 (f2 c5).2.1 (f2 c5).2.2 (by first|exact .inl ‹_› |exact .inr ‹_›) (by first|exact .inl ‹_› |exact .inr ⟨‹_›,by omega⟩) (by first|exact .inl ‹_› |exact .inr (by omega))
    |exact fno (n4 g33 c29)
    |exact fno (n5 g42 g47)
    |exact fno (n6 g42 (by omega))
    |exact fno (n7 g57 (by omega))
  refine At.knowF (d:=29) rfl c29 (At.seq fun _ s_9=>At.region (aF (aC rfl) fl58_0 rfl rfl (aH (aC rfl) sc3 rfl B1 (gx_ki h) aN rfl (op_lss (aC rfl) rfl rfl rfl (aD (aC rfl) rfl rfl (bU (d:=42) rfl (fun g42=>?_) (fun g42=>?_)))))))
  ·refine aF (aS rfl rfl rfl rfl) fl58_11 rfl rfl (aL (ds:=u64s (wl m.bf)) (aS rfl rfl rfl rfl) ag26 rfl B1 (by exact gx_bf h) (by exact len_w4 _) aN rfl ?_)
   refine aL (ds:=u64s (wl 0)) (aS rfl rfl rfl rfl) ag26 rfl B3 (by first|(rw [List.drop_zero,List.take_of_length_le (by first|(simp;done)|(simp;omega))];done)|rfl) (by first|(simp;done)|(simp;omega)) bC rfl ?_
   refine op_neW (a:=wl m.bf) (b:=wl 0) (aS rfl rfl rfl rfl) ae26 Try.underlying24 (by kernel_rfl) rfl rfl rfl rfl rfl (aD (aS rfl rfl rfl rfl) rfl rfl (bU (d:=47) rfl (fun g47=>?_) (fun g47=>?_)))
   ·refine aJ rfl rfl rfl rfl rfl rfl rfl (aJ rfl rfl rfl rfl rfl rfl rfl (aJ rfl rfl rfl rfl rfl rfl rfl (aJ rfl rfl rfl rfl rfl rfl rfl (bW (aS rfl rfl rfl rfl) rfl rfl rfl (bW (aC rfl) rfl rfl rfl (aE (aC rfl) rfl rfl (aA (aB (s_9 (At.condT rfl (At.skip (aB (s_6 (At.condT rfl (At.seq fun _ s_10=>At.region (aE (aC rfl) rfl rfl (aA (aB (s_10 (At.ret (At.inRet (aT ((At.sub (L':= [R]) (.cons _ (.cons _ (.cons_cons _ (.slnil)))) (aZ (L1:= []) rfl (.tmp rfl .nil) (.refl _) (.refl _) ?_)))))))))))))))))))))))))
    first
     |exact fno (f1 c5)
     |exact fyes h (f2 c5).1 (f2 c5).2.1 (f2 c5).2.2 (by first|exact .inl ‹_› |exact .inr ‹_›) (by first|exact .inl ‹_› |exact .inr ⟨‹_›,by omega⟩) (by first|exact .inl ‹_› |exact .inr (by omega))
     |exact fno (n4 g33 c29)
     |exact fno (n5 g42 g47)
     |exact fno (n6 g42 (by omega))
     |exact fno (n7 g57 (by omega))
   refine aF (aS rfl rfl rfl rfl) fl58_12 rfl rfl (aH (aS rfl rfl rfl rfl) sc41 rfl B1 (gx_b h) aN rfl (bP (aS rfl rfl rfl rfl) se41 rfl rfl (op_gtr (aS rfl rfl rfl rfl) rfl rfl rfl (bM (aS rfl rfl rfl rfl) rfl rfl rfl (bW (aC rfl) rfl rfl rfl (aE (aC rfl) rfl rfl (aA (aB (s_9 (aP rfl (fun c29=>?_) (fun c29=>?_)))))))))))
   ·refine At.knowT (d:=29) rfl c29 (At.skip (aB (s_6 (At.condT rfl (At.seq fun _ s_11=>At.region (aE (aC rfl) rfl rfl (aA (aB (s_11 (At.ret (At.inRet (aT ((At.sub (L':= [R]) (.cons _ (.cons _ (.cons_cons _ (.slnil)))) (aZ (L1:= []) rfl (.tmp rfl .nil) (.refl _) (.refl _) ?_)))))))))))))))
    first
     |exact fno (f1 c5)
     |exact fyes h (f2 c5).1 (f2 c5).2.1 (f2 c5).2.2 (by first|exact .inl ‹_› |exact .inr ‹_›) (by first|exact .inl ‹_› |exact .inr ⟨‹_›,by omega⟩) (by first|exact .inl ‹_› |exact .inr (by omega))
     |exact fno (n4 g33 c29)
     |exact fno (n5 g42 g47)
     |exact fno (n6 g42 (by omega))
     |exact fno (n7 g57 (by omega))
   refine At.knowF (d:=29) rfl c29 (At.region (aF (aC rfl) fl58_0 rfl rfl (aH (aC rfl) sc3 rfl B1 (gx_ki h) aN rfl (op_eql (aC rfl) rfl rfl rfl (aD (aC rfl) rfl rfl (bU (d:=57) rfl (fun g57=>?_) (fun g57=>?_)))))))
   ·refine aF (aS rfl rfl rfl rfl) fl58_10 rfl rfl (aH (aS rfl rfl rfl rfl) sc56 rfl B1 (gx_a h) aN rfl (bP (aS rfl rfl rfl rfl) se56 rfl rfl (op_gtr (aS rfl rfl rfl rfl) rfl rfl rfl (bW (aC rfl) rfl rfl rfl (aE (aC rfl) rfl rfl (aA (aB (s_6 (aP rfl (fun c29=>?_) (fun c29=>?_))))))))))
    ·refine At.knowT (d:=29) rfl c29 (At.seq fun _ s_12=>At.region (aE (aC rfl) rfl rfl (aA (aB (s_12 (At.ret (At.inRet (aT ((At.sub (L':= [R]) (.cons _ (.cons _ (.cons_cons _ (.slnil)))) (aZ (L1:= []) rfl (.tmp rfl .nil) (.refl _) (.refl _) ?_)))))))))))
     first
      |exact fno (f1 c5)
      |exact fyes h (f2 c5).1 (f2 c5).2.1 (f2 c5).2.2 (by first|exact .inl ‹_› |exact .inr ‹_›) (by first|exact .inl ‹_› |exact .inr ⟨‹_›,by omega⟩) (by first|exact .inl ‹_› |exact .inr (by omega))
      |exact fno (n4 g33 c29)
      |exact fno (n5 g42 g47)
      |exact fno (n6 g42 (by omega))
      |exact fno (n7 g57 (by omega))
    refine At.knowF (d:=29) rfl c29 (At.skip (bB (aB (s_3 (At.seq fun _ s_13=>At.region (aE (aC rfl) rfl rfl (aA (aB (s_13 (At.ret ((At.sub (L':= [R]) (.cons _ (.cons _ (.cons_cons _ (.slnil)))) (aZ (L1:= []) rfl (.tmp rfl .nil) (.refl _) (.refl _) ?_)))))))))))))
    first
     |exact fno (f1 c5)
     |exact fyes h (f2 c5).1 (f2 c5).2.1 (f2 c5).2.2 (by first|exact .inl ‹_› |exact .inr ‹_›) (by first|exact .inl ‹_› |exact .inr ⟨‹_›,by omega⟩) (by first|exact .inl ‹_› |exact .inr (by omega))
     |exact fno (n4 g33 c29)
     |exact fno (n5 g42 g47)
     |exact fno (n6 g42 (by omega))
     |exact fno (n7 g57 (by omega))
   refine aJ rfl rfl rfl rfl rfl rfl rfl (aJ rfl rfl rfl rfl rfl rfl rfl (aJ rfl rfl rfl rfl rfl rfl rfl (aJ rfl rfl rfl rfl rfl rfl rfl (bM (aC rfl) rfl rfl rfl (aE (aC rfl) rfl rfl (aA (aB (s_6 (At.condF rfl (At.skip (bB (aB (s_3 (At.seq fun _ s_14=>At.region (aE (aC rfl) rfl rfl (aA (aB (s_14 (At.ret ((At.sub (L':= [R]) (.cons _ (.cons _ (.cons_cons _ (.slnil)))) (aZ (L1:= []) rfl (.tmp rfl .nil) (.refl _) (.refl _) ?_))))))))))))))))))))))
   first
    |exact fno (f1 c5)
    |exact fyes h (f2 c5).1 (f2 c5).2.1 (f2 c5).2.2 (by first|exact .inl ‹_› |exact .inr ‹_›) (by first|exact .inl ‹_› |exact .inr ⟨‹_›,by omega⟩) (by first|exact .inl ‹_› |exact .inr (by omega))
    |exact fno (n4 g33 c29)
    |exact fno (n5 g42 g47)
    |exact fno (n6 g42 (by omega))
    |exact fno (n7 g57 (by omega))
  refine aJ rfl rfl rfl rfl rfl rfl rfl (aJ rfl rfl rfl rfl rfl rfl rfl (aJ rfl rfl rfl rfl rfl rfl rfl (aJ rfl rfl rfl rfl rfl rfl rfl (aJ rfl rfl rfl rfl rfl rfl rfl (bO rfl rfl rfl rfl rfl rfl (bO rfl rfl rfl rfl rfl rfl (bO rfl rfl rfl rfl rfl rfl (bO rfl rfl rfl rfl rfl rfl (aJ rfl rfl rfl rfl rfl rfl rfl (bM (aC rfl) rfl rfl rfl (aE (aC rfl) rfl rfl (aA (aB (s_9 (At.condF rfl (At.region (aF (aC rfl) fl58_0 rfl rfl (aH (aC rfl) sc3 rfl B1 (gx_ki h) aN rfl (op_eql (aC rfl) rfl rfl rfl (aD (aC rfl) rfl rfl (bU (d:=57) rfl (fun g57=>?_) (fun g57=>?_))))))))))))))))))))))
  ·refine aF (aS rfl rfl rfl rfl) fl58_10 rfl rfl (aH (aS rfl rfl rfl rfl) sc56 rfl B1 (gx_a h) aN rfl (bP (aS rfl rfl rfl rfl) se56 rfl rfl (op_gtr (aS rfl rfl rfl rfl) rfl rfl rfl (bW (aC rfl) rfl rfl rfl (aE (aC rfl) rfl rfl (aA (aB (s_6 (aP rfl (fun c29=>?_) (fun c29=>?_))))))))))
   ·refine At.knowT (d:=29) rfl c29 (At.seq fun _ s_15=>At.region (aE (aC rfl) rfl rfl (aA (aB (s_15 (At.ret (At.inRet (aT ((At.sub (L':= [R]) (.cons _ (.cons _ (.cons_cons _ (.slnil)))) (aZ (L1:= []) rfl (.tmp rfl .nil) (.refl _) (.refl _) ?_)))))))))))
    first
     |exact fno (f1 c5)
     |exact fyes h (f2 c5).1 (f2 c5).2.1 (f2 c5).2.2 (by first|exact .inl ‹_› |exact .inr ‹_›) (by first|exact .inl ‹_› |exact .inr ⟨‹_›,by omega⟩) (by first|exact .inl ‹_› |exact .inr (by omega))
     |exact fno (n4 g33 c29)
     |exact fno (n5 g42 g47)
     |exact fno (n6 g42 (by omega))
     |exact fno (n7 g57 (by omega))
   refine At.knowF (d:=29) rfl c29 (At.skip (bB (aB (s_3 (At.seq fun _ s_16=>At.region (aE (aC rfl) rfl rfl (aA (aB (s_16 (At.ret ((At.sub (L':= [R]) (.cons _ (.cons _ (.cons_cons _ (.slnil)))) (aZ (L1:= []) rfl (.tmp rfl .nil) (.refl _) (.refl _) ?_)))))))))))))
   first
    |exact fno (f1 c5)
    |exact fyes h (f2 c5).1 (f2 c5).2.1 (f2 c5).2.2 (by first|exact .inl ‹_› |exact .inr ‹_›) (by first|exact .inl ‹_› |exact .inr ⟨‹_›,by omega⟩) (by first|exact .inl ‹_› |exact .inr (by omega))
    |exact fno (n4 g33 c29)
    |exact fno (n5 g42 g47)
    |exact fno (n6 g42 (by omega))
    |exact fno (n7 g57 (by omega))
  refine aJ rfl rfl rfl rfl rfl rfl rfl (aJ rfl rfl rfl rfl rfl rfl rfl (aJ rfl rfl rfl rfl rfl rfl rfl (aJ rfl rfl rfl rfl rfl rfl rfl (bM (aC rfl) rfl rfl rfl (aE (aC rfl) rfl rfl (aA (aB (s_6 (At.condF rfl (At.skip (bB (aB (s_3 (At.seq fun _ s_17=>At.region (aE (aC rfl) rfl rfl (aA (aB (s_17 (At.ret ((At.sub (L':= [R]) (.cons _ (.cons _ (.cons_cons _ (.slnil)))) (aZ (L1:= []) rfl (.tmp rfl .nil) (.refl _) (.refl _) ?_))))))))))))))))))))))
  first
   |exact fno (f1 c5)
   |exact fyes h (f2 c5).1 (f2 c5).2.1 (f2 c5).2.2 (by first|exact .inl ‹_› |exact .inr ‹_›) (by first|exact .inl ‹_› |exact .inr ⟨‹_›,by omega⟩) (by first|exact .inl ‹_› |exact .inr (by omega))
   |exact fno (n4 g33 c29)
   |exact fno (n5 g42 g47)
   |exact fno (n6 g42 (by omega))
   |exact fno (n7 g57 (by omega))
 refine aJ rfl rfl rfl rfl rfl rfl rfl (aJ rfl rfl rfl rfl rfl rfl rfl (aJ rfl rfl rfl rfl rfl rfl rfl (aJ rfl rfl rfl rfl rfl rfl rfl (bM (aC rfl) rfl rfl rfl (aE (aC rfl) rfl rfl (aA (aB (s_7 (At.condF rfl (At.seq fun _ s_18=>At.region (aF (aC rfl) fl58_0 rfl rfl (aH (aC rfl) sc3 rfl B1 (gx_ki h) aN rfl (op_lss (aC rfl) rfl rfl rfl (aD (aC rfl) rfl rfl (bU (d:=42) rfl (fun g42=>?_) (fun g42=>?_))))))))))))))))
 ·refine aF (aS rfl rfl rfl rfl) fl58_11 rfl rfl (aL (ds:=u64s (wl m.bf)) (aS rfl rfl rfl rfl) ag26 rfl B1 (by exact gx_bf h) (by exact len_w4 _) aN rfl ?_)
  refine aL (ds:=u64s (wl 0)) (aS rfl rfl rfl rfl) ag26 rfl B3 (by first|(rw [List.drop_zero,List.take_of_length_le (by first|(simp;done)|(simp;omega))];done)|rfl) (by first|(simp;done)|(simp;omega)) bC rfl ?_
  refine op_neW (a:=wl m.bf) (b:=wl 0) (aS rfl rfl rfl rfl) ae26 Try.underlying24 (by kernel_rfl) rfl rfl rfl rfl rfl (aD (aS rfl rfl rfl rfl) rfl rfl (bU (d:=47) rfl (fun g47=>?_) (fun g47=>?_)))
  ·refine aJ rfl rfl rfl rfl rfl rfl rfl (aJ rfl rfl rfl rfl rfl rfl rfl (aJ rfl rfl rfl rfl rfl rfl rfl (aJ rfl rfl rfl rfl rfl rfl rfl (bW (aS rfl rfl rfl rfl) rfl rfl rfl (bW (aC rfl) rfl rfl rfl (aE (aC rfl) rfl rfl (aA (aB (s_18 (At.condT rfl (At.skip (aB (s_6 (At.condT rfl (At.seq fun _ s_19=>At.region (aE (aC rfl) rfl rfl (aA (aB (s_19 (At.ret (At.inRet (aT ((At.sub (L':= [R]) (.cons _ (.cons _ (.cons_cons _ (.slnil)))) (aZ (L1:= []) rfl (.tmp rfl .nil) (.refl _) (.refl _) ?_)))))))))))))))))))))))))
   first
    |exact fno (f1 c5)
    |exact fyes h (f2 c5).1 (f2 c5).2.1 (f2 c5).2.2 (by first|exact .inl ‹_› |exact .inr ‹_›) (by first|exact .inl ‹_› |exact .inr ⟨‹_›,by omega⟩) (by first|exact .inl ‹_› |exact .inr (by omega))
    |exact fno (n4 g33 c29)
    |exact fno (n5 g42 g47)
    |exact fno (n6 g42 (by omega))
    |exact fno (n7 g57 (by omega))
  refine aF (aS rfl rfl rfl rfl) fl58_12 rfl rfl (aH (aS rfl rfl rfl rfl) sc41 rfl B1 (gx_b h) aN rfl (bP (aS rfl rfl rfl rfl) se41 rfl rfl (op_gtr (aS rfl rfl rfl rfl) rfl rfl rfl (bM (aS rfl rfl rfl rfl) rfl rfl rfl (bW (aC rfl) rfl rfl rfl (aE (aC rfl) rfl rfl (aA (aB (s_18 (aP rfl (fun c29=>?_) (fun c29=>?_)))))))))))
  ·refine At.knowT (d:=29) rfl c29 (At.skip (aB (s_6 (At.condT rfl (At.seq fun _ s_20=>At.region (aE (aC rfl) rfl rfl (aA (aB (s_20 (At.ret (At.inRet (aT ((At.sub (L':= [R]) (.cons _ (.cons _ (.cons_cons _ (.slnil)))) (aZ (L1:= []) rfl (.tmp rfl .nil) (.refl _) (.refl _) ?_)))))))))))))))
   first
    |exact fno (f1 c5)
    |exact fyes h (f2 c5).1 (f2 c5).2.1 (f2 c5).2.2 (by first|exact .inl ‹_› |exact .inr ‹_›) (by first|exact .inl ‹_› |exact .inr ⟨‹_›,by omega⟩) (by first|exact .inl ‹_› |exact .inr (by omega))
    |exact fno (n4 g33 c29)
    |exact fno (n5 g42 g47)
    |exact fno (n6 g42 (by omega))
    |exact fno (n7 g57 (by omega))
  refine At.knowF (d:=29) rfl c29 (At.region (aF (aC rfl) fl58_0 rfl rfl (aH (aC rfl) sc3 rfl B1 (gx_ki h) aN rfl (op_eql (aC rfl) rfl rfl rfl (aD (aC rfl) rfl rfl (bU (d:=57) rfl (fun g57=>?_) (fun g57=>?_)))))))
  ·refine aF (aS rfl rfl rfl rfl) fl58_10 rfl rfl (aH (aS rfl rfl rfl rfl) sc56 rfl B1 (gx_a h) aN rfl (bP (aS rfl rfl rfl rfl) se56 rfl rfl (op_gtr (aS rfl rfl rfl rfl) rfl rfl rfl (bW (aC rfl) rfl rfl rfl (aE (aC rfl) rfl rfl (aA (aB (s_6 (aP rfl (fun c29=>?_) (fun c29=>?_))))))))))
   ·refine At.knowT (d:=29) rfl c29 (At.seq fun _ s_21=>At.region (aE (aC rfl) rfl rfl (aA (aB (s_21 (At.ret (At.inRet (aT ((At.sub (L':= [R]) (.cons _ (.cons _ (.cons_cons _ (.slnil)))) (aZ (L1:= []) rfl (.tmp rfl .nil) (.refl _) (.refl _) ?_)))))))))))
    first
     |exact fno (f1 c5)
     |exact fyes h (f2 c5).1 (f2 c5).2.1 (f2 c5).2.2 (by first|exact .inl ‹_› |exact .inr ‹_›) (by first|exact .inl ‹_› |exact .inr ⟨‹_›,by omega⟩) (by first|exact .inl ‹_› |exact .inr (by omega))
     |exact fno (n4 g33 c29)
     |exact fno (n5 g42 g47)
     |exact fno (n6 g42 (by omega))
     |exact fno (n7 g57 (by omega))
   refine At.knowF (d:=29) rfl c29 (At.skip (bB (aB (s_3 (At.seq fun _ s_22=>At.region (aE (aC rfl) rfl rfl (aA (aB (s_22 (At.ret ((At.sub (L':= [R]) (.cons _ (.cons _ (.cons_cons _ (.slnil)))) (aZ (L1:= []) rfl (.tmp rfl .nil) (.refl _) (.refl _) ?_)))))))))))))
   first
    |exact fno (f1 c5)
    |exact fyes h (f2 c5).1 (f2 c5).2.1 (f2 c5).2.2 (by first|exact .inl ‹_› |exact .inr ‹_›) (by first|exact .inl ‹_› |exact .inr ⟨‹_›,by omega⟩) (by first|exact .inl ‹_› |exact .inr (by omega))
    |exact fno (n4 g33 c29)
    |exact fno (n5 g42 g47)
    |exact fno (n6 g42 (by omega))
    |exact fno (n7 g57 (by omega))
  refine aJ rfl rfl rfl rfl rfl rfl rfl (aJ rfl rfl rfl rfl rfl rfl rfl (aJ rfl rfl rfl rfl rfl rfl rfl (aJ rfl rfl rfl rfl rfl rfl rfl (bM (aC rfl) rfl rfl rfl (aE (aC rfl) rfl rfl (aA (aB (s_6 (At.condF rfl (At.skip (bB (aB (s_3 (At.seq fun _ s_23=>At.region (aE (aC rfl) rfl rfl (aA (aB (s_23 (At.ret ((At.sub (L':= [R]) (.cons _ (.cons _ (.cons_cons _ (.slnil)))) (aZ (L1:= []) rfl (.tmp rfl .nil) (.refl _) (.refl _) ?_))))))))))))))))))))))
  first
   |exact fno (f1 c5)
   |exact fyes h (f2 c5).1 (f2 c5).2.1 (f2 c5).2.2 (by first|exact .inl ‹_› |exact .inr ‹_›) (by first|exact .inl ‹_› |exact .inr ⟨‹_›,by omega⟩) (by first|exact .inl ‹_› |exact .inr (by omega))
   |exact fno (n4 g33 c29)
   |exact fno (n5 g42 g47)
   |exact fno (n6 g42 (by omega))
   |exact fno (n7 g57 (by omega))
 refine aJ rfl rfl rfl rfl rfl rfl rfl (aJ rfl rfl rfl rfl rfl rfl rfl (aJ rfl rfl rfl rfl rfl rfl rfl (aJ rfl rfl rfl rfl rfl rfl rfl (aJ rfl rfl rfl rfl rfl rfl rfl (bO rfl rfl rfl rfl rfl rfl (bO rfl rfl rfl rfl rfl rfl (bO rfl rfl rfl rfl rfl rfl (bO rfl rfl rfl rfl rfl rfl (aJ rfl rfl rfl rfl rfl rfl rfl (bM (aC rfl) rfl rfl rfl (aE (aC rfl) rfl rfl (aA (aB (s_18 (At.condF rfl (At.region (aF (aC rfl) fl58_0 rfl rfl (aH (aC rfl) sc3 rfl B1 (gx_ki h) aN rfl (op_eql (aC rfl) rfl rfl rfl (aD (aC rfl) rfl rfl (bU (d:=57) rfl (fun g57=>?_) (fun g57=>?_))))))))))))))))))))))
 ·refine aF (aS rfl rfl rfl rfl) fl58_10 rfl rfl (aH (aS rfl rfl rfl rfl) sc56 rfl B1 (gx_a h) aN rfl (bP (aS rfl rfl rfl rfl) se56 rfl rfl (op_gtr (aS rfl rfl rfl rfl) rfl rfl rfl (bW (aC rfl) rfl rfl rfl (aE (aC rfl) rfl rfl (aA (aB (s_6 (aP rfl (fun c29=>?_) (fun c29=>?_))))))))))
  ·refine At.knowT (d:=29) rfl c29 (At.seq fun _ s_24=>At.region (aE (aC rfl) rfl rfl (aA (aB (s_24 (At.ret (At.inRet (aT ((At.sub (L':= [R]) (.cons _ (.cons _ (.cons_cons _ (.slnil)))) (aZ (L1:= []) rfl (.tmp rfl .nil) (.refl _) (.refl _) ?_)))))))))))
   first
    |exact fno (f1 c5)
    |exact fyes h (f2 c5).1 (f2 c5).2.1 (f2 c5).2.2 (by first|exact .inl ‹_› |exact .inr ‹_›) (by first|exact .inl ‹_› |exact .inr ⟨‹_›,by omega⟩) (by first|exact .inl ‹_› |exact .inr (by omega))
    |exact fno (n4 g33 c29)
    |exact fno (n5 g42 g47)
    |exact fno (n6 g42 (by omega))
    |exact fno (n7 g57 (by omega))
  refine At.knowF (d:=29) rfl c29 (At.skip (bB (aB (s_3 (At.seq fun _ s_25=>At.region (aE (aC rfl) rfl rfl (aA (aB (s_25 (At.ret ((At.sub (L':= [R]) (.cons _ (.cons _ (.cons_cons _ (.slnil)))) (aZ (L1:= []) rfl (.tmp rfl .nil) (.refl _) (.refl _) ?_)))))))))))))
  first
   |exact fno (f1 c5)
   |exact fyes h (f2 c5).1 (f2 c5).2.1 (f2 c5).2.2 (by first|exact .inl ‹_› |exact .inr ‹_›) (by first|exact .inl ‹_› |exact .inr ⟨‹_›,by omega⟩) (by first|exact .inl ‹_› |exact .inr (by omega))
   |exact fno (n4 g33 c29)
   |exact fno (n5 g42 g47)
   |exact fno (n6 g42 (by omega))
   |exact fno (n7 g57 (by omega))
 refine aJ rfl rfl rfl rfl rfl rfl rfl (aJ rfl rfl rfl rfl rfl rfl rfl (aJ rfl rfl rfl rfl rfl rfl rfl (aJ rfl rfl rfl rfl rfl rfl rfl (bM (aC rfl) rfl rfl rfl (aE (aC rfl) rfl rfl (aA (aB (s_6 (At.condF rfl (At.skip (bB (aB (s_3 (At.seq fun _ s_26=>At.region (aE (aC rfl) rfl rfl (aA (aB (s_26 (At.ret ((At.sub (L':= [R]) (.cons _ (.cons _ (.cons_cons _ (.slnil)))) (aZ (L1:= []) rfl (.tmp rfl .nil) (.refl _) (.refl _) ?_))))))))))))))))))))))
 first
  |exact fno (f1 c5)
  |exact fyes h (f2 c5).1 (f2 c5).2.1 (f2 c5).2.2 (by first|exact .inl ‹_› |exact .inr ‹_›) (by first|exact .inl ‹_› |exact .inr ⟨‹_›,by omega⟩) (by first|exact .inl ‹_› |exact .inr (by omega))
  |exact fno (n4 g33 c29)
  |exact fno (n5 g42 g47)
  |exact fno (n6 g42 (by omega))
  |exact fno (n7 g57 (by omega))
end
end
end Go.Proofs.Ytljacjjeinmfnaa
