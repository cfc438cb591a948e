/- Several texts in one: see the remarks ahead of each part. No condition but those told there. -/
import Derived.Test.YtjfagifjajielaaGreatX1
import Derived.Test.YtjfagifjajielaaGreatX31
set_option linter.unusedSimpArgs false
set_option linter.unusedVariables false
namespace Go.Proofs.YtjfagifjajielaaGreat
open Go Go.RowKit
set_option maxRecDepth 100000
section
variable {N : Heaplet} {h : HdM} {v : Value} {z : List UInt8}
set_option maxHeartbeats 4000000 in
theorem rHash_z (hz:kec h.it.form=z) (hi:HdIn N h v) (hx:h.ex.length≤4294960000):Fn Tryz.prog 84 #[.agg (h.cells v).toArray] [] [N] (fun v L=>(okF h.fi∧v=.tuple #[.agg (u8s z).toArray,.bool true]∧L= [])∨(¬okF h.fi∧ ∃y:List Value,v=.tuple #[.agg y.toArray,.bool false]∧y.length=32∧y.all (·.oneCell')=true∧L= [])):=by
 have hcl:=HdM.len hi.1 v
 obtain⟨_,ho⟩:=hi.one
 have hfl:=HdM.form_len hi.1 hx
 have hzl:z.length=32:=by rw [←hz,kec_len]
 have hul:(u8s z).length=32:=by rw [cK,hzl]
 refine Fn.enter (vs:= [.agg (h.cells v).toArray]) Tryz.func84 U U U ?_
 intro E R hR
 have hNR:=hR N (by simp)
 change At _ _ E [R] _
 refine aC fun _ s_1=>aA (op_box aZ U U U (fun N1 b1 B1=>bE aZ ze40 U (fun N2 b2 B2=>?_)))
 change Blk N2 b2 _ [.int .u8 0,.int .u8 0,.int .u8 0,.int .u8 0,.int .u8 0,.int .u8 0,.int .u8 0,.int .u8 0,.int .u8 0,.int .u8 0,.int .u8 0,.int .u8 0,.int .u8 0,.int .u8 0,.int .u8 0,.int .u8 0,.int .u8 0,.int .u8 0,.int .u8 0,.int .u8 0,.int .u8 0,.int .u8 0,.int .u8 0,.int .u8 0,.int .u8 0,.int .u8 0,.int .u8 0,.int .u8 0,.int .u8 0,.int .u8 0,.int .u8 0,.int .u8 0]at B2
 refine aG U U (aB (s_1 (aC fun _ s_2=>aC fun _ s_3=>aA (aI aD fl44_0 U U (aV aD sc3 U B1 (show(h.cells v)[0+0]? =some (.int .i64 h.fi)from hd_f0) mem1 U (aH aZ (.cons U .nil) (RFields_or _) Tryz.func21 U U (by simp) U ?_))))))
 rintro _ _ (⟨hok,rfl,rfl⟩|⟨hbad,rfl,rfl⟩)
 ·show At _ _ _ [N2,N1,R] _
  refine op_not aD U U (aB (s_3 (At.condF U (aQ (aE (s_2 (aC fun _ s_4=>aA (aY (ds:=h.cells v) aD ag44 U B1 (by exact tk_all hcl) (by exact hcl) mem1 U ?_))))))))
  refine aH aZ (.cons U .nil) ((RWriteHeader hi hx hok).liftB hNR) Tryz.func22 U U (by simp) U ?_
  rintro _ _ ⟨M10,p10,c10,rfl,rfl,r10⟩
  show At _ _ _ [M10,N2,N1,R] _
  refine aH aZ (.cons U .nil) (rKec_z hz r10.rsl (by omega)) Tryz.func82 U U (by simp) U ?_
  rintro _ _ ⟨rfl,rfl⟩
  show At _ _ _ [M10,N2,N1,R] _
  refine aX nxQ sz40 U U U hul (by rw [List.all_eq_true];exact one_u8s _) B2 (by rw [hul];exact Nat.le_refl _) sel1 (fun N2 B2=>?_)
  rw [setL_whole (by rw [hul];rfl)]at B2
  refine aG U U (aB (s_4 (aR ((cA (a7 (bV (L1:= []) U (.cell U (res_agg (ds:=_) ag40 B2 (by first|exact tk_all hul|rfl) (by first|exact hul|rfl) bZ) (.tmp U .nil)) U (.cons _ (.refl _)) aM ?_)))))))
  exact .inl ⟨hok,rfl,rfl⟩
 show At _ _ _ [N2,N1,R] _
 refine op_not aD U U (aB (s_3 (At.condT U (aC fun _ s_5=>aA (op_buildA (out:= [.int .u8 0,.int .u8 0,.int .u8 0,.int .u8 0,.int .u8 0,.int .u8 0,.int .u8 0,.int .u8 0,.int .u8 0,.int .u8 0,.int .u8 0,.int .u8 0,.int .u8 0,.int .u8 0,.int .u8 0,.int .u8 0,.int .u8 0,.int .u8 0,.int .u8 0,.int .u8 0,.int .u8 0,.int .u8 0,.int .u8 0,.int .u8 0,.int .u8 0,.int .u8 0,.int .u8 0,.int .u8 0,.int .u8 0,.int .u8 0,.int .u8 0,.int .u8 0]) aD ze40 ae40 .nil U U (aX nxQ sz40 U U U U U B2 (by simp) sel0 (fun N2 B2=>?_)))))))
 simp only [setL,List.set]at B2
 refine aG U U (aB (s_5 (aR (aJ ((a7 (bV (L1:= []) U (.cell U (res_agg (ds:=_) ag40 B2 (by first|exact tk_all hul|rfl) (by first|exact hul|rfl) bZ) (.tmp U .nil)) U (.cons _ (.refl _)) aM ?_)))))))
 exact .inr ⟨hbad,_,rfl,rfl,rfl,rfl⟩
end
theorem okB_eqH {P:Program} {l:List (Nat×Value)} {t t':TypeId} {x y:Operand} {a b:List UInt8} (hx:ev l x=some (.agg (u8s a).toArray)) (hy:ev l y=some (.agg (u8s b).toArray)) (hg:(!P.eqGuardType P.depth t&&intsB P t)=true):okB P l (.binOp .eql t x y t')=true:=by
 rw [Bool.and_eq_true]at hg
 simp [okB,Op.operands,floatOK,hx,hy,hg.1,hg.2,u8s_ints]
section
variable {N : Heaplet} {ao : Option Addr} {n cap : Nat} {hs : List (List UInt8)} {x : List UInt8}
theorem hs_at (h32: ∀y∈hs,y.length=32) {i:Nat} {y:List UInt8} (hy:hs[i]? =some y):((hashC hs).drop (i*32)).take 32=u8s y:=flat_at u8s (fun y hy=>by rw [cK];exact h32 y hy) hy
set_option maxHeartbeats 4000000 in
theorem FIndex_h (hA:RSl N 32 ao n cap (hashC hs)) (hn:hs.length=n) (h32: ∀y∈hs,y.length=32) (hx:x.length=32):Fn Tryz.prog 124 #[.slice ao n cap,.agg (u8s x).toArray] [] [N] (fun v L=>(x∈hs∧ ∃i:Nat,v=.int .i64 (i:Int)∧L= [])∨(x∉hs∧v=.int .i64 (-1)∧L= [])):=by
 have hul:(u8s x).length=32:=by rw [cK,hx]
 have z1:=hA.2.1
 have z2:=hA.2.2.1
 unfold maxLen at z2
 refine Fn.enter (vs:= [.slice ao n cap,.agg (u8s x).toArray]) Tryz.func124 U U U ?_
 intro E R hR
 have hA':=hA.le (hR N (by simp))
 change At _ _ E [R] _
 refine aC fun _ s_1=>aA (op_box aZ U U U (fun N3 b3 B3=>aG U U (aB (s_1 (aC fun _ s_2=>aC fun _ s_3=>aA (aF U U (bG aD se30 U U (aF U U (aB (s_3 (aT (cF (fun fr_ hp_ ms_=> ∃(i:Nat),fr_= [(0,.slice ao n cap),(3,.pointer (some ⟨b3,0,none⟩)),(7,.int .i64 (n:Int)),(8,.int .i64 (i:Int))]∧hp_= [N3,R]∧n- i=ms_∧(i≤n)∧(x∉hs.take i)) ?_ aM ⟨0,rfl,rfl,rfl,Nat.zero_le _,by simp⟩ ?_))))))))))))
 ·repeat first|apply bD|exact .nil|exact lkI rfl (by omega)|rfl
 rintro _ _ _ ⟨i,rfl,rfl,rfl,hi,hno⟩
 refine aC fun _ s_4=>aA (op_lss aD U U U (aB (s_4 (aC fun _ s_5=>aO U (fun c9=>?_) (fun c9=>?_)))))
 ·refine At.knowT (d:=9) U c9 ?_
  obtain⟨y,hgi⟩: ∃y,hs[i]? =some y:=⟨_,List.getElem?_eq_getElem (by omega)⟩
  have hy32:=h32 y (List.mem_of_getElem? hgi)
  have hyl:(u8s y).length=32:=by rw [cK,hy32]
  refine aQ (aE (s_5 (aC fun _ s_6=>aT (aC fun _ s_7=>aA (aF U U (aG U U (aB (s_7 (aC fun _ s_8=>At.drawn [] [0,1,2,3,4,5] (by kernel_rfl) (by kernel_rfl) (aY (ds:=u8s x) (aS U U U (by kernel_rfl)) ag40 U B3 (by exact tk_all hul) (by exact hul) bZ U ?_))))))))))
  refine aL (aS U U U (by kernel_rfl)) U U (aL (aS U U U (by kernel_rfl)) U U (op_idxE (aS U U U (by kernel_rfl)) se30 U U hA' (show _=(((i:Nat)):Int)from by omega) (by omega) U ?_))
  refine op_loadAggE (ds:=u8s y) (aS U U U (by kernel_rfl)) ag40 U hA' (by exact hs_at h32 hgi) (by exact hyl) (by omega) (by simp) U ?_
  refine op_eqW8 (a:=x) (b:=y) (aS U U U (by exact okB_eqH U U (by kernel_rfl))) ae40 Tryz.underlying5 (by kernel_rfl) U U hx hy32 U ?_
  refine cG (aE (s_8 (aO U (fun c16=>?_) (fun c16=>?_))))
  ·refine At.knowT (d:=16) U c16 (aC fun _ s_9=>aA (aF U U (aG U U (aB (s_9 (aR (b9 (aJ (aJ (b9 (aJ ((bP (aW (L1:= []) U (.tmp U .nil) (.refl _) aM ?_))))))))))))))
   exact .inl ⟨by rw [c16];exact List.mem_of_getElem? hgi,i,rfl,rfl⟩
  refine At.knowF (d:=16) U c16 (aQ (a0 (aE (s_6 (aA (a6 aD U U (by omega) (by omega) U (aF U U (aB ?_))))))))
  refine bQ ?_ aM ⟨i+1,rfl,rfl,rfl,by omega,by rw [take_nx hgi];exact fun hm=>(List.mem_append.1 hm).elim hno fun h2=>by rw [List.mem_singleton]at h2;exact absurd h2 (by assumption)⟩ ?_
  ·repeat first|apply bD|exact .nil|exact lkI rfl (by omega)|rfl
  ·omega
 refine At.knowF (d:=9) U c9 ?_
 obtain rfl:i=n:=by omega
 rw [List.take_of_length_le (by omega)]at hno
 refine bW (aK (aK (bH (aE (s_2 (aC fun _ s_10=>aA (aG U U (aB (s_10 (aR ((bP (aW (L1:= []) U (.tmp U .nil) (.refl _) aM ?_)))))))))))))
 exact .inr ⟨hno,rfl,rfl⟩
theorem FContains (hA:RSl N 32 ao n cap (hashC hs)) (hn:hs.length=n) (h32: ∀y∈hs,y.length=32) (hx:x.length=32):Fn Tryz.prog 80 #[.slice ao n cap,.agg (u8s x).toArray] [] [N] (fun v L=> ∃b,v=.bool b∧(b=true↔x∈hs)∧L= []):=by
 have hul:(u8s x).length=32:=by rw [cK,hx]
 refine Fn.enter (vs:= [.slice ao n cap,.agg (u8s x).toArray]) Tryz.func80 U U U ?_
 intro E R hR
 have hNR:=hR N (by simp)
 change At _ _ E [R] _
 refine aC fun _ s_1=>aA (op_box aZ U U U (fun N3 b3 B3=>aG U U (aB (s_1 (aC fun _ s_2=>aA (aF U U (aY (ds:=u8s x) aD ag40 U B3 (by exact tk_all hul) (by exact hul) bZ U ?_)))))))
 refine aH aZ (.cons U (.cons U .nil)) ((FIndex_h hA hn h32 hx).liftB hNR) Tryz.func124 U U (by simp) U ?_
 rintro _ _ (⟨hin,i,rfl,rfl⟩|⟨hno,rfl,rfl⟩)
 ·show At _ _ _ [N3,R] _
  refine op_geq aD U U U (aG U U (aB (s_2 (aR ((bP (aW (L1:= []) U (.tmp U .nil) (.refl _) aM ?_)))))))
  exact⟨_,rfl,⟨fun _=>hin,fun _=>decide_eq_true (by omega)⟩,rfl⟩
 show At _ _ _ [N3,R] _
 refine op_geq aD U U U (aG U U (aB (s_2 (aR ((bP (aW (L1:= []) U (.tmp U .nil) (.refl _) aM ?_)))))))
 exact⟨_,rfl,⟨fun h=>absurd (of_decide_eq_true h) (by decide),fun h=>absurd h hno⟩,rfl⟩
end
def Beside (q:PlanM) (h o:HdM) (ks:List (List UInt8)):Prop:=fieldsN (q.at o.nu o.ti)=o.fi∧o.ex.length≤32∧o.nu.toNat<h.nu.toNat∧h.nu.toNat- o.nu.toNat≤6∧ks[h.nu.toNat- o.nu.toNat]? =some o.pa
theorem oh_nu {h:HdM} (k:h.Ok) (v:Value):(h.cells v)[0+441]? =some (.int .u64 (h.nu.toNat:Int)):=aP (HdM.lens k v) (j:=9) rfl rfl
theorem oh_ti {h:HdM} (k:h.Ok) (v:Value):(h.cells v)[0+444]? =some (.int .u64 (h.ti.toNat:Int)):=aP (HdM.lens k v) (j:=12) rfl rfl
theorem oh_fi {h:HdM} {v:Value} :(h.cells v)[0+0]? =some (.int .i64 h.fi):=rfl
theorem oh_pa {h:HdM} (k:h.Ok) (v:Value):((h.cells v).drop (0+1)).take 32=u8s h.pa:=part_get (HdM.lens k v) (j:=1) rfl rfl (by rw [cK,k.pa])
theorem oh_om {h:HdM} (k:h.Ok) (v:Value):((h.cells v).drop (0+33)).take 32=u8s h.om:=part_get (HdM.lens k v) (j:=2) rfl rfl (by rw [cK,k.om])
theorem nu_sub {h o:HdM} (hlt:o.nu.toNat<h.nu.toNat):(h.nu- o.nu).toNat=h.nu.toNat- o.nu.toNat:=UInt64.toNat_sub_of_le _ _ (UInt64.le_iff_toNat_le.2 (by omega))
theorem no_ff {p:Prop} (h: ¬p):(false=true↔p):=⟨fun e=>Bool.noConfusion e,fun hp=>absurd hp h⟩
theorem beside_no {q:PlanM} {h o:HdM} {ks:List (List UInt8)} (hlt:o.nu.toNat<h.nu.toNat) (hd:6<(h.nu- o.nu).toNat∨ks.length≤(h.nu- o.nu).toNat): ¬Beside q h o ks:=fun hb=>by
 rw [nu_sub hlt]at hd
 obtain⟨k,_⟩:=List.getElem?_eq_some_iff.1 hb.2.2.2.2
 have:=hb.2.2.2.1
 omega
theorem beside_yes {q:PlanM} {h o:HdM} {ks:List (List UInt8)} {y:List UInt8} (h1:o.fi=fieldsN (q.at o.nu o.ti)) (h2:o.ex.length≤32) (hlt:o.nu.toNat<h.nu.toNat) (hd:(h.nu- o.nu).toNat≤6) (hy:ks[(h.nu- o.nu).toNat]? =some y):decide (o.pa=y)=true↔Beside q h o ks:=by
 rw [decide_eq_true_iff]
 rw [nu_sub hlt]at hd hy
 exact⟨fun e=>⟨h1.symm,h2,hlt,hd,by rw [hy,e]⟩,fun hb=>by have:=hb.2.2.2.2;rw [hy]at this;exact(Option.some.inj this).symm⟩
section
variable {N : Heaplet} {q : PlanM} {h o : HdM} {cs : List Value} {hv ov : Value} {ks : List (List UInt8)} {ko : Option Addr} {kn kc : Nat}
set_option maxHeartbeats 8000000 in
theorem FBeside (hc:CfgIn N q cs) (hg:q.good) (hh:HdIn N h hv) (hoo:HdIn N o ov) (hK:RSl N 32 ko kn kc (hashC ks)) (hkn:ks.length=kn) (k32: ∀y∈ks,y.length=32):Fn Tryz.prog 79 #[.agg cs.toArray,.agg (h.cells hv).toArray,.agg (o.cells ov).toArray,.slice ko kn kc] [] [N] (fun v L=> ∃b,v=.bool b∧(b=true↔Beside q h o ks)∧L= []):=by
 obtain⟨c1,c2⟩:=hc.len
 obtain⟨h1,h2⟩:=hh.one
 obtain⟨o1,o2⟩:=hoo.one
 obtain⟨ok,ea,ec,rfl,hex⟩:=hoo
 have z1:=hK.2.1
 have z2:=hK.2.2.1
 unfold maxLen at z2
 obtain⟨F,hF⟩: ∃F,q.at o.nu o.ti=F:=⟨_,rfl⟩
 have hAt:=FAt_y hc hg o.nu o.ti
 rw [hF]at hAt
 have hpl:(u8s o.pa).length=32:=by rw [cK,ok.pa]
 refine Fn.enter (vs:= [.agg cs.toArray,.agg (h.cells hv).toArray,.agg (o.cells (.slice ea o.ex.length ec)).toArray,.slice ko kn kc]) Tryz.func79 U U U ?_
 intro E R hR
 have hNR:=hR N (by simp)
 have hK':=hK.le hNR
 have hkk:(UInt64.ofNat kn).toNat=kn:=by rw [UInt64.toNat_ofNat',Nat.mod_eq_of_lt (by omega)]
 change At _ _ E [R] _
 refine aC fun _ s_1=>aA (op_box aZ U U U (fun N4 b4 B4=>op_box aZ U U U (fun N5 b5 B5=>op_box aZ U U U (fun N6 b6 B6=>aG U U (aB (s_1 (aC fun _ s_2=>aA (aY (ds:=cs) aD ag75 U B4 (by exact tk_all c1) (by exact c1) mem2 U ?_))))))))
 refine aI aD fl44_9 U U (aV aD sc24 U B6 (oh_nu ok _) bZ U (aI aD fl44_12 U U (aV aD sc24 U B6 (oh_ti ok _) bZ U (aH aZ (.cons U (.cons U (.cons U .nil))) (hAt.liftB hNR) Tryz.func76 U U (by simp) U ?_))))
 rintro _ _ ⟨rfl,rfl⟩
 show At _ _ _ [N6,N5,N4,R] _
 refine aF U U (aN aD U U U (aN aD U U U (aG U U (aG U U (aB (s_2 (aC fun _ s_3=>aC fun _ s_4=>At.drawn [] [0,1,2,3,4,5,6,7,8,9,10,11,12,13,14,15,16,17] (by kernel_rfl) (by kernel_rfl) (aI (aS U U U (by kernel_rfl)) fl44_0 U U (aV (aS U U U (by kernel_rfl)) sc3 U B6 (oh_fi) bZ U (aL (aS U U U (by kernel_rfl)) U U (aH (nxoa U U U) (.cons U .nil) (FFields F) Tryz.func123 U U (by simp) U ?_)))))))))))
 rintro _ _ ⟨rfl,rfl⟩
 show At _ _ _ [N6,N5,N4,R] _
 refine op_neq (aS U U U (by kernel_rfl)) U U U (aL (aS U U U (by kernel_rfl)) U U (cJ (d:=26) U (fun g26=>?_) (fun g26=>?_)))
 ·refine bK U U U U U U U U (bK U U U U U U U U (bK U U U U U U U U (bK U U U U U U U U (bO (aS U U U (by kernel_rfl)) U U U (aL (aS U U U (by kernel_rfl)) U U (bK U U U U U U U U (bK U U U U U U U U (bK U U U U U U U U (bK U U U U U U U U (bK U U U U U U U U (bO (aS U U U (by kernel_rfl)) U U U (cG (aE (s_4 (At.condT U (aC fun _ s_5=>aA (aG U U (aB (s_5 (aR (aJ ((cA (a7 (bP (aW (L1:= []) U (.tmp U .nil) (.refl _) aM ?_))))))))))))))))))))))))))
  exact⟨_,rfl,no_ff fun hb=>g26 (by rw [←hF];exact hb.1.symm),rfl⟩
 refine aI (nxogf U U U U U U (by kernel_rfl)) fl44_13 U U (aV (nxogf U U U U U U (by kernel_rfl)) sc22 U B6 (hk_x ok) bZ U (bG (nxogf U U U U U U (by kernel_rfl)) se22 U U (op_gtr (nxogf U U U U U U (by kernel_rfl)) U U U (cB (aS U U U (by kernel_rfl)) U U U (aL (aS U U U (by kernel_rfl)) U U (cJ (d:=32) U (fun g32=>?_) (fun g32=>?_)))))))
 ·refine bK U U U U U U U U (bK U U U U U U U U (bK U U U U U U U U (bK U U U U U U U U (bK U U U U U U U U (bO (aS U U U (by kernel_rfl)) U U U (cG (aE (s_4 (At.condT U (aC fun _ s_6=>aA (aG U U (aB (s_6 (aR (aJ ((cA (a7 (bP (aW (L1:= []) U (.tmp U .nil) (.refl _) aM ?_))))))))))))))))))))
  exact⟨_,rfl,no_ff fun hb=>absurd hb.2.1 (by omega),rfl⟩
 refine aI (nxogf U U U U U U (by kernel_rfl)) fl44_9 U U (aV (nxogf U U U U U U (by kernel_rfl)) sc24 U B6 (oh_nu ok _) bZ U (aI (nxogf U U U U U U (by kernel_rfl)) fl44_9 U U (aV (nxogf U U U U U U (by kernel_rfl)) sc24 U B5 (oh_nu hh.1 _) mem1 U (op_geq (nxogf U U U U U U (by kernel_rfl)) U U U (cB (aS U U U (by kernel_rfl)) U U U (cG (aE (s_4 (aO U (fun c38=>?_) (fun c38=>?_))))))))))
 ·refine At.knowT (d:=38) U c38 (aC fun _ s_7=>aA (aG U U (aB (s_7 (aR (aJ ((cA (a7 (bP (aW (L1:= []) U (.tmp U .nil) (.refl _) aM ?_)))))))))))
  exact⟨_,rfl,no_ff fun hb=>absurd hb.2.2.1 (by omega),rfl⟩
 refine At.knowF (d:=38) U c38 (aQ (aE (s_3 (aC fun _ s_8=>aA (aI aD fl44_9 U U (aV aD sc24 U B5 (oh_nu hh.1 _) mem1 U (aI aD fl44_9 U U (aV aD sc24 U B6 (oh_nu ok _) bZ U (op_subU aD U U U (aG U U (aB (s_8 (aC fun _ s_9=>At.drawn [] [0,1,2,3,4,5,6,7,8,9,10,11,12,13,14,15,16,17,18] (by kernel_rfl) (by kernel_rfl) (aL (aS U U U (by kernel_rfl)) U U (op_leq (aS U U U (by kernel_rfl)) U U U (aL (aS U U U (by kernel_rfl)) U U (cJ (d:=46) U (fun g46=>?_) (fun g46=>?_))))))))))))))))))
 ·refine aL (nxogf U U U U U U (by kernel_rfl)) U U (aL (nxogf U U U U U U (by kernel_rfl)) U U (bG (nxogf U U U U U U (by kernel_rfl)) se30 U U (op_conv64 (nxogf U U U U U U (by kernel_rfl)) (und_some Tryz.underlying3) Tryz.underlying24 U (by first|rfl|exact(Int.toNat_of_nonneg (by omega)).symm) U ?_)))
  refine op_lss (nxogf U U U U U U (by kernel_rfl)) U U U (bO (aS U U U (by kernel_rfl)) U U U (aL (aS U U U (by kernel_rfl)) U U (cJ (d:=53) U (fun g53=>?_) (fun g53=>?_))))
  ·obtain⟨y,hy⟩: ∃y,ks[(h.nu- o.nu).toNat]? =some y:=⟨_,List.getElem?_eq_getElem (by omega)⟩
   have hy32:=k32 y (List.mem_of_getElem? hy)
   have hyl:(u8s y).length=32:=by rw [cK,hy32]
   refine aI (nxogf U U U U U U (by kernel_rfl)) fl44_1 U U (aY (ds:=u8s o.pa) (nxogf U U U U U U (by kernel_rfl)) ag40 U B6 (by exact oh_pa ok _) (by exact hpl) bZ U ?_)
   refine aL (nxogf U U U U U U (by kernel_rfl)) U U (aL (nxogf U U U U U U (by kernel_rfl)) U U (op_idxE (nxogf U U U U U U (by kernel_rfl)) se30 U U hK' (show _=((((h.nu- o.nu).toNat:Nat)):Int)from by omega) (by omega) U ?_))
   refine op_loadAggE (ds:=u8s y) (nxogf U U U U U U (by kernel_rfl)) ag40 U hK' (by exact hs_at k32 hy) (by exact hyl) (by omega) (by simp) U ?_
   refine op_eqW8 (a:=o.pa) (b:=y) (nxogf U U U U U U (by exact okB_eqH U U (by kernel_rfl))) ae40 Tryz.underlying5 (by kernel_rfl) U U ok.pa hy32 U ?_
   refine bO (aS U U U (by kernel_rfl)) U U U (bX (aS U U U (by kernel_rfl)) U U (cG (aE (s_9 (aR ((cA (a7 (bP (aW (L1:= []) U (.tmp U .nil) (.refl _) aM ?_))))))))))
   exact⟨_,rfl,beside_yes (by rw [hF];exact Classical.not_not.1 g26) (by omega) (by omega) (by omega) hy,rfl⟩
  refine bK U U U U U U U U (bK U U U U U U U U (bK U U U U U U U U (bK U U U U U U U U (bK U U U U U U U U (bK U U U U U U U U (bK U U U U U U U U (cB (aS U U U (by kernel_rfl)) U U U (bX (aS U U U (by kernel_rfl)) U U (cG (aE (s_9 (aR ((cA (a7 (bP (aW (L1:= []) U (.tmp U .nil) (.refl _) aM ?_)))))))))))))))))
  exact⟨_,rfl,no_ff (beside_no (by omega) (.inr (by omega))),rfl⟩
 refine bK U U U U U U U U (bK U U U U U U U U (bK U U U U U U U U (bK U U U U U U U U (bK U U U U U U U U (cB (aS U U U (by kernel_rfl)) U U U (aL (aS U U U (by kernel_rfl)) U U (bK U U U U U U U U (bK U U U U U U U U (bK U U U U U U U U (bK U U U U U U U U (bK U U U U U U U U (bK U U U U U U U U (bK U U U U U U U U (cB (aS U U U (by kernel_rfl)) U U U (bX (aS U U U (by kernel_rfl)) U U (cG (aE (s_9 (aR ((cA (a7 (bP (aW (L1:= []) U (.tmp U .nil) (.refl _) aM ?_))))))))))))))))))))))))
 exact⟨_,rfl,no_ff (beside_no (by omega) (.inl (by omega))),rfl⟩
end
def Bad (q:PlanM) (h:HdM) (l:List HdM) (ks:List (List UInt8)) (H:HdM→List UInt8) (i:Nat) (o:HdM):Prop:= ¬Beside q h o ks∨H o∈ks∨H o∈(l.map H).take i
def Head51 (q:PlanM) (h:HdM) (l:List HdM) (Kf:List UInt8):Prop:=2<l.length∨(0<l.length∧13≤q.at h.nu h.ti)∨h.om≠Kf
def OkA (h:HdM) (l:List HdM):Prop:=okF h.fi∧ ∀o∈l,okF o.fi
def OmR (q:PlanM) (h:HdM) (l:List HdM) (ks:List (List UInt8)) (H:HdM→List UInt8) (Kf:List UInt8) (r:Int):Prop:=
 (¬q.good∧r=10)∨(q.good∧ ¬OkA h l∧r=1)∨(q.good∧OkA h l∧(Head51 q h l Kf∨ ∃i o,l[i]? =some o∧Bad q h l ks H i o)∧r=51)∨(q.good∧OkA h l∧ ¬Head51 q h l Kf∧(∀i o,l[i]? =some o→ ¬Bad q h l ks H i o)∧r=0)
theorem om_x {q:PlanM} {h:HdM} {l:List HdM} {ks:List (List UInt8)} {H:HdM→List UInt8} {Kf:List UInt8} (h3: ¬Head51 q h l Kf) (h4: ∀i o,l[i]? =some o→ ¬Bad q h l ks H i o): ¬(Head51 q h l Kf∨ ∃i o,l[i]? =some o∧Bad q h l ks H i o):=fun hb=>by
 rcases hb with k|⟨i,o,k1,k2⟩
 ·exact h3 k
 ·exact h4 i o k1 k2
theorem OmR.same {q:PlanM} {h:HdM} {l:List HdM} {ks:List (List UInt8)} {H:HdM→List UInt8} {Kf:List UInt8} {r r':Int} (a:OmR q h l ks H Kf r) (b:OmR q h l ks H Kf r'):r=r':=by
 rcases a with ⟨a1,rfl⟩|⟨a1,a2,rfl⟩|⟨a1,a2,a3,rfl⟩|⟨a1,a2,a3,a4,rfl⟩<;>rcases b with ⟨b1,rfl⟩|⟨b1,b2,rfl⟩|⟨b1,b2,b3,rfl⟩|⟨b1,b2,b3,b4,rfl⟩
 all_goals first
  |rfl
  |exact absurd b1 a1
  |exact absurd a1 b1
  |exact absurd a2 b2
  |exact absurd b2 a2
  |exact absurd a3 (om_x b3 b4)
  |exact absurd b3 (om_x a3 a4)
section
variable {N : Heaplet} {o : HdM}
theorem hd_dec (k:o.Ok) (hx:o.ex.length≤4294960000):decodeF o.it.form=.ok o.it:=by
 have hf:=HdM.form_len k hx
 rw [decodeF_form (by omega) (Nat.le_trans (hd_dep o) (by decide)),hd_plain]
theorem FDec_hd {ao:Option Addr} {n cap:Nat} (h:RSl N 1 ao n cap (u8s o.it.form)) (hn:n≤1099511627776) (hd:decodeF o.it.form=.ok o.it):Fn Tryz.prog 32 #[.slice ao n cap] [] [N] (fun v L=> ∃(M:Heaplet) (x:IV),v=.tuple #[.agg #[.bool x.l,.slice x.ab x.nb x.cb,.slice x.ai x.ni x.ci],.int .i64 0]∧L= [M]∧ItN M o.it x):=(Decode_f h hn).mono fun v L hp=>by
 rcases hp with ⟨t,M,x,h1,h2,h3,h4⟩|⟨e,h1,_⟩
 ·rw [hd]at h1;obtain rfl:=Except.ok.inj h1;exact⟨M,x,h2,h3,h4⟩
 ·rw [hd]at h1;cases h1
theorem rDec_hd {ao:Option Addr} {n cap:Nat} (h:RSl N 1 ao n cap (u8s o.it.form)) (hn:n≤1099511627776) (hd:decodeF o.it.form=.ok o.it):Fn Tryz.prog 36 #[.slice ao n cap] [] [N] (fun v L=> ∃(M:Heaplet) (x:IV),v=.tuple #[.agg #[.bool x.l,.slice x.ab x.nb x.cb,.slice x.ai x.ni x.ci],.int .i64 0]∧L= [M]∧ItN M o.it x):=(rDecode_f h hn).mono fun v L hp=>by
 rcases hp with ⟨t,M,x,h1,h2,h3,h4⟩|⟨e,h1,_⟩
 ·rw [hd]at h1;obtain rfl:=Except.ok.inj h1;exact⟨M,x,h2,h3,h4⟩
 ·rw [hd]at h1;cases h1
end
theorem oms_form {l:List HdM} (hk: ∀o∈l,o.Ok) (he: ∀o∈l,o.ex.length≤1000) (hl:l.length≤10):(itL (l.map HdM.it)).form.length≤40000∧(itL (l.map HdM.it)).depth≤1024:=by
 have a:=list_bound (l:=l.map HdM.it) (B:=3000) (n:=10) (fun t ht=>by
  obtain⟨x,hx,rfl⟩:=List.mem_map.1 ht
  have:=he x hx
  have:=HdM.form_len (hk x hx) (by omega)
  omega) (by rw [List.length_map];exact hl) (by decide)
 refine⟨by omega,?_⟩
 have:It.depths (l.map HdM.it)≤1:=depths_le.2 fun t ht=>by
  obtain⟨x,hx,rfl⟩:=List.mem_map.1 ht
  exact hd_dep x
 rw [depthL];omega
section
variable {N : Heaplet} {q : PlanM} {h : HdM} {cs : List Value} {hv : Value} {ks : List (List UInt8)} {ko oa : Option Addr} {kn kc oc : Nat} {xs : List (HdM × Value)} {l : List HdM} {H : HdM → List UInt8} {Kf : List UInt8}
theorem bad_no {i:Nat} {o:HdM} {b1 b2 b3:Bool} (h1:b1=true↔Beside q h o ks) (h2:b2=true↔H o∈ks) (h3:b3=true↔H o∈(l.map H).take i) (e1:b1=true) (e2:b2=false) (e3:b3=false): ¬Bad q h l ks H i o:=fun hb=>by
 rcases hb with hb|hb|hb
 ·exact hb (h1.1 e1)
 ·rw [h2.2 hb]at e2;cases e2
 ·rw [h3.2 hb]at e3;cases e3
theorem bad_1 {i:Nat} {o:HdM} {b1:Bool} (h1:b1=true↔Beside q h o ks) (e:b1=false):Bad q h l ks H i o:=.inl fun hb=>by rw [h1.2 hb]at e;cases e
theorem nb_next {j:Nat} {o:HdM} (hnb: ∀i o,i<j→l[i]? =some o→ ¬Bad q h l ks H i o) (hj:l[j]? =some o) (hb: ¬Bad q h l ks H j o): ∀i o,i<j+1→l[i]? =some o→ ¬Bad q h l ks H i o:=fun i o' hi ho=>by
 rcases Nat.lt_or_ge i j with k|k
 ·exact hnb i o' k ho
 ·obtain rfl:i=j:=by omega
  rw [hj]at ho
  obtain rfl:=Option.some.inj ho
  exact hb
theorem nb_all {j:Nat} (hnb: ∀i o,i<j→l[i]? =some o→ ¬Bad q h l ks H i o) (hj:l.length≤j): ∀i o,l[i]? =some o→ ¬Bad q h l ks H i o:=fun i o ho=>hnb i o (by have:=(List.getElem?_eq_some_iff.1 ho).1;omega) ho
theorem no51 {F:Nat} (h1: ¬2<l.length) (h2: ¬(0<l.length∧13≤F)) (hF:q.at h.nu h.ti=F) (h3:h.om=Kf): ¬Head51 q h l Kf:=fun hb=>by
 rcases hb with k|k|k
 ·exact h1 k
 ·rw [hF]at k;exact h2 k
 ·exact k h3
theorem okA_no {o:HdM} {i:Nat} (hi:l[i]? =some o) (hb: ¬okF o.fi): ¬OkA h l:=fun k=>hb (k.2 o (List.mem_of_getElem? hi))
theorem hs_take {hs:List (List UInt8)} (h32: ∀y∈hs,y.length=32): ∀ {j:Nat},(hashC hs).take (j*32)=hashC (hs.take j):=by
 induction hs with
 |nil=>intro j;simp [hashC]
 |cons a r ih=>
  intro j
  cases j with
  |zero=>simp [hashC]
  |succ j=>
   have ha:(u8s a).length=32:=by rw [cK,h32 a (by simp)]
   have:=ih (fun y hy=>h32 y (List.mem_cons_of_mem _ hy)) (j:=j)
   simp only [hashC,List.flatMap_cons,List.take_succ_cons]at this⊢
   rw [show(j+1)*32=(u8s a).length+j*32 by omega,List.take_length_add_append,this]
set_option maxHeartbeats 16000000 in
theorem FOmmers (hc:CfgIn N q cs) (hh:HdIn N h hv) (hx:h.ex.length≤1000) (hO:RSl N 556 oa l.length oc (omC xs)) (hxs: ∀x∈xs,HdIn N x.1 x.2) (hxm:xs.map Prod.fst=l) (hxe: ∀o∈l,o.ex.length≤1000) (hl:l.length≤10) (hK:RSl N 32 ko kn kc (hashC ks)) (hkn:ks.length=kn) (k32: ∀y∈ks,y.length=32) (hH: ∀o:HdM,kec o.it.form=H o) (hKf:kec (itL (l.map HdM.it)).form=Kf):Fn Tryz.prog 24 #[.agg cs.toArray,.agg (h.cells hv).toArray,.slice oa l.length oc,.slice ko kn kc] [] [N] (fun v L=> ∃r:Int,v=.int .i64 r∧OmR q h l ks H Kf r∧L= []):=by
 obtain⟨c1,c2⟩:=hc.len
 obtain⟨h1,h2⟩:=hh.one
 have hxl:xs.length=l.length:=by rw [←hxm,List.length_map]
 have h32: ∀o:HdM,(H o).length=32:=fun o=>by rw [←hH o,kec_len]
 have hul: ∀o:HdM,(u8s (H o)).length=32:=fun o=>by rw [cK,h32]
 have hKl:Kf.length=32:=by rw [←hKf,kec_len]
 have hoks: ∀o∈l,o.Ok:=fun o ho=>by
  rw [←hxm]at ho
  obtain⟨x,hx,rfl⟩:=List.mem_map.1 ho
  exact(hxs x hx).1
 obtain⟨hfm,hfd⟩:=oms_form hoks hxe hl
 obtain⟨F,hF⟩: ∃F,q.at h.nu h.ti=F:=⟨_,rfl⟩
 have hAt:=FAt_g hc h.nu h.ti
 rw [hF]at hAt
 have hHs:=FHash_z (hH h) hh (by omega)
 have m32: ∀y∈l.map H,y.length=32:=fun y hy=>by
  obtain⟨o,_,rfl⟩:=List.mem_map.1 hy
  exact h32 o
 refine Fn.enter (vs:= [.agg cs.toArray,.agg (h.cells hv).toArray,.slice oa l.length oc,.slice ko kn kc]) Tryz.func24 U U U ?_
 intro E R hR
 have hNR:=hR N (by simp)
 have hO':=hO.le hNR
 change At _ _ E [R] _
 refine aC fun _ s_1=>aA (op_box aZ U U U (fun N4 b4 B4=>op_box aZ U U U (fun N5 b5 B5=>aG U U (aB (s_1 (aC fun _ s_2=>aA (aY (ds:=cs) aD ag75 U B4 (by exact tk_all c1) (by exact c1) mem1 U ?_)))))))
 refine aI aD fl44_9 U U (aV aD sc24 U B5 (oh_nu hh.1 _) bZ U (aI aD fl44_12 U U (aV aD sc24 U B5 (oh_ti hh.1 _) bZ U (aH aZ (.cons U (.cons U (.cons U .nil))) (hAt.liftB hNR) Tryz.func76 U U (by simp) U ?_))))
 rintro _ _ (⟨hg,rfl,rfl⟩|⟨hng,rfl,rfl⟩)
 ·show At _ _ _ [N5,N4,R] _
  refine aF U U (aN aD U U U (aN aD U U U (aG U U (aG U U (aB (s_2 (aC fun _ s_3=>aC fun _ s_4=>aA (aF U U (op_neq aD U U U (aB (s_4 (aO U (fun c35=>?_) (fun c35=>?_)))))))))))))
  ·exact absurd U c35
  refine At.knowF (d:=35) U c35 (aQ (aE (s_3 (aC fun _ s_5=>aC fun _ s_6=>aA (aY (ds:=h.cells hv) aD ag44 U B5 (by exact tk_all h1) (by exact h1) bZ U ?_)))))
  refine aH aZ (.cons U .nil) (hHs.liftB hNR) Tryz.func77 U U (by simp) U ?_
  rintro _ _ (⟨hok,rfl,rfl⟩|⟨hbad,y39,rfl,ly,oy,rfl⟩)
  ·show At _ _ _ [N5,N4,R] _
   refine aF U U (aN aD U U U (aN aD U U U (bE aZ ze40 U (fun N11 b11 B11=>?_))))
   change Blk N11 b11 _ [.int .u8 0,.int .u8 0,.int .u8 0,.int .u8 0,.int .u8 0,.int .u8 0,.int .u8 0,.int .u8 0,.int .u8 0,.int .u8 0,.int .u8 0,.int .u8 0,.int .u8 0,.int .u8 0,.int .u8 0,.int .u8 0,.int .u8 0,.int .u8 0,.int .u8 0,.int .u8 0,.int .u8 0,.int .u8 0,.int .u8 0,.int .u8 0,.int .u8 0,.int .u8 0,.int .u8 0,.int .u8 0,.int .u8 0,.int .u8 0,.int .u8 0,.int .u8 0]at B11
   refine aX nxQ sz40 U U U (by first|exact hul h|exact ly) (by first|(rw [List.all_eq_true];exact one_u8s _)|exact oy) B11 (by first|(rw [hul h];exact Nat.le_refl _)|(rw [ly];exact Nat.le_refl _)) sel0 (fun N11 B11=>?_)
   first|rw [setL_whole (by rw [hul h];rfl)]at B11|rw [setL_whole (by rw [ly];rfl)]at B11
   refine aG U U (aB (s_6 (aC fun _ s_7=>aA (aF U U (op_neq aD U U U (aB (s_7 (aO U (fun c43=>?_) (fun c43=>?_)))))))))
   ·exact absurd U c43
   refine At.knowF (d:=43) U c43 (aQ (aE (s_5 (aC fun _ s_8=>aA (op_build (out:= [_,.slice none 0 0,.slice none 0 0]) aD ze91 pl91 (.cons U .nil) U U (bE aZ ze91 U (fun N13 b13 B13=>?_)))))))
   change Blk N13 b13 _ [.bool false,.slice none 0 0,.slice none 0 0]at B13
   refine aX nxQ sz91 U U U U U B13 (by simp) sel0 (fun N13 B13=>?_)
   simp only [setL,List.set]at B13
   refine aB (s_8 (aC fun _ s_9=>aA (aG U U (aB (s_9 (aC fun _ s_10=>aC fun _ s_11=>aA (aF U U (bG aD se51 U U (aF U U (aB (s_11 (aT (At.empty (At.empty (At.empty (dropAt4 (bM (bY (bM (cH (bI (bY (bM (cF (fun fr_ hp_ ms_=> ∃(i:Nat) (a:Option Addr) (c:Nat) (ys:List IV) (po:Option Addr) (pc:Nat) (N13 Na NJ No:Heaplet),fr_= [(2,.slice oa l.length oc),(3,.slice ko kn kc),(4,.pointer (some ⟨b4,0,none⟩)),(5,.pointer (some ⟨b5,0,none⟩)),(9,.int .i64 (F:Int)),(13,.pointer (some ⟨b13,0,none⟩)),(14,.slice po i pc),(45,.slice oa l.length oc),(46,.int .i64 (l.length:Int)),(47,.int .i64 (i:Int))]∧hp_= [N13,Na,NJ,No,N4,N5,R]∧l.length- i=ms_∧(i≤l.length)∧(Blk N13 b13 91 [.bool true,.slice none 0 0,.slice a i c])∧(Row Na 91 3 a i c (cellsI ys))∧(∀K:Heaplet,NJ.le K→ItsN K ((l.take i).map HdM.it) ys)∧(Row No 40 32 po i pc (hashC ((l.take i).map H)))∧(∀o∈l.take i,okF o.fi)) ?_ aM ⟨0,none,0,[],none,0,N13,nilH,nilH,nilH,rfl,rfl,rfl,Nat.zero_le _,B13,Row.nil _ _ _,fun K _=>ItsN_nil,Row.nil _ _ _,fun o ho=>by simp at ho⟩ ?_))))))))))))))))))))))))
   ·repeat first|apply bD|exact .nil|exact lkI rfl (by omega)|rfl
   rintro _ _ _ ⟨i,a,c,ys,po,pc,N13,Na,NJ,No,rfl,rfl,rfl,hi,B13,ra,hy,ro,hfo⟩
   refine aC fun _ s_12=>aA (op_lss aD U U U (aB (s_12 (aC fun _ s_13=>aO U (fun c48=>?_) (fun c48=>?_)))))
   ·refine At.knowT (d:=48) U c48 ?_
    have hlt:i<xs.length:=by omega
    obtain⟨⟨xh,xv⟩,hxi⟩: ∃x,xs[i]? =some x:=⟨_,List.getElem?_eq_getElem hlt⟩
    have hxin:=hxs _ (List.mem_of_getElem? hxi)
    simp only at hxin
    have hgi:l[i]? =some xh:=by rw [←hxm,List.getElem?_map,hxi];rfl
    obtain⟨hxl2,hx1⟩:=hxin.one
    have hxe2:=hxe xh (List.mem_of_getElem? hgi)
    have hdc:=hd_dec hxin.1 (by omega)
    have hfl:=HdM.form_len hxin.1 (by omega)
    refine aQ (aE (s_13 (aC fun _ s_14=>aT (aC fun _ s_15=>aA (op_idxE aD se51 U U hO' (show _=(((i:Nat)):Int)from by omega) (by omega) U ?_)))))
    refine op_loadAggE (ds:=xh.cells xv) aD ag44 U hO' (by exact flat_at (fun x:HdM×Value=>x.1.cells x.2) (omC_cells hxs) hxi) (by exact hxl2) (by omega) (by simp) U ?_
    refine bE aZ ze44 U (fun N16 b16 B16=>?_)
    change Blk N16 b16 _ z44 at B16
    refine aX nxQ sz44 U U U hxl2 hx1 B16 (by rw [hxl2];exact Nat.le_refl _) sel0 (fun N16 B16=>?_)
    rw [setL_whole (by rw [hxl2];rfl)]at B16
    refine aB (s_15 (aC fun _ s_16=>aA (aY (ds:=xh.cells xv) aD ag44 U B16 (by exact tk_all hxl2) (by exact hxl2) bZ U ?_)))
    refine aH aZ (.cons U .nil) ((FWH_or hxin (by omega)).liftB hNR) Tryz.func20 U U (by simp) U ?_
    rintro _ _ (⟨M53,p53,c53,hok2,rfl,rfl,s53⟩|⟨hbad2,rfl,rfl⟩)
    ·show At _ _ _ [M53,N16,N13,Na,NJ,No,N4,N5,R] _
     refine aF U U (aN aD U U U (aN aD U U U (aG U U (aG U U (aB (s_16 (aC fun _ s_17=>aC fun _ s_18=>aA (aF U U (op_neq aD U U U (aB (s_18 (aO U (fun c57=>?_) (fun c57=>?_)))))))))))))
     ·exact absurd U c57
     refine At.knowF (d:=57) U c57 (aQ (aE (s_17 (aC fun _ s_19=>aA (aF U U (aH aZ (.cons U .nil) (FDec_hd s53 (by omega) hdc) Tryz.func32 U U (by simp) U ?_))))))
     rintro _ _ ⟨M60,x60,rfl,rfl,j60⟩
     show At _ _ _ [M60,M53,N16,N13,Na,NJ,No,N4,N5,R] _
     refine aF U U (aN aD U U U (aN aD U U U (bE aZ ze91 U (fun N19 b19 B19=>?_))))
     change Blk N19 b19 _ [.bool false,.slice none 0 0,.slice none 0 0]at B19
     refine aX nxQ sz91 U U U U U B19 (by simp) sel0 (fun N19 B19=>?_)
     simp only [setL,List.set]at B19
     refine aG U U (aB (s_19 (aC fun _ s_20=>aA (aI aD fl91_2 U U (aV aD sc89 U B13 U mem4 U ?_)))))
     refine aY (ds:= [.bool x60.l,.slice x60.ab x60.nb x60.cb,.slice x60.ai x60.ni x60.ci]) aD ag91 U B19 (by first|(rw [List.drop_zero,List.take_of_length_le (by first|(simp;done)|(simp;omega))];done)|rfl) (by first|(simp;done)|(simp;omega)) bZ U ?_
     refine op_lit aZ Tryz.underlying89 ze91 sz91 (.cons U .nil) U U (by simp [Value.cells]) U U U (fun N66 a66 r66=>?_)
     simp only [flatV,List.flatMap_cons,List.flatMap_nil,Value.cells,List.append_nil,List.cons_append,List.nil_append]at r66
     have s66:=r66.rsl
     change Row N66 _ 3 a66 1 1 (cellsI [x60])at r66
     refine op_append nxQ Tryz.underlying89 Tryz.underlying89 te91 U U ra r66.rsl (by simp) (cellsI_oneB _) (by omega) (by omega) sel6 U (fun N67 a67 p67 r67=>?_)
     have s67:=r67.rsl
     rw [←cellsI_app]at r67
     refine aI aD fl91_2 U U (aX nxQ sz89 U U U U U B13 (by simp) sel6 (fun N13 B13=>?_))
     simp only [setL,List.set]at B13
     refine aB (s_20 (aA (aF U U (aF U U (aH aZ (.cons U .nil) (FKec_z (hH xh) s53 (by omega)) Tryz.func78 U U (by simp) U ?_)))))
     rintro _ _ ⟨rfl,rfl⟩
     show At _ _ _ [N13,N67,N66,N19,M60,M53,N16,NJ,No,N4,N5,R] _
     refine op_lit aZ Tryz.underlying30 ze40 sz40 (.cons rfl .nil) rfl rfl (by(intro p hp;rw [List.mem_singleton.1 hp];exact hul xh)) rfl rfl rfl (fun N72 a72 r72=>?_)
     simp only [flatV,List.flatMap_cons,List.flatMap_nil,Value.cells,List.append_nil,List.cons_append,List.nil_append]at r72
     have s72:=r72.rsl
     have s72:RSl N72 32 a72 1 1 (hashC [H xh]):=by
      have:=r72.rsl
      simp only [hashC,List.flatMap_cons,List.flatMap_nil,List.append_nil]
      exact this
     refine op_append nxQ Tryz.underlying30 Tryz.underlying30 te40 U U ro s72 (by simp) (hashC_one _) (by omega) (by omega) sel9 U (fun N73 a73 p73 r73=>?_)
     have s73:=r73.rsl
     rw [hashC,hashC, ←List.flatMap_append]at r73
     change Row N73 _ 32 a73 (i+1) p73 (hashC ((l.take i).map H++ [H xh]))at r73
     refine aG U U (At.opsNil (a0 (aE (s_14 (aA (a6 aD U U (by omega) (by omega) U (aF U U (aB (permSel12 (permSel12 (permSel12 (permSel11 (permSel11 (bB (bB (bB (bB (bB (bB (permSel11 (permSel12 (At.mergeN (fun W W1 W2=>dropAt8 (dropAt7 (dropAt6 (dropAt5 (cA (bM (bM (bM (bI (bI (bM (bM ?_))))))))))))))))))))))))))))))))))
     refine bQ ?_ aM ⟨i+1,a67,p67,ys++ [x60],a73,p73,N13,N67,W,N73,rfl,rfl,rfl,by omega,B13,r67,by rw [take_next2 hgi,List.map_append];exact fun Q hJ=>(hy Q (Heaplet.le_trans W1 hJ)).snoc (j60.le (Heaplet.le_trans W2 hJ)),by rw [take_next2 hgi,List.map_append];exact r73,by rw [take_next2 hgi];exact fun o ho=>(List.mem_append.1 ho).elim (hfo o) fun h2=>by rw [List.mem_singleton.1 h2];exact hok2⟩ ?_
     ·repeat first|apply bD|exact .nil|exact lkI rfl (by omega)|rfl
     ·omega
    show At _ _ _ [N16,N13,Na,NJ,No,N4,N5,R] _
    refine aF U U (aN aD U U U (aN aD U U U (aG U U (aG U U (aB (s_16 (aC fun _ s_21=>aC fun _ s_22=>aA (aF U U (op_neq aD U U U (aB (s_22 (aO U (fun c57=>?_) (fun c57=>?_)))))))))))))
    rotate_left
    ·exfalso;omega
    refine At.knowT (d:=57) U c57 (aC fun _ s_23=>aA (aG U U (aB (s_23 (aR (aJ (b9 (aJ (aJ (b9 (aJ ((dropAt6 (dropAt5 (dropAt4 (dropAt3 (cA (a7 (bP (aW (L1:= []) U (.tmp U .nil) (.refl _) aM ?_))))))))))))))))))))
    exact⟨_,rfl,.inr (.inl ⟨hg,okA_no hgi hbad2,rfl⟩),rfl⟩
   refine At.knowF (d:=48) U c48 ?_
   obtain rfl:i=l.length:=by omega
   rw [List.take_of_length_le (Nat.le_refl _)]at hy hfo ro
   refine bW (aK (aK (bH (aE (s_10 (aC fun _ s_24=>aA ?_))))))
   refine aY (ds:= [.bool true,.slice none 0 0,.slice a l.length c]) aD ag91 U B13 (by first|(rw [List.drop_zero,List.take_of_length_le (by first|(simp;done)|(simp;omega))];done)|rfl) (by first|(simp;done)|(simp;omega)) bZ U ?_
   refine aH aZ (.cons U .nil) (Fn.overJ (Ns:= [Na,NJ]) fun K hK=>Encode_ok (t:=itL (l.map HdM.it)) (x:=ivL a l.length c) (ItN_L (ra.rsl.le (hK _ (by simp))) (hy K (hK _ (by simp)))) (by omega) hfd) Tryz.func69 U U (by simp) U ?_
   rintro _ _ ⟨M77,p77,c77,rfl,rfl,r77⟩
   show At _ _ _ [M77,N13,Na,NJ,No,N4,N5,R] _
   have s77:=r77.rsl
   refine aF U U (aN aD U U U (aN aD U U U (aG U U (aG U U (aB (s_24 (aC fun _ s_25=>At.meet (fun fr_ hp_=>fr_= [(2,.slice oa l.length oc),(3,.slice ko kn kc),(4,.pointer (some ⟨b4,0,none⟩)),(5,.pointer (some ⟨b5,0,none⟩)),(14,.slice po l.length pc)]∧hp_= [No,N4,N5,R]∧(¬Head51 q h l Kf)) ?_ (fun K25_ jk_25=>?_))))))))
   rotate_left
   ·skip
    refine aC fun _ s_26=>bN (permSel1 (bN (bN (bN (bN (bN (bN (At.drawnS [N5,M77,R] [] [] [0,1,2,3,4,5,6,7,8,9,10,11,12,13,14,15,16,17,18] (by kernel_rfl) (by kernel_rfl) (.cons _ (.cons _ (.cons _ (.cons _ (.cons _ (.refl _)))))) (aL (bF U U U) U U (bG (bF U U U) se51 U U (op_gtr (bF U U U) U U U (aL (bF U U U) U U (cJ (d:=83) U (fun g83=>?_) (fun g83=>?_))))))))))))))
    ·refine cD U U U U U U U U (cD U U U U U U U U (cD U U U U U U U U (cD U U U U U U U U (op_sskipU U U U U U U U (op_sskipU U U U U U U U (cD U U U U U U U U (bO (bF U U U) U U U (aL (bF U U U) U U (cD U U U U U U U U (cD U U U U U U U U (cD U U U U U U U U (cD U U U U U U U U (cD U U U U U U U U (bO (bF U U U) U U U (At.sNil (aE (s_26 (At.condT U (aC fun _ s_27=>aA (aG U U (aB (s_27 (aR (aJ ((dropAt6 (dropAt5 (dropAt4 (dropAt3 (cA (a7 (bP (aW (L1:= []) U (.tmp U .nil) (.refl _) aM ?_)))))))))))))))))))))))))))))))))
     exact⟨_,rfl,.inr (.inr (.inl ⟨hg,⟨hok,hfo⟩,.inl (.inl (by omega)),rfl⟩)),rfl⟩
    refine aL (nxsgf U U U U U U) U U (bG (nxsgf U U U U U U) se51 U U (op_gtr (nxsgf U U U U U U) U U U (aL (nxsgf U U U U U U) U U (cJ (d:=87) U (fun g87=>?_) (fun g87=>?_)))))
    ·refine aL (nxsgf U U U U U U) U U (op_geq (nxsgf U U U U U U) U U U (bO (nxsgf U U U U U U) U U U (cB (bF U U U) U U U (aL (bF U U U) U U (cJ (d:=92) U (fun g92=>?_) (fun g92=>?_))))))
     ·refine cD U U U U U U U U (cD U U U U U U U U (cD U U U U U U U U (cD U U U U U U U U (cD U U U U U U U U (bO (bF U U U) U U U (At.sNil (aE (s_26 (At.condT U (aC fun _ s_28=>aA (aG U U (aB (s_28 (aR (aJ ((dropAt6 (dropAt5 (dropAt4 (dropAt3 (cA (a7 (bP (aW (L1:= []) U (.tmp U .nil) (.refl _) aM ?_))))))))))))))))))))))))
      exact⟨_,rfl,.inr (.inr (.inl ⟨hg,⟨hok,hfo⟩,.inl (.inr (.inl ⟨by omega,by rw [hF];omega⟩)),rfl⟩)),rfl⟩
     refine aI (nxsgf U U U U U U) fl44_2 U U (aY (ds:=u8s h.om) (nxsgf U U U U U U) ag40 U B5 (by exact oh_om hh.1 _) (by rw [cK,hh.1.om]) bZ U ?_)
     refine aL (nxsgf U U U U U U) U U (aH (Nx.agree (nxsgm U U U U U U)) (.cons U .nil) (FKec_z hKf s77 (by omega)) Tryz.func78 U U (by simp) U ?_)
     rintro _ _ ⟨rfl,rfl⟩
     show At _ _ _ [N13,Na,NJ,No,N4,N5,M77,R] _
     refine At.moreS (Lst:= [N5,M77,R]) (Lst':= [N5,M77,R]) (.refl _) (.cons _ (.cons _ (.cons _ (.cons _ (.cons _ (.refl _)))))) (op_neW8 (a:=h.om) (b:=Kf) (nxsgf U U U U U U) ae40 Tryz.underlying5 (by kernel_rfl) U U hh.1.om hKl U (cB (bF U U U) U U U (At.sNil (aE (s_26 (aO U (fun c98=>?_) (fun c98=>?_)))))))
     ·refine At.knowT (d:=98) U c98 (aC fun _ s_29=>aA (aG U U (aB (s_29 (aR (aJ ((dropAt6 (dropAt5 (dropAt4 (dropAt3 (cA (a7 (bP (aW (L1:= []) U (.tmp U .nil) (.refl _) aM ?_)))))))))))))))
      exact⟨_,rfl,.inr (.inr (.inl ⟨hg,⟨hok,hfo⟩,.inl (.inr (.inr c98)),rfl⟩)),rfl⟩
     refine At.knowF (d:=98) U c98 (aQ (dropAt6 (cA (a7 (bP (aE (jk_25 ?_ aM ⟨rfl,rfl,no51 (by omega) (by omega) hF (Classical.not_not.1 c98)⟩)))))))
     repeat first|apply bD|exact .nil|exact lkI rfl (by omega)|rfl
    refine cD U U U U U U U U (cD U U U U U U U U (cB (nxsgf U U U U U U) U U U (cB (bF U U U) U U U (aL (bF U U U) U U (aI (nxsgf U U U U U U) fl44_2 U U (aY (ds:=u8s h.om) (nxsgf U U U U U U) ag40 U B5 (by exact oh_om hh.1 _) (by rw [cK,hh.1.om]) bZ U ?_))))))
    refine aL (nxsgf U U U U U U) U U (aH (Nx.agree (nxsgm U U U U U U)) (.cons U .nil) (FKec_z hKf s77 (by omega)) Tryz.func78 U U (by simp) U ?_)
    rintro _ _ ⟨rfl,rfl⟩
    show At _ _ _ [N13,Na,NJ,No,N4,N5,M77,R] _
    refine At.moreS (Lst:= [N5,M77,R]) (Lst':= [N5,M77,R]) (.refl _) (.cons _ (.cons _ (.cons _ (.cons _ (.cons _ (.refl _)))))) (op_neW8 (a:=h.om) (b:=Kf) (nxsgf U U U U U U) ae40 Tryz.underlying5 (by kernel_rfl) U U hh.1.om hKl U (cB (bF U U U) U U U (At.sNil (aE (s_26 (aO U (fun c98=>?_) (fun c98=>?_)))))))
    ·refine At.knowT (d:=98) U c98 (aC fun _ s_30=>aA (aG U U (aB (s_30 (aR (aJ ((dropAt6 (dropAt5 (dropAt4 (dropAt3 (cA (a7 (bP (aW (L1:= []) U (.tmp U .nil) (.refl _) aM ?_)))))))))))))))
     exact⟨_,rfl,.inr (.inr (.inl ⟨hg,⟨hok,hfo⟩,.inl (.inr (.inr c98)),rfl⟩)),rfl⟩
    refine At.knowF (d:=98) U c98 (aQ (dropAt6 (cA (a7 (bP (aE (jk_25 ?_ aM ⟨rfl,rfl,no51 (by omega) (by omega) hF (Classical.not_not.1 c98)⟩)))))))
    repeat first|apply bD|exact .nil|exact lkI rfl (by omega)|rfl
   rintro _ _ ⟨rfl,rfl,h51⟩
   refine s_25 (aC fun _ s_31=>aC fun _ s_32=>aA (aF U U (bG aD se51 U U (aF U U (aB (s_32 (aT (cF (fun fr_ hp_ ms_=> ∃(j:Nat),fr_= [(2,.slice oa l.length oc),(3,.slice ko kn kc),(4,.pointer (some ⟨b4,0,none⟩)),(5,.pointer (some ⟨b5,0,none⟩)),(14,.slice po l.length pc),(99,.slice oa l.length oc),(100,.int .i64 (l.length:Int)),(101,.int .i64 (j:Int))]∧hp_= [No,N4,N5,R]∧l.length- j=ms_∧(j≤l.length)∧(∀i o,i<j→l[i]? =some o→ ¬Bad q h l ks H i o)) ?_ aM ⟨0,rfl,rfl,rfl,Nat.zero_le _,fun i o hi=>absurd hi (Nat.not_lt_zero _)⟩ ?_))))))))
   ·repeat first|apply bD|exact .nil|exact lkI rfl (by omega)|rfl
   rintro _ _ _ ⟨j,rfl,rfl,rfl,hj,hnb⟩
   refine aC fun _ s_33=>aA (op_lss aD U U U (aB (s_33 (aC fun _ s_34=>aO U (fun c102=>?_) (fun c102=>?_)))))
   ·refine At.knowT (d:=102) U c102 ?_
    have hlt:j<xs.length:=by omega
    obtain⟨⟨xo,xw⟩,hxj⟩: ∃x,xs[j]? =some x:=⟨_,List.getElem?_eq_getElem hlt⟩
    have hxin:=hxs _ (List.mem_of_getElem? hxj)
    simp only at hxin
    have hgj:l[j]? =some xo:=by rw [←hxm,List.getElem?_map,hxj];rfl
    obtain⟨hxl2,hx1⟩:=hxin.one
    have sOwn:=ro.rsl
    have hpc:=ro.2.1
    have hmj:(l.map H)[j]? =some (H xo):=by rw [List.getElem?_map,hgj];rfl
    have sTk:RSl No 32 po j pc (hashC ((l.map H).take j)):=by
     have:=ro.rsl.take (hi:=j) (m:=pc) (by omega) (by omega) (by omega)
     rwa [hs_take m32]at this
    refine aQ (aE (s_34 (aC fun _ s_35=>aT (aC fun _ s_36=>aA (aF U U (op_idxE aD se51 U U hO' (show _=(((j:Nat)):Int)from by omega) (by omega) U ?_))))))
    refine op_loadAggE (ds:=xo.cells xw) aD ag44 U hO' (by exact flat_at (fun x:HdM×Value=>x.1.cells x.2) (omC_cells hxs) hxj) (by exact hxl2) (by omega) (by simp) U ?_
    refine bE aZ ze44 U (fun N24 b24 B24=>?_)
    change Blk N24 b24 _ z44 at B24
    refine aG U U ?_
    refine aX nxQ sz44 U U U hxl2 hx1 B24 (by rw [hxl2];exact Nat.le_refl _) sel0 (fun N24 B24=>?_)
    rw [setL_whole (by rw [hxl2];rfl)]at B24
    refine aB (s_36 (aC fun _ s_37=>bI (permSel1 (bI (bI (bI (At.drawnS [No,N4,N5,N24,R] [4,12,22] [] [0,1,2,3,4,5,6,7,8,9,10,11,12,13,14,15,16,17,18,19,20,21,22,23] (by kernel_rfl) (by kernel_rfl) (.refl _) (aY (ds:=cs) (bF U U U) ag75 U B4 (by exact tk_all c1) (by exact c1) mem1 U ?_))))))))
    refine aY (ds:=h.cells hv) (bF U U U) ag44 U B5 (by exact tk_all h1) (by exact h1) mem2 U ?_
    refine aY (ds:=xo.cells xw) (bF U U U) ag44 U B24 (by exact tk_all hxl2) (by exact hxl2) mem3 U ?_
    refine aL (bF U U U) U U (aH (Nx.agree (nxss U U U U)) (.cons U (.cons U (.cons U (.cons U .nil)))) ((FBeside hc hg hh hxin hK hkn k32).liftB hNR) Tryz.func79 U U (by simp) U ?_)
    rintro _ _ ⟨q1,rfl,hb1,rfl⟩
    show At _ _ _ [No,N4,N5,N24,R] _
    refine At.anyS (.refl _) (op_not (bF U U U) U U (aL (bF U U U) U U (At.part (d:=112) U (fun g112=>?_) (fun g112=>?_))))
    ·refine cD U U U U U U U U (cD U U U U U U U U (cD U U U U U U U U (cD U U U U U U U U (cD U U U U U U U U (cD U U U U U U U U (bO (bF U U U) U U U (aL (bF U U U) U U (cD U U U U U U U U (cD U U U U U U U U (cD U U U U U U U U (cD U U U U U U U U (cD U U U U U U U U (cD U U U U U U U U (cD U U U U U U U U (cD U U U U U U U U (bO (bF U U U) U U U (At.sNil (aE (s_37 (At.condT U (aC fun _ s_38=>aA (aG U U (aB (s_38 (aR (b9 (aJ (aJ (b9 (aJ ((dropAt3 (cA (a7 (bP (aW (L1:= []) U (.tmp U .nil) (.refl _) aM ?_))))))))))))))))))))))))))))))))))))
     exact⟨_,rfl,.inr (.inr (.inl ⟨hg,⟨hok,hfo⟩,.inr ⟨j,xo,hgj,bad_1 hb1 (by simpa using g112)⟩,rfl⟩)),rfl⟩
    refine aL (nxsgf U U U U U U) U U (aL (nxsgf U U U U U U) U U (aL (nxsgf U U U U U U) U U (op_idxE (nxsgf U U U U U U) se30 U U sOwn (show _=(((j:Nat)):Int)from by omega) (by omega) U ?_)))
    refine op_loadAggE (ds:=u8s (H xo)) (nxsgf U U U U U U) ag40 U sOwn (by exact hs_at m32 hmj) (by exact hul xo) (by omega) (by simp) U ?_
    refine aH (Nx.agree (nxsgs U U U U U U U)) (.cons U (.cons U .nil)) ((FContains hK hkn k32 (h32 xo)).liftB hNR) Tryz.func80 U U (by simp) U ?_
    rintro _ _ ⟨q2,rfl,hb2,rfl⟩
    show At _ _ _ [No,N4,N5,N24,R] _
    refine At.anyS (.refl _) (cB (bF U U U) U U U (aL (bF U U U) U U (At.part (d:=120) U (fun g120=>?_) (fun g120=>?_))))
    ·refine cD U U U U U U U U (cD U U U U U U U U (cD U U U U U U U U (cD U U U U U U U U (cD U U U U U U U U (cD U U U U U U U U (cD U U U U U U U U (cD U U U U U U U U (bO (bF U U U) U U U (At.sNil (aE (s_37 (At.condT U (aC fun _ s_39=>aA (aG U U (aB (s_39 (aR (b9 (aJ (aJ (b9 (aJ ((dropAt3 (cA (a7 (bP (aW (L1:= []) U (.tmp U .nil) (.refl _) aM ?_))))))))))))))))))))))))))))
     exact⟨_,rfl,.inr (.inr (.inl ⟨hg,⟨hok,hfo⟩,.inr ⟨j,xo,hgj,.inr (.inl (hb2.1 (by simpa using g120)))⟩,rfl⟩)),rfl⟩
    refine aL (nxsgf U U U U U U) U U (aL (nxsgf U U U U U U) U U (op_slice0 (nxsgf U U U U U U) se30 U (.some U (show _=(((j:Nat)):Int)from by omega)) .none (by omega) (by omega) (by simp) U ?_))
    refine aL (nxsgf U U U U U U) U U (aL (nxsgf U U U U U U) U U (op_idxE (nxsgf U U U U U U) se30 U U sOwn (show _=(((j:Nat)):Int)from by omega) (by omega) U ?_))
    refine op_loadAggE (ds:=u8s (H xo)) (nxsgf U U U U U U) ag40 U sOwn (by exact hs_at m32 hmj) (by exact hul xo) (by omega) (by simp) U ?_
    refine aH (Nx.agree (nxsgs U U U U U U U)) (.cons U (.cons U .nil)) (FContains sTk (by rw [List.length_take,List.length_map];omega) (fun y hy=>m32 y (List.mem_of_mem_take hy)) (h32 xo)) Tryz.func80 U U (by simp) U ?_
    rintro _ _ ⟨q3,rfl,hb3,rfl⟩
    show At _ _ _ [No,N4,N5,N24,R] _
    refine At.anyS (.refl _) (cB (bF U U U) U U U (At.sNil (aE (s_37 (At.condB U (fun c129=>?_) (fun c129=>?_))))))
    ·refine At.knowBT (d:=129) U c129 (aC fun _ s_40=>aA (aG U U (aB (s_40 (aR (b9 (aJ (aJ (b9 (aJ ((dropAt3 (cA (a7 (bP (aW (L1:= []) U (.tmp U .nil) (.refl _) aM ?_))))))))))))))))
     exact⟨_,rfl,.inr (.inr (.inl ⟨hg,⟨hok,hfo⟩,.inr ⟨j,xo,hgj,.inr (.inr (hb3.1 (by simpa using c129)))⟩,rfl⟩)),rfl⟩
    refine At.knowBF (d:=129) U c129 (aQ (a0 (aE (s_35 (aA (a6 aD U U (by omega) (by omega) U (aF U U (aB (dropAt3 (bQ ?_ aM ⟨j+1,rfl,rfl,rfl,by omega,nb_next hnb hgj (bad_no hb1 hb2 hb3 (by simpa using g112) (by simpa using g120) (by simpa using c129))⟩ ?_))))))))))
    ·repeat first|apply bD|exact .nil|exact lkI rfl (by omega)|rfl
    ·omega
   refine At.knowF (d:=102) U c102 (bW (aK (aK (bH (aE (s_31 (aC fun _ s_41=>aA (aG U U (aB (s_41 (aR ((cA (a7 (bP (aW (L1:= []) U (.tmp U .nil) (.refl _) aM ?_))))))))))))))))
   exact⟨_,rfl,.inr (.inr (.inr ⟨hg,⟨hok,hfo⟩,h51,nb_all hnb (by omega),rfl⟩)),rfl⟩
  show At _ _ _ [N5,N4,R] _
  refine aF U U (aN aD U U U (aN aD U U U (bE aZ ze40 U (fun N11 b11 B11=>?_))))
  change Blk N11 b11 _ [.int .u8 0,.int .u8 0,.int .u8 0,.int .u8 0,.int .u8 0,.int .u8 0,.int .u8 0,.int .u8 0,.int .u8 0,.int .u8 0,.int .u8 0,.int .u8 0,.int .u8 0,.int .u8 0,.int .u8 0,.int .u8 0,.int .u8 0,.int .u8 0,.int .u8 0,.int .u8 0,.int .u8 0,.int .u8 0,.int .u8 0,.int .u8 0,.int .u8 0,.int .u8 0,.int .u8 0,.int .u8 0,.int .u8 0,.int .u8 0,.int .u8 0,.int .u8 0]at B11
  refine aX nxQ sz40 U U U (by first|exact hul h|exact ly) (by first|(rw [List.all_eq_true];exact one_u8s _)|exact oy) B11 (by first|(rw [hul h];exact Nat.le_refl _)|(rw [ly];exact Nat.le_refl _)) sel0 (fun N11 B11=>?_)
  first|rw [setL_whole (by rw [hul h];rfl)]at B11|rw [setL_whole (by rw [ly];rfl)]at B11
  refine aG U U (aB (s_6 (aC fun _ s_42=>aA (aF U U (op_neq aD U U U (aB (s_42 (aO U (fun c43=>?_) (fun c43=>?_)))))))))
  rotate_left
  ·exfalso;omega
  refine At.knowT (d:=43) U c43 (aC fun _ s_43=>aA (aG U U (aB (s_43 (aR (aJ ((cA (a7 (bP (aW (L1:= []) U (.tmp U .nil) (.refl _) aM ?_)))))))))))
  exact⟨_,rfl,.inr (.inl ⟨hg,fun k=>hbad k.1,rfl⟩),rfl⟩
 show At _ _ _ [N5,N4,R] _
 refine aF U U (aN aD U U U (aN aD U U U (aG U U (aG U U (aB (s_2 (aC fun _ s_44=>aC fun _ s_45=>aA (aF U U (op_neq aD U U U (aB (s_45 (aO U (fun c35=>?_) (fun c35=>?_)))))))))))))
 rotate_left
 ·exfalso;omega
 refine At.knowT (d:=35) U c35 (aC fun _ s_46=>aA (aF U U (aG U U (aB (s_46 (aR (aJ ((a7 (bP (aW (L1:= []) U (.tmp U .nil) (.refl _) aM ?_)))))))))))
 exact⟨_,rfl,.inl ⟨hng,rfl⟩,rfl⟩
end
end Go.Proofs.YtjfagifjajielaaGreat
