/- Several texts in one: see the remarks ahead of each part. No condition but those told there. -/
import Derived.Test.YtljacjjeinmfnaaU20
import Derived.Test.YtljacjjeinmfnaaU12
import Derived.Test.YtljacjjeinmfnaaU11
import Derived.Test.YtljacjjeinmfnaaU13
set_option linter.unusedSimpArgs false
set_option linter.unusedVariables false
/- Layer 14: a transaction in new memory, cut. No condition. -/
namespace Go.Proofs.Ytljacjjeinmfnaa
open Go Go.RowKit
set_option maxRecDepth 100000
def AccM.cut (g:AccM):AccM:=⟨g.addr,g.keys.take 12⟩
def cutA (gs:List AccM):List AccM:=(gs.take 12).map AccM.cut
/-- A transaction, cut. -/
def cutM (m:TxM):TxM:= { m with da:=m.da.take 800,ac:=cutA m.ac,bb:=m.bb.take 12 }
theorem cut_ok {m:TxM} (h:m.Ok):(cutM m).Ok:=⟨h.ch,h.nn,h.pr,h.tp,h.ga,h.to,h.va,h.bf,fun x hx=>h.bb x (List.mem_of_mem_take hx),h.r,h.s⟩
theorem cutA_next {gs:List AccM} {i:Nat} {g:AccM} (h:gs[i]? =some g):((gs.take (i+1)).map AccM.cut)=(gs.take i).map AccM.cut++ [g.cut]:=by rw [take_next2 h,List.map_append];rfl
section
variable {m : TxM} {d a b v : Value}
theorem st_d (h:m.Ok):setL (m.cells d a b) (0+37) [v]=m.cells v a b:=tx_d h.to
theorem st_a (h:m.Ok):setL (m.cells d a b) (0+38) [v]=m.cells d v b:=tx_a h.to
theorem st_b (h:m.Ok):setL (m.cells d a b) (0+43) [v]=m.cells d a v:=tx_b h.to
end
theorem acc_addr {xs:List AV} {x:AV} {i:Nat} (hx:xs[i]? =some x) (hc: ∀y∈xs,y.cells.length=21) (ha:x.addr.length=20):((accC xs).drop (i*21+0)).take 20=u8s x.addr:=by
 have h:=flat_at AV.cells hc hx
 have:=congrArg (List.take 20) h
 rw [List.take_take,show min 20 21=20 from rfl]at this
 rw [Nat.add_zero,accC,this,AV.cells,List.take_left' (by rw [bN,ha])]
theorem acc_fld {xs:List AV} {x:AV} {i o:Nat} {v:Value} (hx:xs[i]? =some x) (hc: ∀y∈xs,y.cells.length=21) (ho:o<21) (hv:x.cells[o]? =some v):(accC xs)[i*21+o]? =some v:=by
 have h:=flat_at AV.cells hc hx
 have:=congrArg (fun l=>l[o]?) h
 simp only [List.getElem?_take,List.getElem?_drop,if_pos ho]at this
 rw [accC,this,hv]
section
variable {N : Heaplet} {m : TxM} {d a b : Value}
set_option maxHeartbeats 4000000 in
theorem FTwin_b (h:m.Ok) (hT:TxR N m d a b):Fn Try.prog 22 #[.agg (m.cells d a b).toArray] [] [N] (fun v L=> ∃J d a b,v=.agg ((cutM m).cells d a b).toArray∧L= [J]∧TxR J (cutM m) d a b):=by
 have hln:=fun d a b=>TxM.cells_len (m:=m) h d a b
 obtain⟨da,dc,aa,cc,ba,bc,axs,rfl,hd,rfl,ha,hacc,rfl,hb⟩:=hT
 have hac:=ha.2.1
 have ham:=ha.2.2.1
 unfold maxLen at ham
 refine Fn.enter (vs:= [.agg (m.cells (.slice da m.da.length dc) (.slice aa m.ac.length cc) (.slice ba m.bb.length bc)).toArray]) Try.func22 rfl rfl rfl ?_
 intro E R hR
 have hNR:=hR N (by simp)
 have ha':=ha.le hNR
 have hacc':=hacc.le hNR
 change At _ _ E [R] _
 refine At.seq fun _ s_1=>At.region (op_box (aV rfl) rfl rfl rfl (fun N1 b1 B1=>aU (aV rfl) ze58 rfl (fun N2 b2 B2=>?_)))
 change Blk N2 b2 _ z58 at B2
 refine aA (aB (s_1 (At.seq fun _ s_2=>At.region (aF (aC rfl) fl58_9 rfl rfl (aH (aC rfl) sc27 rfl B1 (gx_d h) bC rfl (aR (aV rfl) (.cons rfl (.cons rfl .nil)) ((KTwin_f hd 800 800 rfl (by decide)).liftB hNR) Try.func8 rfl rfl (by simp) rfl ?_))))))
 rintro v7 L7 ⟨N7,a7,c7,rfl,rfl,r7⟩
 change At _ _ _ [N7,N2,N1,R] _
 refine aF (aC rfl) fl58_9 rfl rfl ?_
 refine aG (nxl rfl) sz27 rfl rfl rfl rfl rfl B1 (by rw [hln];exact show 0+37+1≤53 by decide) aX (fun N1 B1=>?_)
 rw [st_d h]at B1
 refine aA (aB (s_2 (At.seq fun _ s_3=>At.region (aE (aC rfl) rfl rfl (aA (aB (s_3 (At.seq fun _ s_4=>At.seq fun _ s_5=>At.region (aE (aC rfl) rfl rfl (aA (aB (s_5 (At.block (At.empty (At.empty (At.perm bL (At.perm bJ (At.perm bL (At.perm bL (At.perm bJ ?_))))))))))))))))))))
 refine At.perm bL (At.loop (fun fr_ hp_ ms_=> ∃(i k:Nat) (q:Option Addr) (c:Nat) (ys:List AV) (Na NJ:Heaplet),fr_= [(1,.pointer (some ⟨b1,0,none⟩)),(2,.pointer (some ⟨b2,0,none⟩)),(3,.slice q k c),(4,.int .i64 (i:Int))]∧hp_= [Na,NJ,N1,N2,N7,R]∧m.ac.length- i=ms_∧(i≤m.ac.length)∧(i≤12)∧(k=i)∧(Row Na 109 21 q k c (accC ys))∧(AccsN NJ ((m.ac.take i).map AccM.cut) ys)) ?_ (.refl _) ⟨0,0,none,0,[],nilH,nilH,rfl,rfl,rfl,Nat.zero_le _,Nat.zero_le _,rfl,Row.nil _ _ _,AccsN.nil⟩ ?_)
 ·exact .cons (by first|exact bE rfl (by omega)|rfl) (.cons (by first|exact bE rfl (by omega)|rfl) (.cons (by first|exact bE rfl (by omega)|rfl) (.cons (by first|exact bE rfl (by omega)|rfl) .nil)))
 rintro _ _ _ ⟨i,k,q,c,ys,Na,NJ,rfl,rfl,rfl,hi,hi12,hki,ra,hy⟩
 refine At.seq fun _ s_6=>At.seq fun _ s_7=>At.region (aD (aC rfl) rfl rfl (aF (aC rfl) fl58_10 rfl rfl (aH (aC rfl) sc56 rfl B1 (gx_a h) bV rfl (bP (aC rfl) se56 rfl rfl (op_lss (aC rfl) rfl rfl rfl (aD (aC rfl) rfl rfl (bU (d:=14) rfl (fun g14=>?_) (fun g14=>?_))))))))
 ·refine aD (aS rfl rfl rfl rfl) rfl rfl (op_lss (aS rfl rfl rfl rfl) rfl rfl rfl (bW (aC rfl) rfl rfl rfl (aA (aB (s_7 (aP rfl (fun c17=>?_) (fun c17=>?_)))))))
  ·refine At.knowT (d:=17) rfl c17 ?_
   have hlt:i<m.ac.length:=by omega
   obtain⟨g,x,hgi,hxi,hgx⟩:=hacc'.at hlt
   have hxa:x.addr.length=20:=by rw [hgx.1];exact hgx.2.1
   have hth:=hgx.2.2.2.2
   have htop:=hgx.2.2.2.1
   have hfl1:=acc_fld (o:=20) hxi hacc.cells (by decide) (show x.cells[20]? =some (.slice x.ka x.kn x.kc)from AV.key_at hxa)
   have hsome:aa.isSome=true:=by
    obtain⟨bA,oA,hao,_⟩:=ha.2.2.2 (by omega)
    rw [hao];rfl
   have hxu:(u8s x.addr).length=20:=by rw [bN,hxa]
   refine At.skip (aB (s_6 (At.seq fun _ s_8=>At.block (At.perm bL (At.perm aW (At.perm bL (At.perm bL (At.perm bL (At.perm bL (At.drawnS [N1,R] [15,16] [0,3] [0,1,2,3,4,5,6,7,8,9,10,11,12,13,14,15,16,17] (by kernel_rfl) (by kernel_rfl) (.cons _ (.cons _ (.cons _ (.cons _ (.refl _))))) (aD (bK rfl rfl rfl) rfl rfl (aF (bK rfl rfl rfl) fl58_10 rfl rfl (aH (bK rfl rfl rfl) sc56 rfl B1 (gx_a h) aN rfl (aD (bK rfl rfl rfl) rfl rfl (op_idxE (bK rfl rfl rfl) se56 rfl rfl ha' (show _=(((i:Nat)):Int)from by omega) (by omega) rfl ?_)))))))))))))))
   refine op_fieldAddrE (bK rfl rfl rfl) fl109_0 rfl (by first|rfl|assumption) rfl ?_
   refine op_loadAggE (ds:=u8s x.addr) (bK rfl rfl rfl) ag23 rfl ha' (by exact acc_addr hxi hacc.cells hxa) (by exact hxu) (by omega) (by first|exact aN|exact bC|exact bV|exact mem3|exact mem4|exact mem5|exact mem6|exact mem7|exact mem8|exact mem9) rfl ?_
   refine aF (bK rfl rfl rfl) fl58_10 rfl rfl (aH (bK rfl rfl rfl) sc56 rfl B1 (gx_a h) aN rfl (aD (bK rfl rfl rfl) rfl rfl (op_idxE (bK rfl rfl rfl) se56 rfl rfl ha' (show _=(((i:Nat)):Int)from by omega) (by omega) rfl ?_)))
   refine op_fieldAddrE (bK rfl rfl rfl) fl109_1 rfl (by first|rfl|assumption) rfl ?_
   refine bS (bK rfl rfl rfl) sc41 rfl ha' (by first|exact get8 (by omega)|exact get64 (by omega)|exact get32 (by omega)|exact hfl1) (by first|exact aN|exact bC|exact bV|exact mem3|exact mem4|exact mem5|exact mem6|exact mem7|exact mem8|exact mem9) rfl ?_
   refine aR (Nx.agree (nxsm rfl rfl rfl)) (.cons rfl .nil) (FKeys_b htop hth) Try.func48 rfl rfl (by simp) rfl ?_
   rintro v33 L33 ⟨N33,a33,c33,rfl,rfl,s33⟩
   change At _ _ _ [N33,Na,NJ,N2,N7,N1,R] _
   refine At.moreS (Lst:= [N1,R]) (Lst':= [N1,R]) (.refl _) (.cons _ (.cons _ (.cons _ (.cons _ (.cons _ (.refl _)))))) (op_build (out:=AV.cells ⟨x.addr,a33,(g.keys.take 12).length,c33⟩) (bK rfl rfl rfl) ze109 pl109 (.cons rfl (.cons rfl .nil)) (fill_acc hxa _ _ _ _ rfl) rfl ?_)
   refine op_lit (Nx.agree (nxss rfl rfl rfl rfl)) Try.underlying56 ze109 sz109 (.cons rfl .nil) rfl rfl (by(intro p hp;rw [List.mem_singleton.1 hp];exact AV.cells_len (x:=⟨x.addr,a33,(g.keys.take 12).length,c33⟩) hxa)) rfl rfl rfl (fun N35 a35 r35=>?_)
   simp only [flatV,List.flatMap_cons,List.flatMap_nil,Value.cells,List.append_nil,List.cons_append,List.nil_append]at r35
   have s35:=r35.rsl
   refine At.anyS (.refl _) ?_
   have s35:RSl N35 21 a35 1 1 (accC [⟨x.addr,a33,(g.keys.take 12).length,c33⟩]):=by
    have:=r35.rsl
    simp only [accC,List.flatMap_cons,List.flatMap_nil,List.append_nil]
    exact this
   refine op_append (nxss rfl rfl rfl rfl) Try.underlying56 Try.underlying56 te109 rfl rfl ra s35 (by first|exact aN|exact bC|exact bV|exact mem3|exact mem4|exact mem5|exact mem6|exact mem7|exact mem8|exact mem9) (accC_one _) (by omega) (by omega) aX rfl (fun N36 a36 p36 r36=>?_)
   have s36:=r36.rsl
   refine At.anyS (.refl _) ?_
   rw [accC,accC, ←List.flatMap_append]at r36
   change Row N36 _ 21 a36 (k+1) p36 (accC (ys++ [⟨x.addr,a33,(g.keys.take 12).length,c33⟩]))at r36
   refine aE (bK rfl rfl rfl) rfl rfl (At.sNil (bB (aB (s_8 (At.region (aD (aC rfl) rfl rfl (bI (aC rfl) rfl rfl (by omega) (by omega) rfl (aE (aC rfl) rfl rfl (aA (aB (At.perm sel7 (At.perm sel7 (At.perm sel7 (At.perm sel7 (At.perm bL (At.perm bL (At.perm bR (At.perm sel7 (At.mergeN (fun J J1 J2=>At.sub (L':= [J,N36,N2,N7,N1,R]) (.cons_cons _ (.cons_cons _ (.cons _ (.cons_cons _ (.cons_cons _ (.cons_cons _ (.cons_cons _ (.slnil)))))))) (At.perm bL ?_)))))))))))))))))))))
   refine At.perm bJ (At.perm bJ (At.perm bL (At.perm bJ (At.perm bL ?_))))
   refine At.back ?_ (.refl _) ⟨i+1,k+1,a36,p36,ys++ [⟨x.addr,a33,(g.keys.take 12).length,c33⟩],N36,J,rfl,rfl,rfl,by omega,by omega,by omega,r36,by rw [cutA_next hgi];exact(hy.le J1).snoc ⟨hgx.1,hgx.2.1,rfl,s33.le J2,fun t ht=>hth t (List.mem_of_mem_take ht)⟩⟩ ?_
   ·exact .cons (by first|exact bE rfl (by omega)|rfl) (.cons (by first|exact bE rfl (by omega)|rfl) (.cons (by first|exact bE rfl (by omega)|rfl) (.cons (by first|exact bE rfl (by omega)|rfl) .nil)))
   ·omega
  refine At.knowF (d:=17) rfl c17 (At.exit (aO (aO (At.inHit (aB (s_4 (At.seq fun _ s_9=>At.region (aD (aC rfl) rfl rfl (aF (aC rfl) fl58_10 rfl rfl ?_)))))))))
  refine aG (nxl rfl) sz56 rfl rfl rfl rfl rfl B1 (by rw [hln];exact show 0+38+1≤53 by decide) aX (fun N1 B1=>?_)
  rw [st_a h]at B1
  refine aA (aB (s_9 (At.seq fun _ s_10=>At.region (aF (aC rfl) fl58_12 rfl rfl (aH (aC rfl) sc41 rfl B1 (gx_b h) aN rfl (aR (aV rfl) (.cons rfl .nil) ((FKeys_b hb h.bb).liftB hNR) Try.func48 rfl rfl (by simp) rfl ?_))))))
  rintro v41 L41 ⟨N41,a41,c41,rfl,rfl,s41⟩
  change At _ _ _ [N41,N1,Na,NJ,N2,N7,R] _
  refine aF (aC rfl) fl58_12 rfl rfl ?_
  refine aG (nxl rfl) sz41 rfl rfl rfl rfl rfl B1 (by rw [hln];exact show 0+43+1≤53 by decide) bZ (fun N1 B1=>?_)
  rw [st_b h]at B1
  refine aA (aB (s_10 (At.seq fun _ s_11=>At.region (aL (ds:=_) (aC rfl) ag58 rfl B1 (by exact tk_all (hln _ _ _)) (by exact hln _ _ _) aN rfl ?_))))
  refine aG (nxl rfl) sz58 rfl rfl rfl (hln _ _ _) (TxM.one rfl rfl rfl) B2 (by rw [hln,z58_len];exact Nat.le_refl _) bJ (fun N2 B2=>?_)
  rw [bD (by rw [hln,z58_len])]at B2
  refine aA (aB (s_11 (At.ret ((At.perm bR (At.perm bR (At.perm bJ (At.perm bJ (At.perm bJ (At.perm bR (At.perm bR (At.mergeN (fun P P1 P2=>At.perm bL (At.perm bJ (At.perm bJ (At.perm bJ (At.perm bL (At.perm bL (At.mergeN (fun Q Q1 Q2=>At.perm bJ (At.perm aW (At.perm aW ?_))))))))))))))))))))))
  refine At.perm bJ (At.perm bJ (At.mergeN (fun Z Z1 Z2=>At.sub (L':= [Z,N2,R]) (.cons_cons _ (.cons_cons _ (.cons _ (.cons_cons _ (.slnil))))) (At.perm aX (At.perm bZ (At.perm aX (aZ (L1:= [Z]) rfl (.cell rfl (bH (ds:=_) ag58 B2 (tk_all (hln _ _ _)) (hln _ _ _) aN) .nil) (.cons _ (.refl _)) (.refl _) ?_)))))))
  have hcg:(m.ac.take i).map AccM.cut=cutA m.ac:=by
   rw [cutA]
   congr 1
   rcases Nat.lt_or_ge i 12 with h1|h1
   ·rw [List.take_of_length_le (by omega),List.take_of_length_le (by omega)]
   ·rw [show i=12 by omega]
  rw [hcg]at hy
  have hkl:k=(cutA m.ac).length:=by rw [←hcg,List.length_map,List.length_take];omega
  rw [hkl]at ra⊢
  exact⟨Z,_,_,_,rfl,rfl,a7,c7,q,c,a41,c41,ys,rfl,r7.rsl.le (Heaplet.le_trans Q2 Z1),rfl,ra.rsl.le (Heaplet.le_trans P1 (Heaplet.le_trans Q1 Z1)),hy.le (Heaplet.le_trans P2 (Heaplet.le_trans Q1 Z1)),rfl,s41.le Z2⟩
 refine aJ rfl rfl rfl rfl rfl rfl rfl (aJ rfl rfl rfl rfl rfl rfl rfl (bM (aC rfl) rfl rfl rfl (aA (aB (s_7 (At.condF rfl (At.exit (aO (aO (At.inHit (aB (s_4 (At.seq fun _ s_12=>At.region (aD (aC rfl) rfl rfl (aF (aC rfl) fl58_10 rfl rfl ?_)))))))))))))))
 refine aG (nxl rfl) sz56 rfl rfl rfl rfl rfl B1 (by rw [hln];exact show 0+38+1≤53 by decide) aX (fun N1 B1=>?_)
 rw [st_a h]at B1
 refine aA (aB (s_12 (At.seq fun _ s_13=>At.region (aF (aC rfl) fl58_12 rfl rfl (aH (aC rfl) sc41 rfl B1 (gx_b h) aN rfl (aR (aV rfl) (.cons rfl .nil) ((FKeys_b hb h.bb).liftB hNR) Try.func48 rfl rfl (by simp) rfl ?_))))))
 rintro v41 L41 ⟨N41,a41,c41,rfl,rfl,s41⟩
 change At _ _ _ [N41,N1,Na,NJ,N2,N7,R] _
 refine aF (aC rfl) fl58_12 rfl rfl ?_
 refine aG (nxl rfl) sz41 rfl rfl rfl rfl rfl B1 (by rw [hln];exact show 0+43+1≤53 by decide) bZ (fun N1 B1=>?_)
 rw [st_b h]at B1
 refine aA (aB (s_13 (At.seq fun _ s_14=>At.region (aL (ds:=_) (aC rfl) ag58 rfl B1 (by exact tk_all (hln _ _ _)) (by exact hln _ _ _) aN rfl ?_))))
 refine aG (nxl rfl) sz58 rfl rfl rfl (hln _ _ _) (TxM.one rfl rfl rfl) B2 (by rw [hln,z58_len];exact Nat.le_refl _) bJ (fun N2 B2=>?_)
 rw [bD (by rw [hln,z58_len])]at B2
 refine aA (aB (s_14 (At.ret ((At.perm bR (At.perm bR (At.perm bJ (At.perm bJ (At.perm bJ (At.perm bR (At.perm bR (At.mergeN (fun P P1 P2=>At.perm bL (At.perm bJ (At.perm bJ (At.perm bJ (At.perm bL (At.perm bL (At.mergeN (fun Q Q1 Q2=>At.perm bJ (At.perm aW (At.perm aW ?_))))))))))))))))))))))
 refine At.perm bJ (At.perm bJ (At.mergeN (fun Z Z1 Z2=>At.sub (L':= [Z,N2,R]) (.cons_cons _ (.cons_cons _ (.cons _ (.cons_cons _ (.slnil))))) (At.perm aX (At.perm bZ (At.perm aX (aZ (L1:= [Z]) rfl (.cell rfl (bH (ds:=_) ag58 B2 (tk_all (hln _ _ _)) (hln _ _ _) aN) .nil) (.cons _ (.refl _)) (.refl _) ?_)))))))
 have hcg:(m.ac.take i).map AccM.cut=cutA m.ac:=by
  rw [cutA]
  congr 1
  rcases Nat.lt_or_ge i 12 with h1|h1
  ·rw [List.take_of_length_le (by omega),List.take_of_length_le (by omega)]
  ·rw [show i=12 by omega]
 rw [hcg]at hy
 have hkl:k=(cutA m.ac).length:=by rw [←hcg,List.length_map,List.length_take];omega
 rw [hkl]at ra⊢
 exact⟨Z,_,_,_,rfl,rfl,a7,c7,q,c,a41,c41,ys,rfl,r7.rsl.le (Heaplet.le_trans Q2 Z1),rfl,ra.rsl.le (Heaplet.le_trans P1 (Heaplet.le_trans Q1 Z1)),hy.le (Heaplet.le_trans P2 (Heaplet.le_trans Q1 Z1)),rfl,s41.le Z2⟩
end
end Go.Proofs.Ytljacjjeinmfnaa
/- quarrylaw14.BookBloom answers true. No condition. -/
namespace Go.Proofs.Ytljacjjeinmfnaa
open Go Go.RowKit
set_option maxRecDepth 100000
section
variable {N M : Heaplet} {ao bo : Option Addr} {n cap m cbp : Nat} {gs gt : List LogM} {xs xt : List LV}
end
end Go.Proofs.Ytljacjjeinmfnaa
/- quarrylaw14.BookReceipt answers true. No condition. -/
namespace Go.Proofs.Ytljacjjeinmfnaa
open Go Go.RowKit
set_option maxRecDepth 100000
section
variable {k : Int} {rv lv : Value} {ok : Bool} {gas : UInt64} {bl : List UInt8}
end
theorem u8s_ints (l:List UInt8):(u8s l).all isInt=true:=by
 refine List.all_eq_true.2 fun u hu=>?_
 obtain⟨x,_,rfl⟩:=List.mem_map.1 hu
 rfl
theorem LogM.cut_cut (g:LogM):g.cut.cut=g.cut:=by simp [LogM.cut,List.take_take]
section
variable {N M : Heaplet} {k : Int} {ra la : Option Addr} {rn rc ln lc : Nat} {root bl : List UInt8} {ok : Bool} {gas : UInt64} {gs : List LogM} {xs : List LV} {i v m : UInt64} {a : List UInt8}
end
end Go.Proofs.Ytljacjjeinmfnaa
/- Layer 14: two transactions that are the same are told to be. No condition. -/
namespace Go.Proofs.Ytljacjjeinmfnaa
open Go Go.RowKit
set_option maxRecDepth 100000
theorem okB_ne8 {P:Program} {l:List (Nat×Value)} {t t':TypeId} {x y:Operand} {a b:List UInt8} (hx:ev l x=some (.agg (u8s a).toArray)) (hy:ev l y=some (.agg (u8s b).toArray)) (hg:(!P.eqGuardType P.depth t&&intsB P t)=true):okB P l (.binOp .neq t x y t')=true:=by
 rw [Bool.and_eq_true]at hg
 simp [okB,Op.operands,floatOK,hx,hy,hg.1,hg.2,u8s_ints]
theorem hash_at {hs:List (List UInt8)} {x:List UInt8} {i:Nat} (hx:hs[i]? =some x) (hc: ∀y∈hs,y.length=32):((hashC hs).drop (i*32)).take 32=u8s x:=flat_at u8s (fun y hy=>by rw [bN];exact hc y hy) hx
section
variable {N M : Heaplet} {hs : List (List UInt8)} {a a' : Option Addr} {n c c' : Nat}
theorem FSameKeys_b (h:RSl N 32 a n c (hashC hs)) (h':RSl M 32 a' n c' (hashC hs)) (h32: ∀x∈hs,x.length=32):Fn Try.prog 62 #[.slice a n c,.slice a' n c'] [] [N,M] (fun v L=>v=.bool true∧L= []):=by
 have hl:=h.1
 rw [hashC_len h32]at hl
 have hn:n=hs.length:=by omega
 have hc:=h.2.1
 have hm:=h.2.2.1
 unfold maxLen at hm
 refine Fn.enter (vs:= [.slice a n c,.slice a' n c']) Try.func62 rfl rfl rfl ?_
 intro E R hR
 have h:=h.le (hR N (by simp))
 have h':=h'.le (hR M (by simp))
 change At _ _ E [R] _
 refine At.seq fun _ s_1=>At.region (aE (aC rfl) rfl rfl (aA (aB (s_1 (At.seq fun _ s_2=>At.seq fun _ s_3=>At.region (aD (aC rfl) rfl rfl (bP (aC rfl) se41 rfl rfl (aD (aC rfl) rfl rfl (bP (aC rfl) se41 rfl rfl (op_neq (aC rfl) rfl rfl rfl (aA (aB (s_3 (aP rfl (fun c10=>?_) (fun c10=>?_)))))))))))))))
 ·exact absurd rfl c10
 refine At.knowF (d:=10) rfl c10 (At.skip (aB (s_2 (At.seq fun _ s_4=>At.seq fun _ s_5=>At.region (aE (aC rfl) rfl rfl (aA (aB (s_5 (At.block (At.loop (fun fr_ hp_ ms_=> ∃(i:Nat),fr_= [(0,.slice a n c),(1,.slice a' n c'),(5,.int .i64 (i:Int))]∧hp_= [R]∧n- i=ms_∧(i≤n)) ?_ (.refl _) ⟨0,rfl,rfl,rfl,Nat.zero_le _⟩ ?_))))))))))
 ·exact .cons (by first|exact bE rfl (by omega)|rfl) (.cons (by first|exact bE rfl (by omega)|rfl) (.cons (by first|exact bE rfl (by omega)|rfl) .nil))
 rintro _ _ _ ⟨i,rfl,rfl,rfl,hi⟩
 refine At.seq fun _ s_6=>At.seq fun _ s_7=>At.region (aD (aC rfl) rfl rfl (aD (aC rfl) rfl rfl (bP (aC rfl) se41 rfl rfl (op_lss (aC rfl) rfl rfl rfl (aA (aB (s_7 (aP rfl (fun c14=>?_) (fun c14=>?_)))))))))
 ·refine At.knowT (d:=14) rfl c14 ?_
  obtain⟨x,hxi⟩: ∃x,hs[i]? =some x:=⟨_,List.getElem?_eq_getElem (by omega)⟩
  have hx:=h32 x (List.mem_of_getElem? hxi)
  have hxu:(u8s x).length=32:=by rw [bN,hx]
  refine At.skip (aB (s_6 (At.seq fun _ s_8=>At.block (At.seq fun _ s_9=>At.drawn [] [0,1,2,3,4,5,6,7,8] (by kernel_rfl) (by kernel_rfl) (aD (aY rfl rfl rfl (by kernel_rfl)) rfl rfl (aD (aY rfl rfl rfl (by kernel_rfl)) rfl rfl (op_idxE (aY rfl rfl rfl (by kernel_rfl)) se41 rfl rfl h (show _=(((i:Nat)):Int)from by omega) (by omega) rfl ?_)))))))
  refine op_loadAggE (ds:=u8s x) (aY rfl rfl rfl (by kernel_rfl)) ag73 rfl h (by exact hash_at hxi h32) (by exact hxu) (by omega) (by first|exact aN|exact bC|exact bV|exact mem3|exact mem4|exact mem5|exact mem6|exact mem7|exact mem8|exact mem9) rfl ?_
  refine aD (aY rfl rfl rfl (by kernel_rfl)) rfl rfl (aD (aY rfl rfl rfl (by kernel_rfl)) rfl rfl (op_idxE (aY rfl rfl rfl (by kernel_rfl)) se41 rfl rfl h' (show _=(((i:Nat)):Int)from by omega) (by omega) rfl ?_))
  refine op_loadAggE (ds:=u8s x) (aY rfl rfl rfl (by kernel_rfl)) ag73 rfl h' (by exact hash_at hxi h32) (by exact hxu) (by omega) (by first|exact aN|exact bC|exact bV|exact mem3|exact mem4|exact mem5|exact mem6|exact mem7|exact mem8|exact mem9) rfl ?_
  refine op_neW8 (a:=x) (b:=x) (aY rfl rfl rfl (by exact okB_ne8 rfl rfl (by kernel_rfl))) ae73 Try.underlying5 (by kernel_rfl) rfl rfl hx hx rfl ?_
  refine At.oneNil (aB (s_9 (aP rfl (fun c25=>?_) (fun c25=>?_))))
  ·exact absurd rfl c25
  refine At.knowF (d:=25) rfl c25 (At.skip (bB (aB (s_8 (At.region (aD (aC rfl) rfl rfl (bI (aC rfl) rfl rfl (by omega) (by omega) rfl (aE (aC rfl) rfl rfl (aA (aB (At.back ?_ (.refl _) ⟨i+1,rfl,rfl,rfl,by omega⟩ ?_)))))))))))
  ·exact .cons (by first|exact bE rfl (by omega)|rfl) (.cons (by first|exact bE rfl (by omega)|rfl) (.cons (by first|exact bE rfl (by omega)|rfl) .nil))
  ·omega
 refine At.knowF (d:=14) rfl c14 (At.exit (aO (aO (At.inHit (aB (s_4 (At.seq fun _ s_10=>At.region (aE (aC rfl) rfl rfl (aA (aB (s_10 (At.ret ((aZ (L1:= []) rfl (.tmp rfl .nil) (.refl _) (.refl _) ?_))))))))))))))
 exact⟨rfl,rfl⟩
end
section
variable {N M : Heaplet} {m : TxM} {d a b d' a' b' : Value}
set_option maxHeartbeats 8000000 in
theorem FSame_b (h:m.Ok) (hT:TxR N m d a b) (hU:TxR M m d' a' b'):Fn Try.prog 26 #[.agg (m.cells d a b).toArray,.agg (m.cells d' a' b').toArray] [] [N,M] (fun v L=>v=.bool true∧L= []):=by
 have hln:=fun d a b=>TxM.cells_len (m:=m) h d a b
 obtain⟨da,dc,aa,cc,ba,bc,axs,rfl,hd,rfl,ha,hacc,rfl,hb⟩:=hT
 obtain⟨ea,ec,fa,fc,ga,gc,ays,rfl,hd',rfl,ha',hacc',rfl,hb'⟩:=hU
 have hac:=ha.2.1
 have ham:=ha.2.2.1
 unfold maxLen at ham
 refine Fn.enter (vs:= [.agg (m.cells (.slice da m.da.length dc) (.slice aa m.ac.length cc) (.slice ba m.bb.length bc)).toArray,.agg (m.cells (.slice ea m.da.length ec) (.slice fa m.ac.length fc) (.slice ga m.bb.length gc)).toArray]) Try.func26 rfl rfl rfl ?_
 intro E R hR
 have hd:=hd.le (hR N (by simp))
 have hd':=hd'.le (hR M (by simp))
 have ha:=ha.le (hR N (by simp))
 have ha':=ha'.le (hR M (by simp))
 have hb:=hb.le (hR N (by simp))
 have hb':=hb'.le (hR M (by simp))
 have hacR:=hacc.le (hR N (by simp))
 have hacR':=hacc'.le (hR M (by simp))
 change At _ _ E [R] _
 refine At.seq fun _ s_1=>At.region (op_box (aV rfl) rfl rfl rfl (fun N2 b2 B2=>op_box (aV rfl) rfl rfl rfl (fun N3 b3 B3=>aE (aC rfl) rfl rfl (aA (aB (s_1 (At.seq fun _ s_2=>At.seq fun _ s_3=>At.region (aF (aC rfl) fl58_0 rfl rfl (aH (aC rfl) sc3 rfl B2 (gx_ki h) bC rfl (aF (aC rfl) fl58_0 rfl rfl (aH (aC rfl) sc3 rfl B3 (gx_ki h) aN rfl (op_neq (aC rfl) rfl rfl rfl (aD (aC rfl) rfl rfl (bU (d:=11) rfl (fun g11=>?_) (fun g11=>?_)))))))))))))))
 ·exact absurd rfl g11
 refine aF (aS rfl rfl rfl rfl) fl58_1 rfl rfl (aH (aS rfl rfl rfl rfl) sc24 rfl B2 (gx_ch h) bC rfl (aF (aS rfl rfl rfl rfl) fl58_1 rfl rfl (aH (aS rfl rfl rfl rfl) sc24 rfl B3 (gx_ch h) aN rfl (op_neq (aS rfl rfl rfl rfl) rfl rfl rfl (bM (aC rfl) rfl rfl rfl (aD (aC rfl) rfl rfl (bU (d:=18) rfl (fun g18=>?_) (fun g18=>?_))))))))
 ·exact absurd rfl g18
 refine aF (aS rfl rfl rfl rfl) fl58_2 rfl rfl (aH (aS rfl rfl rfl rfl) sc24 rfl B2 (gx_nn h) bC rfl (aF (aS rfl rfl rfl rfl) fl58_2 rfl rfl (aH (aS rfl rfl rfl rfl) sc24 rfl B3 (gx_nn h) aN rfl (op_neq (aS rfl rfl rfl rfl) rfl rfl rfl (bM (aC rfl) rfl rfl rfl (aD (aC rfl) rfl rfl (bU (d:=25) rfl (fun g25=>?_) (fun g25=>?_))))))))
 ·exact absurd rfl g25
 refine aF (aS rfl rfl rfl rfl) fl58_3 rfl rfl (aL (ds:=u64s (wl m.pr)) (aS rfl rfl rfl rfl) ag26 rfl B2 (by exact gx_pr h) (by exact len_w4 _) bC rfl ?_)
 refine aF (aS rfl rfl rfl rfl) fl58_3 rfl rfl (aL (ds:=u64s (wl m.pr)) (aS rfl rfl rfl rfl) ag26 rfl B3 (by exact gx_pr h) (by exact len_w4 _) aN rfl ?_)
 refine op_neW (a:=wl m.pr) (b:=wl m.pr) (aS rfl rfl rfl rfl) ae26 Try.underlying24 (by kernel_rfl) rfl rfl rfl rfl rfl (bM (aC rfl) rfl rfl rfl (aD (aC rfl) rfl rfl (bU (d:=32) rfl (fun g32=>?_) (fun g32=>?_))))
 ·exact absurd rfl g32
 refine aF (aS rfl rfl rfl rfl) fl58_4 rfl rfl (aL (ds:=u64s (wl m.tp)) (aS rfl rfl rfl rfl) ag26 rfl B2 (by exact gx_tp h) (by exact len_w4 _) bC rfl ?_)
 refine aF (aS rfl rfl rfl rfl) fl58_4 rfl rfl (aL (ds:=u64s (wl m.tp)) (aS rfl rfl rfl rfl) ag26 rfl B3 (by exact gx_tp h) (by exact len_w4 _) aN rfl ?_)
 refine op_neW (a:=wl m.tp) (b:=wl m.tp) (aS rfl rfl rfl rfl) ae26 Try.underlying24 (by kernel_rfl) rfl rfl rfl rfl rfl (bM (aC rfl) rfl rfl rfl (aD (aC rfl) rfl rfl (bU (d:=39) rfl (fun g39=>?_) (fun g39=>?_))))
 ·exact absurd rfl g39
 refine aF (aS rfl rfl rfl rfl) fl58_5 rfl rfl (aH (aS rfl rfl rfl rfl) sc24 rfl B2 (gx_ga h) bC rfl (aF (aS rfl rfl rfl rfl) fl58_5 rfl rfl (aH (aS rfl rfl rfl rfl) sc24 rfl B3 (gx_ga h) aN rfl (op_neq (aS rfl rfl rfl rfl) rfl rfl rfl (bM (aC rfl) rfl rfl rfl (aD (aC rfl) rfl rfl (bU (d:=46) rfl (fun g46=>?_) (fun g46=>?_))))))))
 ·exact absurd rfl g46
 refine aF (aS rfl rfl rfl rfl) fl58_6 rfl rfl (aH (aS rfl rfl rfl rfl) sc4 rfl B2 (gx_mk h) bC rfl (aF (aS rfl rfl rfl rfl) fl58_6 rfl rfl (aH (aS rfl rfl rfl rfl) sc4 rfl B3 (gx_mk h) aN rfl (op_neB (aS rfl rfl rfl rfl) Try.underlying4 rfl rfl rfl (bM (aC rfl) rfl rfl rfl (aD (aC rfl) rfl rfl (At.part (d:=53) rfl (fun g53=>?_) (fun g53=>?_))))))))
 ·simp at g53
 refine aF (aS rfl rfl rfl rfl) fl58_7 rfl rfl ?_
 refine aL (ds:=u8s m.to) (aS rfl rfl rfl rfl) ag23 rfl B2 (by exact gx_to h) (by rw [bN];exact h.to) bC rfl ?_
 refine aF (aS rfl rfl rfl rfl) fl58_7 rfl rfl ?_
 refine aL (ds:=u8s m.to) (aS rfl rfl rfl rfl) ag23 rfl B3 (by exact gx_to h) (by rw [bN];exact h.to) aN rfl ?_
 refine op_neW8 (a:=m.to) (b:=m.to) (aS rfl rfl rfl rfl) ae23 Try.underlying5 (by kernel_rfl) rfl rfl h.to h.to rfl (bM (aC rfl) rfl rfl rfl (aD (aC rfl) rfl rfl (bU (d:=60) rfl (fun g60=>?_) (fun g60=>?_))))
 ·exact absurd rfl g60
 refine aF (aS rfl rfl rfl rfl) fl58_8 rfl rfl (aL (ds:=u64s (wl m.va)) (aS rfl rfl rfl rfl) ag26 rfl B2 (by exact gx_va h) (by exact len_w4 _) bC rfl ?_)
 refine aF (aS rfl rfl rfl rfl) fl58_8 rfl rfl (aL (ds:=u64s (wl m.va)) (aS rfl rfl rfl rfl) ag26 rfl B3 (by exact gx_va h) (by exact len_w4 _) aN rfl ?_)
 refine op_neW (a:=wl m.va) (b:=wl m.va) (aS rfl rfl rfl rfl) ae26 Try.underlying24 (by kernel_rfl) rfl rfl rfl rfl rfl (bM (aC rfl) rfl rfl rfl (aD (aC rfl) rfl rfl (bU (d:=67) rfl (fun g67=>?_) (fun g67=>?_))))
 ·exact absurd rfl g67
 refine aF (aS rfl rfl rfl rfl) fl58_9 rfl rfl (aH (aS rfl rfl rfl rfl) sc27 rfl B2 (gx_d h) bC rfl (op_str (aS rfl rfl rfl rfl) Try.underlying27 Try.underlying5 Try.underlying9 rfl (by assumption) (by first|exact aN|exact bC|exact bV|exact mem3|exact mem4|exact mem5|exact mem6|exact mem7|exact mem8|exact mem9) rfl ?_))
 refine aF (aS rfl rfl rfl rfl) fl58_9 rfl rfl (aH (aS rfl rfl rfl rfl) sc27 rfl B3 (gx_d h) aN rfl (op_str (aS rfl rfl rfl rfl) Try.underlying27 Try.underlying5 Try.underlying9 rfl (by assumption) (by first|exact aN|exact bC|exact bV|exact mem3|exact mem4|exact mem5|exact mem6|exact mem7|exact mem8|exact mem9) rfl ?_))
 refine op_neS (aS rfl rfl rfl rfl) rfl rfl rfl (bM (aC rfl) rfl rfl rfl (aA (aB (s_3 (aP rfl (fun c75=>?_) (fun c75=>?_))))))
 ·exact absurd rfl c75
 refine At.knowF (d:=75) rfl c75 (At.skip (aB (s_2 (At.seq fun _ s_4=>At.seq fun _ s_5=>At.region (aF (aC rfl) fl58_11 rfl rfl (aL (ds:=u64s (wl m.bf)) (aC rfl) ag26 rfl B2 (by exact gx_bf h) (by exact len_w4 _) bC rfl ?_))))))
 refine aF (aC rfl) fl58_11 rfl rfl (aL (ds:=u64s (wl m.bf)) (aC rfl) ag26 rfl B3 (by exact gx_bf h) (by exact len_w4 _) aN rfl ?_)
 refine op_neW (a:=wl m.bf) (b:=wl m.bf) (aC rfl) ae26 Try.underlying24 (by kernel_rfl) rfl rfl rfl rfl rfl (aD (aC rfl) rfl rfl (bU (d:=81) rfl (fun g81=>?_) (fun g81=>?_)))
 ·exact absurd rfl g81
 refine aF (aS rfl rfl rfl rfl) fl58_13 rfl rfl (aH (aS rfl rfl rfl rfl) sc4 rfl B2 (gx_od h) bC rfl (aF (aS rfl rfl rfl rfl) fl58_13 rfl rfl (aH (aS rfl rfl rfl rfl) sc4 rfl B3 (gx_od h) aN rfl (op_neB (aS rfl rfl rfl rfl) Try.underlying4 rfl rfl rfl (bM (aC rfl) rfl rfl rfl (aD (aC rfl) rfl rfl (At.part (d:=88) rfl (fun g88=>?_) (fun g88=>?_))))))))
 ·simp at g88
 refine aF (aS rfl rfl rfl rfl) fl58_14 rfl rfl (aL (ds:=u64s (wl m.r)) (aS rfl rfl rfl rfl) ag26 rfl B2 (by exact gx_r h) (by exact len_w4 _) bC rfl ?_)
 refine aF (aS rfl rfl rfl rfl) fl58_14 rfl rfl (aL (ds:=u64s (wl m.r)) (aS rfl rfl rfl rfl) ag26 rfl B3 (by exact gx_r h) (by exact len_w4 _) aN rfl ?_)
 refine op_neW (a:=wl m.r) (b:=wl m.r) (aS rfl rfl rfl rfl) ae26 Try.underlying24 (by kernel_rfl) rfl rfl rfl rfl rfl (bM (aC rfl) rfl rfl rfl (aD (aC rfl) rfl rfl (bU (d:=95) rfl (fun g95=>?_) (fun g95=>?_))))
 ·exact absurd rfl g95
 refine aF (aS rfl rfl rfl rfl) fl58_15 rfl rfl (aL (ds:=u64s (wl m.s)) (aS rfl rfl rfl rfl) ag26 rfl B2 (by exact gx_s h) (by exact len_w4 _) bC rfl ?_)
 refine aF (aS rfl rfl rfl rfl) fl58_15 rfl rfl (aL (ds:=u64s (wl m.s)) (aS rfl rfl rfl rfl) ag26 rfl B3 (by exact gx_s h) (by exact len_w4 _) aN rfl ?_)
 refine op_neW (a:=wl m.s) (b:=wl m.s) (aS rfl rfl rfl rfl) ae26 Try.underlying24 (by kernel_rfl) rfl rfl rfl rfl rfl (bM (aC rfl) rfl rfl rfl (aD (aC rfl) rfl rfl (bU (d:=102) rfl (fun g102=>?_) (fun g102=>?_))))
 ·exact absurd rfl g102
 refine aF (aS rfl rfl rfl rfl) fl58_12 rfl rfl (aH (aS rfl rfl rfl rfl) sc41 rfl B2 (gx_b h) bC rfl (aF (aS rfl rfl rfl rfl) fl58_12 rfl rfl (aH (aS rfl rfl rfl rfl) sc41 rfl B3 (gx_b h) aN rfl (aR (nxga rfl rfl rfl rfl) (.cons rfl (.cons rfl .nil)) (FSameKeys_b hb hb' h.bb) Try.func62 rfl rfl (by simp) rfl ?_))))
 rintro v107 L107 ⟨rfl,rfl⟩
 change At _ _ _ [N3,N2,R] _
 refine op_not (aS rfl rfl rfl rfl) rfl rfl (bM (aC rfl) rfl rfl rfl (aD (aC rfl) rfl rfl (aF (aS rfl rfl rfl rfl) fl58_10 rfl rfl (aH (aS rfl rfl rfl rfl) sc56 rfl B2 (gx_a h) bC rfl (bP (aS rfl rfl rfl rfl) se56 rfl rfl (aF (aS rfl rfl rfl rfl) fl58_10 rfl rfl (aH (aS rfl rfl rfl rfl) sc56 rfl B3 (gx_a h) aN rfl (bP (aS rfl rfl rfl rfl) se56 rfl rfl (op_neq (aS rfl rfl rfl rfl) rfl rfl rfl (bM (aC rfl) rfl rfl rfl (aA (aB (s_5 (aP rfl (fun c118=>?_) (fun c118=>?_)))))))))))))))
 ·exact absurd rfl c118
 refine At.knowF (d:=118) rfl c118 (At.skip (aB (s_4 (At.seq fun _ s_6=>At.seq fun _ s_7=>At.region (aE (aC rfl) rfl rfl (aA (aB (s_7 (At.block (At.perm aX (At.perm bZ (At.perm aX (At.loop (fun fr_ hp_ ms_=> ∃(i:Nat),fr_= [(2,.pointer (some ⟨b2,0,none⟩)),(3,.pointer (some ⟨b3,0,none⟩)),(5,.int .i64 (i:Int))]∧hp_= [N2,N3,R]∧m.ac.length- i=ms_∧(i≤m.ac.length)) ?_ (.refl _) ⟨0,rfl,rfl,rfl,Nat.zero_le _⟩ ?_)))))))))))))
 ·exact .cons (by first|exact bE rfl (by omega)|rfl) (.cons (by first|exact bE rfl (by omega)|rfl) (.cons (by first|exact bE rfl (by omega)|rfl) .nil))
 rintro _ _ _ ⟨i,rfl,rfl,rfl,hi⟩
 refine At.seq fun _ s_8=>At.seq fun _ s_9=>At.region (aD (aC rfl) rfl rfl (aF (aC rfl) fl58_10 rfl rfl (aH (aC rfl) sc56 rfl B2 (gx_a h) aN rfl (bP (aC rfl) se56 rfl rfl (op_lss (aC rfl) rfl rfl rfl (aA (aB (s_9 (aP rfl (fun c123=>?_) (fun c123=>?_))))))))))
 ·refine At.knowT (d:=123) rfl c123 ?_
  obtain⟨g,x,hgi,hxi,hgx⟩:=hacR.at (i:=i) (by omega)
  obtain⟨g',y,hgi',hyi,hgy⟩:=hacR'.at (i:=i) (by omega)
  obtain rfl:g=g':=Option.some.inj (hgi.symm.trans hgi')
  have hga:g.addr.length=20:=hgx.2.1
  have hxa:x.addr.length=20:=by rw [hgx.1];exact hga
  have hya:y.addr.length=20:=by rw [hgy.1];exact hga
  have hgu:(u8s g.addr).length=20:=by rw [bN,hga]
  have e1:=acc_addr hxi hacc.cells hxa
  have e2:=acc_addr hyi hacc'.cells hya
  rw [hgx.1]at e1
  rw [hgy.1]at e2
  have f1:=acc_fld (o:=20) hxi hacc.cells (by decide) (show x.cells[20]? =some (.slice x.ka x.kn x.kc)from AV.key_at hxa)
  have f2:=acc_fld (o:=20) hyi hacc'.cells (by decide) (show y.cells[20]? =some (.slice y.ka y.kn y.kc)from AV.key_at hya)
  have k1:=hgx.2.2.2.1
  have k2:=hgy.2.2.2.1
  rw [hgx.2.2.1]at k1 f1
  rw [hgy.2.2.1]at k2 f2
  have hsome:aa.isSome=true:=by
   obtain⟨bA,oA,hao,_⟩:=ha.2.2.2 (by omega)
   rw [hao];rfl
  have hsome':fa.isSome=true:=by
   obtain⟨bA,oA,hao,_⟩:=ha'.2.2.2 (by omega)
   rw [hao];rfl
  refine At.skip (aB (s_8 (At.seq fun _ s_10=>At.block (At.seq fun _ s_11=>At.drawnS [N2,N3,R] [26] [] [0,1,2,3,4,5,6,7,8,9,10,11,12,13,14,15,16,17,18,19,20,21,22,23,24,25,26,27,28] (by kernel_rfl) (by kernel_rfl) (.refl _) (aF (bK rfl rfl rfl) fl58_10 rfl rfl (aH (bK rfl rfl rfl) sc56 rfl B2 (gx_a h) aN rfl (aD (bK rfl rfl rfl) rfl rfl (op_idxE (bK rfl rfl rfl) se56 rfl rfl ha (show _=(((i:Nat)):Int)from by omega) (by omega) rfl ?_))))))))
  refine op_fieldAddrE (bK rfl rfl rfl) fl109_0 rfl (by first|rfl|assumption) rfl ?_
  refine op_loadAggE (ds:=u8s g.addr) (bK rfl rfl rfl) ag23 rfl ha (by exact e1) (by exact hgu) (by omega) (by first|exact aN|exact bC|exact bV|exact mem3|exact mem4|exact mem5|exact mem6|exact mem7|exact mem8|exact mem9) rfl ?_
  refine aF (bK rfl rfl rfl) fl58_10 rfl rfl (aH (bK rfl rfl rfl) sc56 rfl B3 (gx_a h) bC rfl (aD (bK rfl rfl rfl) rfl rfl (op_idxE (bK rfl rfl rfl) se56 rfl rfl ha' (show _=(((i:Nat)):Int)from by omega) (by omega) rfl ?_)))
  refine op_fieldAddrE (bK rfl rfl rfl) fl109_0 rfl (by first|rfl|assumption) rfl ?_
  refine op_loadAggE (ds:=u8s g.addr) (bK rfl rfl rfl) ag23 rfl ha' (by exact e2) (by exact hgu) (by omega) (by first|exact aN|exact bC|exact bV|exact mem3|exact mem4|exact mem5|exact mem6|exact mem7|exact mem8|exact mem9) rfl ?_
  refine op_neW8 (a:=g.addr) (b:=g.addr) (bK rfl rfl rfl) ae23 Try.underlying5 (by kernel_rfl) rfl rfl hga hga rfl (aD (bK rfl rfl rfl) rfl rfl (bU (d:=139) rfl (fun g139=>?_) (fun g139=>?_)))
  ·exact absurd rfl g139
  refine aF (nxsgf rfl rfl rfl rfl rfl rfl) fl58_10 rfl rfl (aH (nxsgf rfl rfl rfl rfl rfl rfl) sc56 rfl B2 (gx_a h) aN rfl (aD (nxsgf rfl rfl rfl rfl rfl rfl) rfl rfl (op_idxE (nxsgf rfl rfl rfl rfl rfl rfl) se56 rfl rfl ha (show _=(((i:Nat)):Int)from by omega) (by omega) rfl ?_)))
  refine op_fieldAddrE (nxsgf rfl rfl rfl rfl rfl rfl) fl109_1 rfl (by first|rfl|assumption) rfl ?_
  refine bS (nxsgf rfl rfl rfl rfl rfl rfl) sc41 rfl ha (by first|exact get8 (by omega)|exact get64 (by omega)|exact get32 (by omega)|exact f1) (by first|exact aN|exact bC|exact bV|exact mem3|exact mem4|exact mem5|exact mem6|exact mem7|exact mem8|exact mem9) rfl ?_
  refine aF (nxsgf rfl rfl rfl rfl rfl rfl) fl58_10 rfl rfl (aH (nxsgf rfl rfl rfl rfl rfl rfl) sc56 rfl B3 (gx_a h) bC rfl (aD (nxsgf rfl rfl rfl rfl rfl rfl) rfl rfl (op_idxE (nxsgf rfl rfl rfl rfl rfl rfl) se56 rfl rfl ha' (show _=(((i:Nat)):Int)from by omega) (by omega) rfl ?_)))
  refine op_fieldAddrE (nxsgf rfl rfl rfl rfl rfl rfl) fl109_1 rfl (by first|rfl|assumption) rfl ?_
  refine bS (nxsgf rfl rfl rfl rfl rfl rfl) sc41 rfl ha' (by first|exact get8 (by omega)|exact get64 (by omega)|exact get32 (by omega)|exact f2) (by first|exact aN|exact bC|exact bV|exact mem3|exact mem4|exact mem5|exact mem6|exact mem7|exact mem8|exact mem9) rfl ?_
  refine aR (Nx.agree (nxsgs rfl rfl rfl rfl rfl rfl rfl)) (.cons rfl (.cons rfl .nil)) (FSameKeys_b k1 k2 hgx.2.2.2.2) Try.func62 rfl rfl (by simp) rfl ?_
  rintro v152 L152 ⟨rfl,rfl⟩
  change At _ _ _ [N2,N3,R] _
  refine At.anyS (.refl _) (op_not (nxsgf rfl rfl rfl rfl rfl rfl) rfl rfl (bM (bK rfl rfl rfl) rfl rfl rfl (At.sNil (aB (s_11 (At.condF rfl (At.skip (bB (aB (s_10 (At.region (aD (aC rfl) rfl rfl (bI (aC rfl) rfl rfl (by omega) (by omega) rfl (aE (aC rfl) rfl rfl (aA (aB (At.back ?_ (.refl _) ⟨i+1,rfl,rfl,rfl,by omega⟩ ?_)))))))))))))))))
  ·exact .cons (by first|exact bE rfl (by omega)|rfl) (.cons (by first|exact bE rfl (by omega)|rfl) (.cons (by first|exact bE rfl (by omega)|rfl) .nil))
  ·omega
 refine At.knowF (d:=123) rfl c123 (At.exit (aO (aO (At.inHit (aB (s_6 (At.seq fun _ s_12=>At.region (aE (aC rfl) rfl rfl (aA (aB (s_12 (At.ret ((At.sub (L':= [R]) (.cons _ (.cons _ (.cons_cons _ (.slnil)))) (aZ (L1:= []) rfl (.tmp rfl .nil) (.refl _) (.refl _) ?_)))))))))))))))
 exact⟨rfl,rfl⟩
end
end Go.Proofs.Ytljacjjeinmfnaa
/- Layer 14, in plain words: a transaction that is written is read again. Condition: sizes. -/
namespace Go.Proofs.Ytljacjjeinmfnaa
open Go Go.RowKit
set_option maxRecDepth 100000
theorem plains_map (l:List It):It.plains l=l.map It.plain:=by
 induction l with
 |nil=>rfl
 |cons t ts ih=>simp only [It.plains,List.map_cons,ih]
theorem listE_L (l:List It):listE (itL l)=.ok l:=rfl
/-- The accounts' lengths. -/
def AcOk (m:TxM):Prop:= ∀g∈m.ac,g.addr.length=20∧ ∀k∈g.keys,k.length=32
end Go.Proofs.Ytljacjjeinmfnaa
/- Layer 14, in plain words: a transaction that is written is read again, and what is read is written again. Condition: sizes. -/
namespace Go.Proofs.Ytljacjjeinmfnaa
open Go Go.RowKit
set_option maxRecDepth 100000
theorem wIts_0 {m:TxM} (h:m.ki=0):wIts m= [numI m.nn,numI m.pr,numI m.ga,itS (toM m),numI m.va,itS m.da,numI (vM m),numI m.r,numI m.s]:=by
 simp [wIts,uIts,uE,uD,uC,uB,uA,h]
theorem wIts_1 {m:TxM} (h:m.ki=1):wIts m= [numI m.ch,numI m.nn,numI m.pr,numI m.ga,itS (toM m),numI m.va,itS m.da,itL (m.ac.map accIt),numI (vM m),numI m.r,numI m.s]:=by
 simp [wIts,uIts,uE,uD,uC,uB,uA,h]
theorem wIts_2 {m:TxM} (h:m.ki=2):wIts m= [numI m.ch,numI m.nn,numI m.tp,numI m.pr,numI m.ga,itS (toM m),numI m.va,itS m.da,itL (m.ac.map accIt),numI (vM m),numI m.r,numI m.s]:=by
 simp [wIts,uIts,uE,uD,uC,uB,uA,h]
theorem wIts_3 {m:TxM} (h:m.ki=3):wIts m= [numI m.ch,numI m.nn,numI m.tp,numI m.pr,numI m.ga,itS (toM m),numI m.va,itS m.da,itL (m.ac.map accIt),numI m.bf,itL (m.bb.map itS),numI (vM m),numI m.r,numI m.s]:=by
 simp [wIts,uIts,uE,uD,uC,uB,uA,h]
theorem kindB_0 {k:Int} (h:k=0):kindB k= []:=by rw [kindB,if_neg (by omega)]
theorem kindB_n {n:Nat} (h:0<n):kindB (n:Int)= [UInt8.ofNat n]:=by rw [kindB,if_pos (by omega)];rfl
end Go.Proofs.Ytljacjjeinmfnaa
/- Layer 14, in plain words: a transaction that is read is written again, byte for byte. Condition: sizes. -/
namespace Go.Proofs.Ytljacjjeinmfnaa
open Go Go.RowKit
set_option maxRecDepth 100000
theorem bX {α β:Type} {x:Except Nat α} {f:α→Except Nat β} {b:β} (h:eb x f=.ok b): ∃a,x=.ok a∧f a=.ok b:=by
 cases x with
 |ok a=>exact⟨a,rfl,h⟩
 |error e=>cases h
theorem strE_inv {t:It} {b:List UInt8} (hp:t.plain=t) (h:strE t=.ok b):t=itS b:=by
 obtain⟨l,bs,its⟩:=t
 cases l with
 |false=>
  obtain rfl:bs=b:=Except.ok.inj h
  exact hp.symm
 |true=>cases h
theorem listE_inv {t:It} {its:List It} (hp:t.plain=t) (h:listE t=.ok its):t=itL its∧ ∀y∈its,y.plain=y:=by
 obtain⟨l,bs,is⟩:=t
 cases l with
 |false=>cases h
 |true=>
  obtain rfl:is=its:=Except.ok.inj h
  simp only [It.plain,It.mk.injEq,true_and]at hp
  obtain⟨h1,h2⟩:=hp
  subst h1
  refine⟨rfl,fun y hy=>?_⟩
  rw [plains_map]at h2
  exact List.map_inj_left.1 (h2.trans (List.map_id _).symm) y hy
theorem wordE_inv {t:It} {x:Nat} (hp:t.plain=t) (h:wordE t=.ok x):t=numI x:=by
 unfold wordE at h
 split at h
 ·rename_i b hb
  split at h
  ·rename_i h0
   obtain rfl:be b=x:=Except.ok.inj h
   have e:b=bytesOf (be b):=eq_bytesOf fun k=>by
    have h1: ¬(0<b.length∧(b.getD 0 0).toNat=0):=fun q=>by rw [numE2 q.1 q.2]at h0;cases h0
    cases b with
    |nil=>cases k
    |cons a r=>
     have k:a=0:=Option.some.inj k
     exact h1 ⟨Nat.succ_pos _,by rw [k];rfl⟩
   rw [numI, ←e]
   exact strE_inv hp hb
  ·cases h
 ·cases h
theorem smallE_inv {t:It} {x:Nat} (hp:t.plain=t) (h:smallE t=.ok x):t=numI x:=by
 unfold smallE at h
 split at h
 ·rename_i y hy
  split at h
  ·obtain rfl:y=x:=Except.ok.inj h
   exact wordE_inv hp hy
  ·cases h
 ·cases h
theorem n64E_inv {t:It} {u:UInt64} (hp:t.plain=t) (h:n64E t=.ok u):t=numI u.toNat:=by
 obtain⟨x,hx,h⟩:=bX h
 obtain rfl:UInt64.ofNat x=u:=Except.ok.inj h
 have hl:x<2^64:=by
  unfold smallE at hx
  split at hx
  ·split at hx
   ·rename_i k
    obtain rfl:=Except.ok.inj hx
    exact k
   ·cases hx
  ·cases hx
 rw [UInt64.toNat_ofNat',Nat.mod_eq_of_lt hl]
 exact smallE_inv hp hx
theorem fixE_inv {t:It} {b:List UInt8} {k:Nat} (hp:t.plain=t) (h:fixE k t=.ok b):t=itS b∧b.length=k:=by
 unfold fixE at h
 split at h
 ·rename_i c hc
  split at h
  ·rename_i hl
   obtain rfl:c=b:=Except.ok.inj h
   exact⟨strE_inv hp hc,hl⟩
  ·cases h
 ·cases h
theorem toE_inv {k:Int} {t:It} {mt:Bool×List UInt8} (hp:t.plain=t) (h:toE k t=.ok mt):t=itS (if mt.1 then []else mt.2)∧(mt.1=true→k≠3∧mt.2=zero20):=by
 unfold toE at h
 split at h
 ·cases h
 ·rename_i b hb
  split at h
  ·obtain rfl:=Except.ok.inj h
   exact⟨strE_inv hp hb,fun q=>by cases q⟩
  ·split at h
   ·rename_i h0
    obtain rfl:=Except.ok.inj h
    obtain rfl:b= []:=List.length_eq_zero_iff.1 h0.1
    exact⟨strE_inv hp hb,fun _=>⟨h0.2,rfl⟩⟩
   ·cases h
theorem vE_inv {k:Int} {c0:Nat} {t:It} {co:Nat×Bool} (hp:t.plain=t) (hk:0<k) (h:vE k c0 t=.ok co):co.1=c0∧t=numI (oddN co.2):=by
 unfold vE at h
 split at h
 ·cases h
 ·rename_i n hn
  rw [if_neg (by omega),if_neg (by omega)]at h
  split at h
  ·rename_i h1
   obtain rfl:=Except.ok.inj h
   refine⟨rfl,(wordE_inv hp hn).trans (congrArg numI ?_)⟩
   have:n=0∨n=1:=by omega
   rcases this with rfl|rfl<;>rfl
  ·cases h
theorem vE_inv0 {t:It} {co:Nat×Bool} (hp:t.plain=t) (h:vE 0 0 t=.ok co):t=numI (if co.1=0 then 27+oddN co.2 else 35+oddN co.2+2*co.1):=by
 unfold vE at h
 split at h
 ·cases h
 ·rename_i n hn
  refine(wordE_inv hp hn).trans (congrArg numI ?_)
  split at h
  ·rename_i h36
   split at h
   ·obtain rfl:=Except.ok.inj h
    simp only
    rw [if_neg (by omega)]
    unfold oddN
    split
    ·rename_i q
     have:=of_decide_eq_true q;omega
    ·rename_i q
     have q: ¬(n- 35) % 2=1:=fun z=>q (decide_eq_true z)
     omega
   ·cases h
  ·rw [if_pos rfl]at h
   split at h
   ·rename_i q
    obtain rfl:=Except.ok.inj h
    simp only [if_true]
    rcases q with rfl|rfl<;>rfl
   ·cases h
theorem mapE_inv {α:Type} {g:It→Except Nat α} {f:α→It} {P:α→Prop} (hg: ∀t a,t.plain=t→g t=.ok a→t=f a∧P a): ∀ {its:List It} {l:List α},(∀y∈its,y.plain=y)→mapE g its=.ok l→its=l.map f∧ ∀a∈l,P a
 | [],l,_,h=>by
  obtain rfl:=Except.ok.inj h
  exact⟨rfl,fun a ha=>absurd ha List.not_mem_nil⟩
 |t::ts,l,hp,h=>by
  unfold mapE at h
  split at h
  ·cases h
  ·rename_i a ha
   split at h
   ·cases h
   ·rename_i l' hl
    obtain rfl:=Except.ok.inj h
    obtain⟨h1,h2⟩:=hg t a (hp t (by simp)) ha
    obtain⟨h3,h4⟩:=mapE_inv hg (fun y hy=>hp y (List.mem_cons_of_mem _ hy)) hl
    exact⟨by rw [List.map_cons, ←h1, ←h3],fun b hb=>(List.mem_cons.1 hb).elim (fun q=>q▸h2) (h4 b)⟩
theorem eachE_inv {α:Type} {g:It→Except Nat α} {f:α→It} {P:α→Prop} (hg: ∀t a,t.plain=t→g t=.ok a→t=f a∧P a) {t:It} {l:List α} (hp:t.plain=t) (h:eachE g t=.ok l):t=itL (l.map f)∧ ∀a∈l,P a:=by
 unfold eachE at h
 split at h
 ·cases h
 ·rename_i its hi
  obtain⟨rfl,h2⟩:=listE_inv hp hi
  obtain⟨rfl,h4⟩:=mapE_inv hg h2 h
  exact⟨rfl,h4⟩
theorem hashesE_inv {t:It} {l:List (List UInt8)} (hp:t.plain=t) (h:hashesE t=.ok l):t=itL (l.map itS)∧ ∀x∈l,x.length=32:=eachE_inv (P:=fun x=>x.length=32) (fun t a hp h=>fixE_inv hp h) hp h
theorem accE_inv {t:It} {g:AccM} (hp:t.plain=t) (h:accE t=.ok g):t=accIt g∧(g.addr.length=20∧ ∀k∈g.keys,k.length=32):=by
 unfold accE at h
 split at h
 ·cases h
 ·rename_i x y hl
  obtain⟨rfl,h2⟩:=listE_inv hp hl
  split at h
  ·cases h
  ·rename_i a ha
   split at h
   ·cases h
   ·rename_i ks hk
    obtain rfl:=Except.ok.inj h
    obtain⟨h3,h4⟩:=fixE_inv (h2 x (by simp)) ha
    obtain⟨h5,h6⟩:=hashesE_inv (h2 y (by simp)) hk
    exact⟨by rw [accIt,h3,h5],h4,h6⟩
 ·cases h
theorem accessE_inv {t:It} {l:List AccM} (hp:t.plain=t) (h:accessE t=.ok l):t=itL (l.map accIt)∧ ∀g∈l,g.addr.length=20∧ ∀k∈g.keys,k.length=32:=eachE_inv (P:=fun g=>g.addr.length=20∧ ∀k∈g.keys,k.length=32) (fun t a hp h=>accE_inv hp h) hp h
theorem tx0_inv {its:List It} {m:TxM} (hp: ∀y∈its,y.plain=y) (h:tx0 its=.ok m):its=wIts m∧fitsM m∧AcOk m∧m.ki=0:=by
 unfold tx0 at h
 split at h
 ·rename_i t_nn t_pr t_ga t_to t_va t_d t_v t_r t_s
  obtain⟨x_nn,e_nn,h⟩:=bX h
  obtain⟨x_pr,e_pr,h⟩:=bX h
  obtain⟨x_ga,e_ga,h⟩:=bX h
  obtain⟨x_to,e_to,h⟩:=bX h
  obtain⟨x_va,e_va,h⟩:=bX h
  obtain⟨x_d,e_d,h⟩:=bX h
  obtain⟨x_v,e_v,h⟩:=bX h
  obtain⟨x_r,e_r,h⟩:=bX h
  obtain⟨x_s,e_s,h⟩:=bX h
  obtain rfl:=Except.ok.inj h
  have i_nn:=smallE_inv (hp t_nn (by simp)) e_nn
  have i_pr:=wordE_inv (hp t_pr (by simp)) e_pr
  have i_ga:=smallE_inv (hp t_ga (by simp)) e_ga
  have i_to:=toE_inv (hp t_to (by simp)) e_to
  have i_va:=wordE_inv (hp t_va (by simp)) e_va
  have i_d:=strE_inv (hp t_d (by simp)) e_d
  have i_v:=vE_inv0 (hp t_v (by simp)) e_v
  have i_r:=wordE_inv (hp t_r (by simp)) e_r
  have i_s:=wordE_inv (hp t_s (by simp)) e_s
  refine⟨?_,⟨(show(0:Int)≤0 by decide),(show(0:Int)≤3 by decide),fun q=>?_,fun q=>?_,fun q=>?_,fun q=>?_⟩,?_,rfl⟩
  ·rw [wIts_0 rfl]
   rw [i_nn,i_pr,i_ga,i_to.1,i_va,i_d,i_v,i_r,i_s]
   rfl
  ·exact i_to.2 q
  ·rfl
  ·exact⟨rfl,rfl⟩
  ·rfl
  ·exact fun g hg=>absurd hg List.not_mem_nil
 ·cases h
theorem tx1_inv {its:List It} {m:TxM} (hp: ∀y∈its,y.plain=y) (h:tx1 its=.ok m):its=wIts m∧fitsM m∧AcOk m∧m.ki=1:=by
 unfold tx1 at h
 split at h
 ·rename_i t_ch t_nn t_pr t_ga t_to t_va t_d t_a t_v t_r t_s
  obtain⟨x_ch,e_ch,h⟩:=bX h
  obtain⟨x_nn,e_nn,h⟩:=bX h
  obtain⟨x_pr,e_pr,h⟩:=bX h
  obtain⟨x_ga,e_ga,h⟩:=bX h
  obtain⟨x_to,e_to,h⟩:=bX h
  obtain⟨x_va,e_va,h⟩:=bX h
  obtain⟨x_d,e_d,h⟩:=bX h
  obtain⟨x_a,e_a,h⟩:=bX h
  obtain⟨x_v,e_v,h⟩:=bX h
  obtain⟨x_r,e_r,h⟩:=bX h
  obtain⟨x_s,e_s,h⟩:=bX h
  obtain rfl:=Except.ok.inj h
  have i_ch:=smallE_inv (hp t_ch (by simp)) e_ch
  have i_nn:=smallE_inv (hp t_nn (by simp)) e_nn
  have i_pr:=wordE_inv (hp t_pr (by simp)) e_pr
  have i_ga:=smallE_inv (hp t_ga (by simp)) e_ga
  have i_to:=toE_inv (hp t_to (by simp)) e_to
  have i_va:=wordE_inv (hp t_va (by simp)) e_va
  have i_d:=strE_inv (hp t_d (by simp)) e_d
  have i_a:=accessE_inv (hp t_a (by simp)) e_a
  have i_v:=vE_inv (hp t_v (by simp)) (by decide) e_v
  have i_r:=wordE_inv (hp t_r (by simp)) e_r
  have i_s:=wordE_inv (hp t_s (by simp)) e_s
  refine⟨?_,⟨(show(0:Int)≤1 by decide),(show(1:Int)≤3 by decide),fun q=>?_,fun q=>?_,fun q=>?_,fun q=>?_⟩,?_,rfl⟩
  ·rw [wIts_1 rfl]
   rw [i_ch, ←i_v.1,i_nn,i_pr,i_ga,i_to.1,i_va,i_d,i_a.1,i_v.2,i_r,i_s]
   rfl
  ·exact i_to.2 q
  ·rfl
  ·exact⟨rfl,rfl⟩
  ·exact absurd (show(1:Int)=0 from q) (by decide)
  ·exact i_a.2
 ·cases h
theorem tx2_inv {its:List It} {m:TxM} (hp: ∀y∈its,y.plain=y) (h:tx2 its=.ok m):its=wIts m∧fitsM m∧AcOk m∧m.ki=2:=by
 unfold tx2 at h
 split at h
 ·rename_i t_ch t_nn t_tp t_pr t_ga t_to t_va t_d t_a t_v t_r t_s
  obtain⟨x_ch,e_ch,h⟩:=bX h
  obtain⟨x_nn,e_nn,h⟩:=bX h
  obtain⟨x_tp,e_tp,h⟩:=bX h
  obtain⟨x_pr,e_pr,h⟩:=bX h
  obtain⟨x_ga,e_ga,h⟩:=bX h
  obtain⟨x_to,e_to,h⟩:=bX h
  obtain⟨x_va,e_va,h⟩:=bX h
  obtain⟨x_d,e_d,h⟩:=bX h
  obtain⟨x_a,e_a,h⟩:=bX h
  obtain⟨x_v,e_v,h⟩:=bX h
  obtain⟨x_r,e_r,h⟩:=bX h
  obtain⟨x_s,e_s,h⟩:=bX h
  obtain rfl:=Except.ok.inj h
  have i_ch:=smallE_inv (hp t_ch (by simp)) e_ch
  have i_nn:=smallE_inv (hp t_nn (by simp)) e_nn
  have i_tp:=wordE_inv (hp t_tp (by simp)) e_tp
  have i_pr:=wordE_inv (hp t_pr (by simp)) e_pr
  have i_ga:=smallE_inv (hp t_ga (by simp)) e_ga
  have i_to:=toE_inv (hp t_to (by simp)) e_to
  have i_va:=wordE_inv (hp t_va (by simp)) e_va
  have i_d:=strE_inv (hp t_d (by simp)) e_d
  have i_a:=accessE_inv (hp t_a (by simp)) e_a
  have i_v:=vE_inv (hp t_v (by simp)) (by decide) e_v
  have i_r:=wordE_inv (hp t_r (by simp)) e_r
  have i_s:=wordE_inv (hp t_s (by simp)) e_s
  refine⟨?_,⟨(show(0:Int)≤2 by decide),(show(2:Int)≤3 by decide),fun q=>?_,fun q=>?_,fun q=>?_,fun q=>?_⟩,?_,rfl⟩
  ·rw [wIts_2 rfl]
   rw [i_ch, ←i_v.1,i_nn,i_tp,i_pr,i_ga,i_to.1,i_va,i_d,i_a.1,i_v.2,i_r,i_s]
   rfl
  ·exact i_to.2 q
  ·exact absurd (show(2:Int)<2 from q) (by decide)
  ·exact⟨rfl,rfl⟩
  ·exact absurd (show(2:Int)=0 from q) (by decide)
  ·exact i_a.2
 ·cases h
theorem tx3_inv {its:List It} {m:TxM} (hp: ∀y∈its,y.plain=y) (h:tx3 its=.ok m):its=wIts m∧fitsM m∧AcOk m∧m.ki=3:=by
 unfold tx3 at h
 split at h
 ·rename_i t_ch t_nn t_tp t_pr t_ga t_to t_va t_d t_a t_bf t_b t_v t_r t_s
  obtain⟨x_ch,e_ch,h⟩:=bX h
  obtain⟨x_nn,e_nn,h⟩:=bX h
  obtain⟨x_tp,e_tp,h⟩:=bX h
  obtain⟨x_pr,e_pr,h⟩:=bX h
  obtain⟨x_ga,e_ga,h⟩:=bX h
  obtain⟨x_to,e_to,h⟩:=bX h
  obtain⟨x_va,e_va,h⟩:=bX h
  obtain⟨x_d,e_d,h⟩:=bX h
  obtain⟨x_a,e_a,h⟩:=bX h
  obtain⟨x_bf,e_bf,h⟩:=bX h
  obtain⟨x_b,e_b,h⟩:=bX h
  obtain⟨x_v,e_v,h⟩:=bX h
  obtain⟨x_r,e_r,h⟩:=bX h
  obtain⟨x_s,e_s,h⟩:=bX h
  obtain rfl:=Except.ok.inj h
  have i_ch:=smallE_inv (hp t_ch (by simp)) e_ch
  have i_nn:=smallE_inv (hp t_nn (by simp)) e_nn
  have i_tp:=wordE_inv (hp t_tp (by simp)) e_tp
  have i_pr:=wordE_inv (hp t_pr (by simp)) e_pr
  have i_ga:=smallE_inv (hp t_ga (by simp)) e_ga
  have i_to:=toE_inv (hp t_to (by simp)) e_to
  have i_va:=wordE_inv (hp t_va (by simp)) e_va
  have i_d:=strE_inv (hp t_d (by simp)) e_d
  have i_a:=accessE_inv (hp t_a (by simp)) e_a
  have i_bf:=wordE_inv (hp t_bf (by simp)) e_bf
  have i_b:=hashesE_inv (hp t_b (by simp)) e_b
  have i_v:=vE_inv (hp t_v (by simp)) (by decide) e_v
  have i_r:=wordE_inv (hp t_r (by simp)) e_r
  have i_s:=wordE_inv (hp t_s (by simp)) e_s
  refine⟨?_,⟨(show(0:Int)≤3 by decide),(show(3:Int)≤3 by decide),fun q=>?_,fun q=>?_,fun q=>?_,fun q=>?_⟩,?_,rfl⟩
  ·rw [wIts_3 rfl]
   rw [i_ch, ←i_v.1,i_nn,i_tp,i_pr,i_ga,i_to.1,i_va,i_d,i_a.1,i_bf,i_b.1,i_v.2,i_r,i_s]
   rfl
  ·exact i_to.2 q
  ·exact absurd (show(3:Int)<2 from q) (by decide)
  ·exact absurd (show(3:Int)<3 from q) (by decide)
  ·exact absurd (show(3:Int)=0 from q) (by decide)
  ·exact i_a.2
 ·cases h
theorem txE_inv {k:Nat} {its:List It} {m:TxM} (hp: ∀y∈its,y.plain=y) (h:txE k its=.ok m):its=wIts m∧fitsM m∧AcOk m∧m.ki=(k:Int):=by
 match k with
 |0=>exact tx0_inv hp h
 |1=>exact tx1_inv hp h
 |2=>exact tx2_inv hp h
 |3=>exact tx3_inv hp h
 |k+4=>cases h
theorem deco_plain {b:List UInt8} {t:It} (hb:b.length<2^64) (h:decodeF b=.ok t):t.plain=t:=by
 obtain⟨h1,h2⟩:=decodeF_back hb h
 have h3:=decodeF_form (t:=t) (by rw [h1];exact hb) h2
 rw [h1,h]at h3
 exact(Except.ok.inj h3).symm
/-- What is read is written again. -/
theorem tx_back {b:List UInt8} {m:TxM} (hb:b.length<2^64) (h:readTxE b=.ok m):fitsM m∧AcOk m∧txB m=b∧(itL (wIts m)).form.length≤b.length:=by
 unfold readTxE at h
 split at h
 ·cases h
 ·rename_i k p he
  split at h
  ·rename_i hk
   have hpl:=(envF_len he).2
   obtain⟨t,ht,h⟩:=bX h
   obtain⟨its,hi,h⟩:=bX h
   have hp:=deco_plain (by omega) ht
   obtain⟨rfl,hy⟩:=listE_inv hp hi
   obtain⟨rfl,hf,ha,hki⟩:=txE_inv hy h
   have hform:=(decodeF_back (by omega) ht).1
   refine⟨hf,ha,?_,by rw [hform];exact hpl⟩
   rw [txB,hform,hki]
   unfold envF at he
   split at he
   ·cases he
   ·split at he
    ·simp only [Option.some.injEq,Prod.mk.injEq]at he
     obtain⟨rfl,rfl⟩:=he
     exact congrArg (· ++b) (kindB_0 (k:=((0:Nat):Int)) rfl)
    ·simp only [Option.some.injEq,Prod.mk.injEq]at he
     obtain⟨rfl,rfl⟩:=he
     have h0:0<(b.getD 0 0).toNat:=by rcases hk.2 with q|q<;>exact q
     rw [kindB_n h0]
     cases b with
     |nil=>exact absurd h0 (by decide)
     |cons a r=>
      show [UInt8.ofNat a.toNat]++r=a::r
      rw [UInt8.ofNat_toNat];rfl
  ·cases h
end Go.Proofs.Ytljacjjeinmfnaa
