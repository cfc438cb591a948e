/- Several texts in one: see the remarks ahead of each part. No condition but those told there. -/
import Derived.Test.YtjfagifjajielaaGreatU26
import Derived.Test.YtjfagifjajielaaGreatU29
import Derived.Test.YtjfagifjajielaaGreatU14
set_option linter.unusedSimpArgs false
set_option linter.unusedVariables false
/- Layer 14: a block in new memory, cut. No condition but sizes. -/
namespace Go.Proofs.YtjfagifjajielaaGreat
open Go Go.RowKit
set_option maxRecDepth 100000
/-- A header, a block, cut. -/
def cutH (h:HdM):HdM:= { h with ex:=h.ex.take 200 }
def cutB (m:BlkM):BlkM:= { m with hd:=cutH m.hd,txs:=(m.txs.take 20).map (List.take 3000),oms:=(m.oms.take 5).map cutH,wds:=m.wds.take 20 }
theorem cutH_ok {h:HdM} (k:h.Ok):(cutH h).Ok:=⟨k.pa,k.om,k.co,k.st,k.tx,k.rc,k.bl,k.df,k.mx,k.no,k.bf,k.wd,k.be⟩
theorem nilH_le (K:Heaplet):nilH.le K:=fun _ _ h=>by cases h
theorem bags_up1 {NJ M J:Heaplet} {vs:List Value} {gs:List (List UInt8)} {a:Option Addr} {c:Nat} {g:List UInt8} (h: ∀K:Heaplet,NJ.le K→Bags K vs gs) (hr:RSl M 1 a g.length c (u8s g)) (h1:NJ.le J) (h2:M.le J): ∀K:Heaplet,J.le K→Bags K (vs++ [.slice a g.length c]) (gs++ [g]):=fun K k=>bags_up (NI:=nilH) (fun K a _=>h K a) (fun _ a _=>hr.le a) h1 h2 K k (nilH_le K)
theorem take_stop {α:Type} {l:List α} {i k:Nat} (h1:i≤l.length) (h2:i≤k) (h:l.length≤i∨k≤i):l.take i=l.take k:=by
 rcases h with h|h
 ·rw [List.take_of_length_le h,List.take_of_length_le (by omega)]
 ·rw [show i=k by omega]
theorem fill_blk {H:List Value} {p:Bool} (hH:H.length=556):fillL [(0,556),(556,1),(557,1),(558,1),(559,1)] z54 [(0,.agg H.toArray),(3,.bool p)]=some (blkP H (.slice none 0 0) (.slice none 0 0) p (.slice none 0 0)).flatten:=by
 rw [z_blk]
 have c0:(Value.agg H.toArray).cells.toList=H:=rfl
 have c1:(Value.bool p).cells.toList= [.bool p]:=rfl
 have l0:=bJ (t:=.slice none 0 0) (o:=.slice none 0 0) (p:=false) (w:=.slice none 0 0) hd0_len
 have l1:=bJ (t:=.slice none 0 0) (o:=.slice none 0 0) (p:=false) (w:=.slice none 0 0) hH
 have e0:=bk_h (t:=.slice none 0 0) (o:=.slice none 0 0) (p:=false) (w:=.slice none 0 0) hd0_len hH
 have e1:=bk_p (t:=.slice none 0 0) (o:=.slice none 0 0) (p:=false) (q:=p) (w:=.slice none 0 0) hH
 rw [Nat.zero_add]at e0 e1
 simp only [fillL,List.getElem?_cons_zero,List.getElem?_cons_succ,c0,c1,hH,l0,l1,e0,e1,List.length_singleton]
 rw [if_pos (by decide),if_pos (by decide)]
theorem om_one {xs:List (HdM×Value)} (h: ∀x∈xs,x.2.oneCell'=true): ∀u∈omC xs,u.oneCell'=true:=fun u hu=>by
 obtain⟨x,hx,hu⟩:=List.mem_flatMap.1 hu
 exact List.all_eq_true.1 (HdM.one (h x hx)) u hu
theorem hd_up {NK M J:Heaplet} {ys:List (HdM×Value)} {x:HdM×Value} (h: ∀K:Heaplet,NK.le K→ ∀x∈ys,HdIn K x.1 x.2) (hx:HdIn M x.1 x.2) (h1:NK.le J) (h2:M.le J): ∀K:Heaplet,J.le K→ ∀y∈ys++ [x],HdIn K y.1 y.2:=fun K k y hy=>by
 rcases List.mem_append.1 hy with hy|hy
 ·exact h K (Heaplet.le_trans h1 k) y hy
 ·obtain rfl:=List.mem_singleton.1 hy
  exact hx.le (Heaplet.le_trans h2 k)
section
variable {h : HdM} {v u t o w : Value} {p : Bool}
theorem bx_eq:(blkP (h.cells v) t o p w).flatten=(h.parts v++ [[t],[o],[.bool p],[w]]).flatten:=by
 rw [List.flatten_append];rfl
theorem bx_lens (k:h.Ok):(h.parts v++ [[t],[o],[.bool p],[w]]).map List.length=hdLens++ [1,1,1,1]:=by
 rw [List.map_append,HdM.lens k];rfl
theorem gk_x (k:h.Ok):(blkP (h.cells v) t o p w).flatten[0+0+445]? =some v:=by
 rw [bx_eq];exact aK (bx_lens k) (j:=13) rfl rfl
theorem bk_x (k:h.Ok):setL (blkP (h.cells v) t o p w).flatten (0+0+445) [u]=(blkP (h.cells u) t o p w).flatten:=by
 rw [bx_eq,bx_eq];exact part_put (bx_lens k) (j:=13) rfl rfl _
theorem hk_x (k:h.Ok):(h.cells v)[0+445]? =some v:=aK (HdM.lens k v) (j:=13) rfl rfl
theorem hs_x (k:h.Ok):setL (h.cells v) (0+445) [u]=h.cells u:=part_put (HdM.lens k v) (j:=13) rfl rfl _
end
section
variable {N : Heaplet} {m : BlkM} {cs : List Value}
/-- A block in memory of its own, cut. -/
def TwB (m:BlkM) (v:Value) (L:List Heaplet):Prop:= ∃cs,v=.agg cs.toArray∧ ∀K:Heaplet,(∀M∈L,M.le K)→BlkR K (cutB m) cs
set_option maxHeartbeats 8000000 in
theorem FTwinBlock (hR':BlkR N m cs):Fn Tryz.prog 18 #[.agg cs.toArray] [] [N] (TwB m):=by
 obtain⟨v1,ta,tc,vs,oa,oc,xs,wa,wc,rfl,⟨hk,ea,ec,rfl,hex⟩,hT,hBg,hO,hxs,hxm,hW,hwd⟩:=hR'
 have hH:=HdM.len hk (.slice ea m.hd.ex.length ec)
 have hH':=fun u=>HdM.len hk u
 have hH1:(m.hd.cells (.slice ea m.hd.ex.length ec)).all (·.oneCell')=true:=HdM.one rfl
 have hxl:xs.length=m.oms.length:=by rw [←hxm,List.length_map]
 have z1:=hT.2.1
 have z2:=hO.2.1
 have z3:=hW.2.1
 have z4:=hT.2.2.1
 have z5:=hO.2.2.1
 have z6:=hW.2.2.1
 unfold maxLen at z4 z5 z6
 have hln:=bJ (t:=.slice ta m.txs.length tc) (o:=.slice oa m.oms.length oc) (p:=m.paid) (w:=.slice wa m.wds.length wc) hH
 have hone:=blk_one (p:=m.paid) hH1 (t:=.slice ta m.txs.length tc) (o:=.slice oa m.oms.length oc) (w:=.slice wa m.wds.length wc) rfl rfl rfl
 have gh:((blkP (m.hd.cells (.slice ea m.hd.ex.length ec)) (.slice ta m.txs.length tc) (.slice oa m.oms.length oc) m.paid (.slice wa m.wds.length wc)).flatten.drop (0+0)).take 556=m.hd.cells (.slice ea m.hd.ex.length ec):=part_get (blk_lens hH) (j:=0) rfl rfl hH
 have hl0:=bJ (t:=.slice none 0 0) (o:=.slice none 0 0) (p:=m.paid) (w:=.slice none 0 0) hH
 have hone0:=blk_one (p:=m.paid) hH1 (t:=.slice none 0 0) (o:=.slice none 0 0) (w:=.slice none 0 0) rfl rfl rfl
 refine Fn.enter (vs:= [.agg (blkP (m.hd.cells (.slice ea m.hd.ex.length ec)) (.slice ta m.txs.length tc) (.slice oa m.oms.length oc) m.paid (.slice wa m.wds.length wc)).flatten.toArray]) Tryz.func18 rfl rfl rfl ?_
 intro E R hR
 have hNR:=hR N (by simp)
 have hO':=hO.le hNR
 have hT':=hT.le hNR
 have hW':=hW.le hNR
 change At _ _ E [R] _
 refine At.seq fun _ s_1=>At.region (op_box (aT rfl) rfl rfl rfl (fun N1 b1 B1=>aS (aT rfl) ze54 rfl (fun N2 b2 B2=>?_)))
 change Blk N2 b2 _ z54 at B2
 refine aA (aB (s_1 (At.seq fun _ s_2=>At.region (aF (aC rfl) fl54_0 rfl rfl (aQ (ds:=m.hd.cells (.slice ea m.hd.ex.length ec)) (aC rfl) ag44 rfl B1 (by exact gh) (by exact hH) bM rfl ?_)))))
 refine aF (aC rfl) fl54_3 rfl rfl (aL (aC rfl) sc4 rfl B1 (gk_p hH) bM rfl (op_build (out:=(blkP (m.hd.cells (.slice ea m.hd.ex.length ec)) (.slice none 0 0) (.slice none 0 0) m.paid (.slice none 0 0)).flatten) (aC rfl) ze54 pl54 (.cons rfl (.cons rfl .nil)) (fill_blk hH) rfl (aS (aT rfl) ze54 rfl (fun N3 b3 B3=>?_))))
 change Blk N3 b3 _ z54 at B3
 refine aI (nxl rfl) sz54 rfl rfl rfl hl0 hone0 B3 (by rw [hl0,z54_len];exact Nat.le_refl _) sel0 (fun N3 B3=>?_)
 rw [setL_whole (by rw [hl0,z54_len])]at B3
 refine aA (aB (s_2 (At.seq fun _ s_3=>At.region (aF (aC rfl) fl54_0 rfl rfl (aF (aC rfl) fl44_13 rfl rfl (aL (aC rfl) sc22 rfl B1 (gk_x hk) mem2 rfl (aG (aT rfl) (.cons rfl (.cons rfl .nil)) ((KTwin_f hex 200 200 rfl (by decide)).liftB hNR) Tryz.func6 rfl rfl (by simp) rfl ?_)))))))
 rintro v16 L16 ⟨N16,a16,c16,rfl,rfl,r16⟩
 change At _ _ _ [N16,N3,N2,N1,R] _
 refine aF (aC rfl) fl54_0 rfl rfl (aF (aC rfl) fl44_13 rfl rfl ?_)
 refine aI (nxl rfl) sz22 rfl rfl rfl rfl rfl B3 (by rw [hl0];exact show 0+0+445+1≤560 by decide) sel1 (fun N3 B3=>?_)
 rw [bk_x hk]at B3
 refine aA (aB (s_3 (At.seq fun _ s_4=>At.meet (fun fr_ hp_=> ∃(i:Nat) (a:Option Addr) (c:Nat) (us:List Value) (N3 Na NJ:Heaplet),fr_= [(1,.pointer (some ⟨b1,0,none⟩)),(2,.pointer (some ⟨b2,0,none⟩)),(3,.pointer (some ⟨b3,0,none⟩))]∧hp_= [N3,Na,NJ,N16,N1,N2,R]∧(i≤m.txs.length)∧(Blk N3 b3 54 (blkP (m.hd.cells (.slice a16 (m.hd.ex.take 200).length c16)) (.slice a i c) (.slice none 0 0) m.paid (.slice none 0 0)).flatten)∧(Row Na 22 1 a i c us)∧(∀K:Heaplet,NJ.le K→Bags K us ((m.txs.take i).map (List.take 3000)))∧(m.txs.take i=m.txs.take 20)) ?_ (fun K4_ jk_4=>?_))))
 rotate_left
 ·skip
  refine At.seq fun _ s_5=>At.region (aD (aC rfl) rfl rfl (aA (aB (s_5 (At.block (At.empty (At.empty (At.perm bO (At.perm bE (At.perm bO (At.perm bO (At.perm sel4 (At.perm bE (At.perm bO (At.loop (fun fr_ hp_ ms_=> ∃(i:Nat) (a:Option Addr) (c:Nat) (us:List Value) (N3 Na NJ:Heaplet),fr_= [(1,.pointer (some ⟨b1,0,none⟩)),(2,.pointer (some ⟨b2,0,none⟩)),(3,.pointer (some ⟨b3,0,none⟩)),(4,.int .i64 (i:Int))]∧hp_= [N3,Na,NJ,N16,N1,N2,R]∧m.txs.length- i=ms_∧(i≤m.txs.length)∧(i≤20)∧(Blk N3 b3 54 (blkP (m.hd.cells (.slice a16 (m.hd.ex.take 200).length c16)) (.slice a i c) (.slice none 0 0) m.paid (.slice none 0 0)).flatten)∧(Row Na 22 1 a i c us)∧(∀u∈us,u.oneCell'=true)∧(∀K:Heaplet,NJ.le K→Bags K us ((m.txs.take i).map (List.take 3000)))) ?_ (.refl _) ⟨0,none,0,[],N3,nilH,nilH,rfl,rfl,rfl,Nat.zero_le _,Nat.zero_le _,B3,Row.nil _ _ _,fun u hu=>absurd hu List.not_mem_nil,fun K _=>Bags.nil K⟩ ?_)))))))))))))))
  ·exact .cons (by first|exact a6 rfl (by omega)|rfl) (.cons (by first|exact a6 rfl (by omega)|rfl) (.cons (by first|exact a6 rfl (by omega)|rfl) (.cons (by first|exact a6 rfl (by omega)|rfl) .nil)))
  rintro _ _ _ ⟨i,a,c,us,N3,Na,NJ,rfl,rfl,rfl,hi,hi2,B3,ra,hov,hB⟩
  refine At.seq fun _ s_6=>At.seq fun _ s_7=>At.region (aE (aC rfl) rfl rfl (aF (aC rfl) fl54_1 rfl rfl (aL (aC rfl) sc50 rfl B1 (gk_t hH) mem4 rfl (a7 (aC rfl) se50 rfl rfl (op_lss (aC rfl) rfl rfl rfl (aE (aC rfl) rfl rfl (At.partP (d:=24) rfl (fun g24=>?_) (fun g24=>?_))))))))
  ·refine aE (bF rfl rfl rfl rfl) rfl rfl (op_lss (bF rfl rfl rfl rfl) rfl rfl rfl (bN (aC rfl) rfl rfl rfl (aA (aB (s_7 (aO rfl (fun c27=>?_) (fun c27=>?_)))))))
   ·refine At.knowT (d:=27) rfl c27 ?_
    have hlt:i<m.txs.length:=by omega
    obtain⟨g,hgi⟩: ∃g,m.txs[i]? =some g:=⟨_,List.getElem?_eq_getElem hlt⟩
    obtain⟨pg,cg,hvi,hg⟩:=hBg.rsl i g hgi
    have hg:=hg.le hNR
    refine At.skip (aB (s_6 (At.seq fun _ s_8=>At.block (At.perm bO (At.perm sel1 (At.perm bE (At.perm bO (At.perm bO (At.perm bO (At.perm bO (At.drawnS [N1,N3,R] [9,11] [] [0,1,2,3,4,5,6,7,8,9,10,11] (by kernel_rfl) (by kernel_rfl) (.cons _ (.cons _ (.cons _ (.cons _ (.refl _))))) (aF (nxsf rfl rfl rfl) fl54_1 rfl rfl (aL (nxsf rfl rfl rfl) sc50 rfl B3 (gk_t (hH' _)) bM rfl (aF (nxsf rfl rfl rfl) fl54_1 rfl rfl (aL (nxsf rfl rfl rfl) sc50 rfl B1 (gk_t hH) aP rfl (aE (nxsf rfl rfl rfl) rfl rfl (op_idx1 (nxsf rfl rfl rfl) se50 rfl rfl hT' (show _=(((i:Nat)):Int)from by omega) (by omega) rfl ?_)))))))))))))))))
    refine bK (nxsf rfl rfl rfl) sc22 rfl hT' (by first|exact get8 (by omega)|exact get64 (by omega)|exact get32 (by omega)|exact hvi) (by first|exact aP|exact bM|exact mem2|exact mem3|exact mem4|exact mem5|exact mem6|exact mem7|exact mem8|exact mem9) rfl ?_
    refine aG (Nx.agree (nxsm rfl rfl rfl)) (.cons rfl (.cons rfl .nil)) (KTwin_f hg 3000 3000 rfl (by decide)) Tryz.func6 rfl rfl (by simp) rfl ?_
    rintro v37 L37 ⟨N37,a37,c37,rfl,rfl,r37⟩
    change At _ _ _ [N37,Na,NJ,N16,N2,N1,N3,R] _
    refine At.perm sel7 (At.perm sel7 (At.perm sel7 (At.perm sel3 (At.perm sel7 (At.perm sel7 (At.perm sel7 (At.perm sel7 (bL (Lst:= [N1,N3,R]) (Lst':= [N37,N1,N3,R]) (.cons _ (.refl _)) (.cons _ (.cons _ (.cons _ (.cons _ (.refl _))))) (op_lit (Nx.agree (nxsm rfl rfl rfl)) Tryz.underlying50 ze22 sz22 (.cons rfl .nil) rfl rfl (by simp [Value.cells]) rfl rfl rfl (fun N38 a38 r38=>?_))))))))))
    simp only [flatV,List.flatMap_cons,List.flatMap_nil,Value.cells,List.append_nil,List.cons_append,List.nil_append]at r38
    have s38:=r38.rsl
    refine At.perm sel8 (At.perm sel8 (At.perm sel8 (At.perm sel8 (At.perm sel4 (At.perm sel8 (At.perm sel8 (At.perm sel8 (At.perm sel8 (bL (Lst:= [N37,N1,N3,R]) (Lst':= [N38,N37,N1,N3,R]) (.cons _ (.refl _)) (.cons _ (.cons _ (.cons _ (.cons _ (.refl _))))) ?_)))))))))
    refine op_append (nxss rfl rfl rfl rfl) Tryz.underlying50 Tryz.underlying50 te22 rfl rfl ra (by assumption) (by first|exact aP|exact bM|exact mem2|exact mem3|exact mem4|exact mem5|exact mem6|exact mem7|exact mem8|exact mem9) (fun u hu=>by rw [List.mem_singleton.1 hu];rfl) (by omega) (by omega) sel0 rfl (fun N39 a39 p39 r39=>?_)
    have s39:=r39.rsl
    refine At.anyS (.refl _) (aF (nxsf rfl rfl rfl) fl54_1 rfl rfl ?_)
    refine aI (nxsl rfl rfl rfl rfl) sz50 rfl rfl rfl rfl rfl B3 (by rw [bJ (hH' _)];exact show 0+556+1≤560 by decide) sel7 (fun N3 B3=>?_)
    rw [bk_t (hH' _)]at B3
    refine At.sNil (bC (aB (s_8 (At.region (aE (aC rfl) rfl rfl (bI (aC rfl) rfl rfl (by omega) (by omega) rfl (aD (aC rfl) rfl rfl (aA (aB (At.perm sel8 (At.perm sel8 (At.perm sel7 (At.perm sel7 (At.perm sel7 (At.perm bO (At.perm bO (At.perm sel8 (At.perm sel8 (bB (fun W W1 W2=>At.sub (L':= [W,N3,N39,N16,N2,N1,R]) (.cons_cons _ (.cons_cons _ (.cons_cons _ (.cons_cons _ (.cons_cons _ (.cons _ (.cons_cons _ (.cons_cons _ (.slnil))))))))) (At.perm bO ?_)))))))))))))))))))))
    refine At.perm bE (At.perm bO (At.perm bO (At.perm sel4 (At.perm bO (At.perm bO ?_)))))
    refine At.back ?_ (.refl _) ⟨i+1,a39,p39,us++ [.slice a37 (g.take 3000).length c37],N3,N39,W,rfl,rfl,rfl,by omega,by omega,B3,r39,one_snoc hov,by rw [take_next2 hgi,List.map_append];exact bags_up1 hB r37.rsl W1 W2⟩ ?_
    ·exact .cons (by first|exact a6 rfl (by omega)|rfl) (.cons (by first|exact a6 rfl (by omega)|rfl) (.cons (by first|exact a6 rfl (by omega)|rfl) (.cons (by first|exact a6 rfl (by omega)|rfl) .nil)))
    ·omega
   refine At.knowF (d:=27) rfl c27 (At.exit (aM (aM (At.inHit (aB (jk_4 ?_ (.refl _) ⟨i,a,c,us,N3,Na,NJ,rfl,rfl,hi,B3,ra,hB,take_stop hi hi2 (by omega)⟩))))))
   exact .cons (by first|exact a6 rfl (by omega)|rfl) (.cons (by first|exact a6 rfl (by omega)|rfl) (.cons (by first|exact a6 rfl (by omega)|rfl) .nil))
  refine aN rfl rfl rfl rfl rfl rfl rfl (aN rfl rfl rfl rfl rfl rfl rfl (op_pickF (aC rfl) rfl rfl rfl (aA (aB (s_7 (At.condF rfl (At.exit (aM (aM (At.inHit (aB (jk_4 ?_ (.refl _) ⟨i,a,c,us,N3,Na,NJ,rfl,rfl,hi,B3,ra,hB,take_stop hi hi2 (by omega)⟩))))))))))))
  exact .cons (by first|exact a6 rfl (by omega)|rfl) (.cons (by first|exact a6 rfl (by omega)|rfl) (.cons (by first|exact a6 rfl (by omega)|rfl) .nil))
 rintro _ _ ⟨i,a,c,us,N3,Na,NJ,rfl,rfl,hi,B3,ra,hB,hst1⟩
 refine s_4 (At.seq fun _ s_9=>At.meet (fun fr_ hp_=> ∃(j:Nat) (a2:Option Addr) (c2:Nat) (ys:List (HdM×Value)) (N3 Nb NK:Heaplet),fr_= [(1,.pointer (some ⟨b1,0,none⟩)),(2,.pointer (some ⟨b2,0,none⟩)),(3,.pointer (some ⟨b3,0,none⟩))]∧hp_= [N3,Nb,NK,Na,NJ,N16,N1,N2,R]∧(j≤m.oms.length)∧(Blk N3 b3 54 (blkP (m.hd.cells (.slice a16 (m.hd.ex.take 200).length c16)) (.slice a i c) (.slice a2 j c2) m.paid (.slice none 0 0)).flatten)∧(Row Nb 44 556 a2 j c2 (omC ys))∧(∀K:Heaplet,NK.le K→ ∀x∈ys,HdIn K x.1 x.2)∧(ys.map Prod.fst=(m.oms.take j).map cutH)∧(m.oms.take j=m.oms.take 5)) ?_ (fun K9_ jk_9=>?_))
 rotate_left
 ·skip
  refine At.seq fun _ s_10=>At.region (aD (aC rfl) rfl rfl (aA (aB (s_10 (At.block (At.empty (At.empty (At.perm sel8 (At.perm sel8 (At.perm sel8 (At.perm sel8 (At.perm sel8 (At.perm sel8 (At.perm bO (At.perm sel7 (At.perm sel8 (At.loop (fun fr_ hp_ ms_=> ∃(j:Nat) (a2:Option Addr) (c2:Nat) (ys:List (HdM×Value)) (N3 Nb NK:Heaplet),fr_= [(1,.pointer (some ⟨b1,0,none⟩)),(2,.pointer (some ⟨b2,0,none⟩)),(3,.pointer (some ⟨b3,0,none⟩)),(5,.int .i64 (j:Int))]∧hp_= [N3,Nb,NK,Na,NJ,N16,N1,N2,R]∧m.oms.length- j=ms_∧(j≤m.oms.length)∧(j≤5)∧(Blk N3 b3 54 (blkP (m.hd.cells (.slice a16 (m.hd.ex.take 200).length c16)) (.slice a i c) (.slice a2 j c2) m.paid (.slice none 0 0)).flatten)∧(Row Nb 44 556 a2 j c2 (omC ys))∧(∀K:Heaplet,NK.le K→ ∀x∈ys,HdIn K x.1 x.2)∧(ys.map Prod.fst=(m.oms.take j).map cutH)) ?_ (.refl _) ⟨0,none,0,[],N3,nilH,nilH,rfl,rfl,rfl,Nat.zero_le _,Nat.zero_le _,B3,Row.nil _ _ _,fun K _ x hx=>absurd hx List.not_mem_nil,rfl⟩ ?_)))))))))))))))))
  ·exact .cons (by first|exact a6 rfl (by omega)|rfl) (.cons (by first|exact a6 rfl (by omega)|rfl) (.cons (by first|exact a6 rfl (by omega)|rfl) (.cons (by first|exact a6 rfl (by omega)|rfl) .nil)))
  rintro _ _ _ ⟨j,a2,c2,ys,N3,Nb,NK,rfl,rfl,rfl,hj,hj2,B3,rb,hy,hym⟩
  refine At.seq fun _ s_11=>At.seq fun _ s_12=>At.region (aE (aC rfl) rfl rfl (aF (aC rfl) fl54_2 rfl rfl (aL (aC rfl) sc51 rfl B1 (gk_o hH) mem6 rfl (a7 (aC rfl) se51 rfl rfl (op_lss (aC rfl) rfl rfl rfl (aE (aC rfl) rfl rfl (At.partP (d:=46) rfl (fun g46=>?_) (fun g46=>?_))))))))
  ·refine aE (bF rfl rfl rfl rfl) rfl rfl (op_lss (bF rfl rfl rfl rfl) rfl rfl rfl (bN (aC rfl) rfl rfl rfl (aA (aB (s_12 (aO rfl (fun c49=>?_) (fun c49=>?_)))))))
   ·refine At.knowT (d:=49) rfl c49 ?_
    have hlt:j<xs.length:=by omega
    obtain⟨⟨xh,xv⟩,hxi⟩: ∃x,xs[j]? =some x:=⟨_,List.getElem?_eq_getElem hlt⟩
    obtain⟨hxk,xa,xc,hxv,hxe⟩:=hxs _ (List.mem_of_getElem? hxi)
    simp only at hxv hxk hxe
    subst hxv
    have hgi:m.oms[j]? =some xh:=by rw [←hxm,List.getElem?_map,hxi];rfl
    have hxl2:=fun u=>HdM.len hxk u
    have hx1: ∀u:Value,u.oneCell'=true→(xh.cells u).all (·.oneCell')=true:=fun u hu=>HdM.one hu
    refine At.skip (aB (s_11 (At.seq fun _ s_13=>At.block (At.seq fun _ s_14=>At.region (aF (aC rfl) fl54_2 rfl rfl (aL (aC rfl) sc51 rfl B1 (gk_o hH) mem6 rfl (aE (aC rfl) rfl rfl (op_idxE (aC rfl) se51 rfl rfl hO' (show _=(((j:Nat)):Int)from by omega) (by omega) rfl ?_))))))))
    refine op_loadAggE (ds:=xh.cells (.slice xa xh.ex.length xc)) (aC rfl) ag44 rfl hO' (by exact flat_at (fun x:HdM×Value=>x.1.cells x.2) (omC_cells hxs) hxi) (by exact hxl2 _) (by omega) (by first|exact aP|exact bM|exact mem2|exact mem3|exact mem4|exact mem5|exact mem6|exact mem7|exact mem8|exact mem9) rfl ?_
    refine aS (aT rfl) ze44 rfl (fun N6 b6 B6=>?_)
    change Blk N6 b6 _ z44 at B6
    refine aI (nxl rfl) sz44 rfl rfl rfl (hxl2 _) (hx1 _ rfl) B6 (by rw [hxl2];exact Nat.le_refl _) sel0 (fun N6 B6=>?_)
    rw [setL_whole (by rw [hxl2];rfl)]at B6
    refine aA (aB (s_14 (At.seq fun _ s_15=>At.region (aF (aC rfl) fl44_13 rfl rfl (aL (aC rfl) sc22 rfl B6 (hk_x hxk) aP rfl (aG (aT rfl) (.cons rfl (.cons rfl .nil)) ((KTwin_f hxe 200 200 rfl (by decide)).liftB hNR) Tryz.func6 rfl rfl (by simp) rfl ?_))))))
    rintro v59 L59 ⟨N59,a59,c59,rfl,rfl,r59⟩
    change At _ _ _ [N59,N6,N3,Nb,NK,Na,NJ,N16,N1,N2,R] _
    refine aF (aC rfl) fl44_13 rfl rfl ?_
    refine aI (nxl rfl) sz22 rfl rfl rfl rfl rfl B6 (by rw [hxl2];exact show 0+445+1≤556 by decide) sel1 (fun N6 B6=>?_)
    rw [hs_x hxk]at B6
    refine aA (aB (s_15 (At.region (aF (aC rfl) fl54_2 rfl rfl (aL (aC rfl) sc51 rfl B3 (gk_o (hH' _)) mem2 rfl (aQ (ds:=xh.cells (.slice a59 (xh.ex.take 200).length c59)) (aC rfl) ag44 rfl B6 (by exact tk_all (hxl2 _)) (by exact hxl2 _) aP rfl ?_))))))
    refine op_lit (aT rfl) Tryz.underlying51 ze44 sz44 (.cons rfl .nil) rfl rfl (by(intro p hp;rw [List.mem_singleton.1 hp];exact hxl2 _)) rfl rfl rfl (fun N64 a64 r64=>?_)
    simp only [flatV,List.flatMap_cons,List.flatMap_nil,Value.cells,List.append_nil,List.cons_append,List.nil_append]at r64
    have s64:=r64.rsl
    have s64:RSl N64 556 a64 1 1 (omC [(cutH xh,.slice a59 (xh.ex.take 200).length c59)]):=by
     have:=r64.rsl
     simp only [omC,List.flatMap_cons,List.flatMap_nil,List.append_nil]
     exact this
    refine op_append (nxl rfl) Tryz.underlying51 Tryz.underlying51 te44 rfl rfl rb s64 (by first|exact aP|exact bM|exact mem2|exact mem3|exact mem4|exact mem5|exact mem6|exact mem7|exact mem8|exact mem9|exact mem10|exact mem11) (om_one (fun x hx=>by rw [List.mem_singleton.1 hx];rfl)) (by omega) (by omega) sel4 rfl (fun N65 a65 p65 r65=>?_)
    have s65:=r65.rsl
    rw [omC,omC, ←List.flatMap_append]at r65
    change Row N65 _ 556 a65 (j+1) p65 (omC (ys++ [(cutH xh,.slice a59 (xh.ex.take 200).length c59)]))at r65
    refine aF (aC rfl) fl54_2 rfl rfl ?_
    refine aI (nxl rfl) sz51 rfl rfl rfl rfl rfl B3 (by rw [bJ (hH' _)];exact show 0+557+1≤560 by decide) sel4 (fun N3 B3=>?_)
    rw [bk_o (hH' _)]at B3
    refine aA (bC (aB (s_13 (At.region (aE (aC rfl) rfl rfl (bI (aC rfl) rfl rfl (by omega) (by omega) rfl (aD (aC rfl) rfl rfl (aA (aB (At.perm sel11 (At.perm sel11 (At.perm sel11 (At.perm sel11 (At.perm sel11 (At.perm sel11 (At.perm bH (At.perm bH (At.perm bH (At.perm bH (At.perm bD (At.perm sel11 ?_)))))))))))))))))))))
    refine bB (fun W W1 W2=>At.sub (L':= [W,N3,N65,Na,NJ,N16,N1,N2,R]) (.cons_cons _ (.cons_cons _ (.cons_cons _ (.cons _ (.cons _ (.cons_cons _ (.cons_cons _ (.cons_cons _ (.cons_cons _ (.cons_cons _ (.cons_cons _ (.slnil)))))))))))) (At.perm sel8 (At.perm sel8 (At.perm sel8 (At.perm sel8 (At.perm sel8 (At.perm sel8 (At.perm bO (At.perm sel8 (At.perm sel8 ?_))))))))))
    refine At.back ?_ (.refl _) ⟨j+1,a65,p65,ys++ [(cutH xh,.slice a59 (xh.ex.take 200).length c59)],N3,N65,W,rfl,rfl,rfl,by omega,by omega,B3,r65,hd_up hy ⟨cutH_ok hxk,a59,c59,rfl,r59.rsl⟩ W1 W2,by rw [take_next2 hgi,List.map_append,List.map_append,hym];rfl⟩ ?_
    ·exact .cons (by first|exact a6 rfl (by omega)|rfl) (.cons (by first|exact a6 rfl (by omega)|rfl) (.cons (by first|exact a6 rfl (by omega)|rfl) (.cons (by first|exact a6 rfl (by omega)|rfl) .nil)))
    ·omega
   refine At.knowF (d:=49) rfl c49 (At.exit (aM (aM (At.inHit (aB (jk_9 ?_ (.refl _) ⟨j,a2,c2,ys,N3,Nb,NK,rfl,rfl,hj,B3,rb,hy,hym,take_stop hj hj2 (by omega)⟩))))))
   exact .cons (by first|exact a6 rfl (by omega)|rfl) (.cons (by first|exact a6 rfl (by omega)|rfl) (.cons (by first|exact a6 rfl (by omega)|rfl) .nil))
  refine aN rfl rfl rfl rfl rfl rfl rfl (aN rfl rfl rfl rfl rfl rfl rfl (op_pickF (aC rfl) rfl rfl rfl (aA (aB (s_12 (At.condF rfl (At.exit (aM (aM (At.inHit (aB (jk_9 ?_ (.refl _) ⟨j,a2,c2,ys,N3,Nb,NK,rfl,rfl,hj,B3,rb,hy,hym,take_stop hj hj2 (by omega)⟩))))))))))))
  exact .cons (by first|exact a6 rfl (by omega)|rfl) (.cons (by first|exact a6 rfl (by omega)|rfl) (.cons (by first|exact a6 rfl (by omega)|rfl) .nil))
 rintro _ _ ⟨j,a2,c2,ys,N3,Nb,NK,rfl,rfl,hj,B3,rb,hy,hym,hst2⟩
 refine s_9 (At.seq fun _ s_16=>At.meet (fun fr_ hp_=> ∃(k:Nat) (a3:Option Addr) (c3:Nat) (N3 Nc:Heaplet),fr_= [(2,.pointer (some ⟨b2,0,none⟩)),(3,.pointer (some ⟨b3,0,none⟩))]∧hp_= [N3,Nc,Nb,NK,Na,NJ,N16,N2,R]∧(k≤m.wds.length)∧(Blk N3 b3 54 (blkP (m.hd.cells (.slice a16 (m.hd.ex.take 200).length c16)) (.slice a i c) (.slice a2 j c2) m.paid (.slice a3 k c3)).flatten)∧(Row Nc 125 23 a3 k c3 (wdsC (m.wds.take k)))∧(m.wds.take k=m.wds.take 20)) ?_ (fun K16_ jk_16=>?_))
 rotate_left
 ·skip
  refine At.seq fun _ s_17=>At.region (aD (aC rfl) rfl rfl (aA (aB (s_17 (At.block (At.empty (At.perm bH (At.perm bH (At.perm bH (At.perm bH (At.perm bH (At.perm bH (At.perm bH (At.perm bH (At.perm sel8 (At.perm bH (At.loop (fun fr_ hp_ ms_=> ∃(k:Nat) (a3:Option Addr) (c3:Nat) (N3 Nc:Heaplet),fr_= [(1,.pointer (some ⟨b1,0,none⟩)),(2,.pointer (some ⟨b2,0,none⟩)),(3,.pointer (some ⟨b3,0,none⟩)),(7,.int .i64 (k:Int))]∧hp_= [N3,Nc,Nb,NK,Na,NJ,N16,N1,N2,R]∧m.wds.length- k=ms_∧(k≤m.wds.length)∧(k≤20)∧(Blk N3 b3 54 (blkP (m.hd.cells (.slice a16 (m.hd.ex.take 200).length c16)) (.slice a i c) (.slice a2 j c2) m.paid (.slice a3 k c3)).flatten)∧(Row Nc 125 23 a3 k c3 (wdsC (m.wds.take k)))) ?_ (.refl _) ⟨0,none,0,N3,nilH,rfl,rfl,rfl,Nat.zero_le _,Nat.zero_le _,B3,Row.nil _ _ _⟩ ?_)))))))))))))))))
  ·exact .cons (by first|exact a6 rfl (by omega)|rfl) (.cons (by first|exact a6 rfl (by omega)|rfl) (.cons (by first|exact a6 rfl (by omega)|rfl) (.cons (by first|exact a6 rfl (by omega)|rfl) .nil)))
  rintro _ _ _ ⟨k,a3,c3,N3,Nc,rfl,rfl,rfl,hk',hk2,B3,rc⟩
  refine At.seq fun _ s_18=>At.seq fun _ s_19=>At.region (aE (aC rfl) rfl rfl (aF (aC rfl) fl54_4 rfl rfl (aL (aC rfl) sc52 rfl B1 (gk_w hH) mem7 rfl (a7 (aC rfl) se52 rfl rfl (op_lss (aC rfl) rfl rfl rfl (aE (aC rfl) rfl rfl (At.partP (d:=72) rfl (fun g72=>?_) (fun g72=>?_))))))))
  ·refine aE (bF rfl rfl rfl rfl) rfl rfl (op_lss (bF rfl rfl rfl rfl) rfl rfl rfl (bN (aC rfl) rfl rfl rfl (aA (aB (s_19 (aO rfl (fun c75=>?_) (fun c75=>?_)))))))
   ·refine At.knowT (d:=75) rfl c75 ?_
    have hlt:k<m.wds.length:=by omega
    obtain⟨w,hgi⟩: ∃w,m.wds[k]? =some w:=⟨_,List.getElem?_eq_getElem hlt⟩
    have hwa:=hwd w (List.mem_of_getElem? hgi)
    have hwl:=wdC_len (i:=w.ix) (v:=w.va) (m:=w.am) hwa
    have hwc: ∀x∈m.wds,(WdM.cells x).length=23:=fun x hx=>wdC_len (hwd x hx)
    refine At.skip (aB (s_18 (At.seq fun _ s_20=>At.block (At.perm bH (At.perm sel1 (At.perm sel8 (At.perm bH (At.perm bH (At.perm bH (At.perm bH (At.perm bH (At.perm bH (At.perm bH (At.drawnS [N1,N3,R] [8,10] [] [0,1,2,3,4,5,6,7,8,9,10] (by kernel_rfl) (by kernel_rfl) (.cons _ (.cons _ (.cons _ (.cons _ (.cons _ (.cons _ (.cons _ (.refl _)))))))) (aF (nxsf rfl rfl rfl) fl54_4 rfl rfl (aL (nxsf rfl rfl rfl) sc52 rfl B3 (gk_w (hH' _)) bM rfl (aF (nxsf rfl rfl rfl) fl54_4 rfl rfl (aL (nxsf rfl rfl rfl) sc52 rfl B1 (gk_w hH) aP rfl (aE (nxsf rfl rfl rfl) rfl rfl (op_idxE (nxsf rfl rfl rfl) se52 rfl rfl hW' (show _=(((k:Nat)):Int)from by omega) (by omega) rfl ?_))))))))))))))))))))
    refine op_loadAggE (ds:=wdC w.ix w.va w.ad w.am) (nxsf rfl rfl rfl) ag125 rfl hW' (by exact flat_at WdM.cells hwc hgi) (by exact hwl) (by omega) (by first|exact aP|exact bM|exact mem2|exact mem3|exact mem4|exact mem5|exact mem6|exact mem7|exact mem8|exact mem9) rfl ?_
    refine op_lit (Nx.agree (nxsm rfl rfl rfl)) Tryz.underlying52 ze125 sz125 (.cons rfl .nil) rfl rfl (by(intro p hp;rw [List.mem_singleton.1 hp];exact hwl)) rfl rfl rfl (fun N85 a85 r85=>?_)
    simp only [flatV,List.flatMap_cons,List.flatMap_nil,Value.cells,List.append_nil,List.cons_append,List.nil_append]at r85
    have s85:=r85.rsl
    refine At.perm bD (At.perm bD (At.perm bD (At.perm sel3 (At.perm bD (At.perm bD (At.perm bD (At.perm bD (At.perm bD (At.perm bD (At.perm bD (bL (Lst:= [N1,N3,R]) (Lst':= [N85,N1,N3,R]) (.cons _ (.refl _)) (.cons _ (.cons _ (.cons _ (.cons _ (.cons _ (.cons _ (.cons _ (.refl _)))))))) ?_)))))))))))
    have s85:RSl N85 23 a85 1 1 (wdsC [w]):=by
     have:=r85.rsl
     simp only [wdsC,List.flatMap_cons,List.flatMap_nil,List.append_nil]
     exact this
    refine op_append (nxss rfl rfl rfl rfl) Tryz.underlying52 Tryz.underlying52 te125 rfl rfl rc s85 (by first|exact aP|exact bM|exact mem2|exact mem3|exact mem4|exact mem5|exact mem6|exact mem7|exact mem8|exact mem9) (wdsC_one _) (by omega) (by omega) sel0 rfl (fun N86 a86 p86 r86=>?_)
    have s86:=r86.rsl
    refine At.anyS (.refl _) ?_
    rw [wdsC,wdsC, ←List.flatMap_append]at r86
    change Row N86 _ 23 a86 (k+1) p86 (wdsC (m.wds.take k++ [w]))at r86
    refine aF (nxsf rfl rfl rfl) fl54_4 rfl rfl ?_
    refine aI (nxsl rfl rfl rfl rfl) sz52 rfl rfl rfl rfl rfl B3 (by rw [bJ (hH' _)];exact show 0+559+1≤560 by decide) bH (fun N3 B3=>?_)
    rw [bk_w (hH' _)]at B3
    refine At.sNil (bC (aB (s_20 (At.region (aE (aC rfl) rfl rfl (bI (aC rfl) rfl rfl (by omega) (by omega) rfl (aD (aC rfl) rfl rfl (aA (aB (At.sub (L':= [N3,N86,Nb,NK,Na,NJ,N16,N2,N1,R]) (.cons_cons _ (.cons_cons _ (.cons_cons _ (.cons_cons _ (.cons_cons _ (.cons_cons _ (.cons_cons _ (.cons_cons _ (.cons _ (.cons_cons _ (.cons_cons _ (.slnil)))))))))))) (At.perm bH (At.perm sel8 (At.perm bH (At.perm bH (At.perm bH (At.perm bH (At.perm bH (At.perm bH (At.perm bH (At.perm bH ?_))))))))))))))))))))
    refine At.back ?_ (.refl _) ⟨k+1,a86,p86,N3,N86,rfl,rfl,rfl,by omega,by omega,B3,by rw [take_next2 hgi];exact r86⟩ ?_
    ·exact .cons (by first|exact a6 rfl (by omega)|rfl) (.cons (by first|exact a6 rfl (by omega)|rfl) (.cons (by first|exact a6 rfl (by omega)|rfl) (.cons (by first|exact a6 rfl (by omega)|rfl) .nil)))
    ·omega
   refine At.knowF (d:=75) rfl c75 (At.exit (aM (aM (At.inHit (At.sub (L':= [N3,Nc,Nb,NK,Na,NJ,N16,N2,R]) (.cons_cons _ (.cons_cons _ (.cons_cons _ (.cons_cons _ (.cons_cons _ (.cons_cons _ (.cons_cons _ (.cons _ (.cons_cons _ (.cons_cons _ (.slnil))))))))))) (aB (jk_16 ?_ (.refl _) ⟨k,a3,c3,N3,Nc,rfl,rfl,hk',B3,rc,take_stop hk' hk2 (by omega)⟩)))))))
   exact .cons (by first|exact a6 rfl (by omega)|rfl) (.cons (by first|exact a6 rfl (by omega)|rfl) .nil)
  refine aN rfl rfl rfl rfl rfl rfl rfl (aN rfl rfl rfl rfl rfl rfl rfl (op_pickF (aC rfl) rfl rfl rfl (aA (aB (s_19 (At.condF rfl (At.exit (aM (aM (At.inHit (At.sub (L':= [N3,Nc,Nb,NK,Na,NJ,N16,N2,R]) (.cons_cons _ (.cons_cons _ (.cons_cons _ (.cons_cons _ (.cons_cons _ (.cons_cons _ (.cons_cons _ (.cons _ (.cons_cons _ (.cons_cons _ (.slnil))))))))))) (aB (jk_16 ?_ (.refl _) ⟨k,a3,c3,N3,Nc,rfl,rfl,hk',B3,rc,take_stop hk' hk2 (by omega)⟩)))))))))))))
  exact .cons (by first|exact a6 rfl (by omega)|rfl) (.cons (by first|exact a6 rfl (by omega)|rfl) .nil)
 rintro _ _ ⟨k,a3,c3,N3,Nc,rfl,rfl,hk',B3,rc,hst3⟩
 refine s_16 (At.seq fun _ s_21=>At.region (aQ (ds:=_) (aC rfl) ag54 rfl B3 (by exact tk_all (bJ (hH' _))) (by exact bJ (hH' _)) aP rfl ?_))
 refine aI (nxl rfl) sz54 rfl rfl rfl (bJ (hH' _)) (blk_one (HdM.one rfl) rfl rfl rfl) B2 (by rw [bJ (hH' _),z54_len];exact Nat.le_refl _) sel7 (fun N2 B2=>?_)
 rw [setL_whole (by rw [bJ (hH' _),z54_len])]at B2
 refine aA (aB (s_21 (At.ret ((At.sub (L':= [N2,Nc,Nb,NK,Na,NJ,N16,R]) (.cons_cons _ (.cons _ (.cons_cons _ (.cons_cons _ (.cons_cons _ (.cons_cons _ (.cons_cons _ (.cons_cons _ (.cons_cons _ (.slnil)))))))))) (At.perm sel7 (At.perm sel2 (At.perm sel3 (At.perm sel4 (At.perm bE (At.perm bO (At.perm sel7 (At.perm sel7 (aW (L1:= [N16,NJ,Na,NK,Nb,Nc]) rfl (.cell rfl (aZ (ds:=_) ag54 B2 (tk_all (bJ (hH' _))) (bJ (hH' _)) aP) .nil) (.cons _ (.refl _)) (.refl _) ?_))))))))))))))
 rw [hst1]at hB
 rw [hst2]at hym
 rw [hst3]at rc
 have e1:i=(cutB m).txs.length:=by
  show i=((m.txs.take 20).map (List.take 3000)).length
  rw [List.length_map, ←hst1,List.length_take];omega
 have e2:j=(cutB m).oms.length:=by
  show j=((m.oms.take 5).map cutH).length
  rw [List.length_map, ←hst2,List.length_take];omega
 have e3:k=(cutB m).wds.length:=by
  show k=(m.wds.take 20).length
  rw [←hst3,List.length_take];omega
 rw [e1,e2,e3]
 rw [e1]at ra
 rw [e2]at rb
 rw [e3]at rc
 exact⟨_,rfl,fun K hK=>⟨.slice a16 (m.hd.ex.take 200).length c16,a,c,us,a2,c2,ys,a3,c3,rfl,⟨cutH_ok hk,a16,c16,rfl,r16.rsl.le (hK _ (by simp))⟩,ra.rsl.le (hK _ (by simp)),hB K (hK _ (by simp)),rb.rsl.le (hK _ (by simp)),hy K (hK _ (by simp)),hym,rc.rsl.le (hK _ (by simp)),fun x hx=>hwd x (List.mem_of_mem_take hx)⟩⟩
end
end Go.Proofs.YtjfagifjajielaaGreat
/- Layer 14: 'quarrylaw14.BookBlock' answers true. No condition but sizes. -/
namespace Go.Proofs.YtjfagifjajielaaGreat
open Go Go.RowKit
set_option maxRecDepth 100000
theorem ins_form {g:List UInt8} {t:It} (hg:g.length≤4294967296) (h:insE g=some t):t.form.length≤g.length+9:=by
 rcases(ins_some h).2 with ⟨_,rfl⟩|⟨_,hd⟩
 ·exact formS_len g (by omega)
 ·rw [(decodeF_back (by omega) hd).1];omega
theorem list_bound {l:List It} {B n:Nat} (h: ∀t∈l,t.form.length≤B) (hl:l.length≤n) (hn:n*B≤100000):(itL l).form.length≤n*B+9:=by
 have h1:=forms_bound h
 have h2:l.length*B≤n*B:=Nat.mul_le_mul_right _ hl
 have:=formL_len l (by omega)
 omega
theorem cutB_sz (m:BlkM):(cutB m).Sz:=by
 refine⟨?_,?_,?_,?_⟩
 ·simp only [cutB,List.length_map,List.length_take];omega
 ·intro g hg
  simp only [cutB]at hg
  obtain⟨x,_,rfl⟩:=List.mem_map.1 hg
  rw [List.length_take];omega
 ·simp only [cutB,List.length_map,List.length_take];omega
 ·simp only [cutB,List.length_take];omega
theorem cutB_form {m:BlkM} (hk:m.hd.Ok) (ho: ∀x∈m.oms,x.Ok) (hw: ∀x∈m.wds,x.ad.length=20): ∀its,insAll (cutB m).txs=some its→(blkIt (cutB m) its).form.length≤1000000:=fun its hi=>by
 have e: ∀h:HdM,(cutH h).ex.length≤200:=fun h=>by simp only [cutH,List.length_take];omega
 have a0:=HdM.form_len (cutH_ok hk) (by have:=e m.hd;omega)
 have a0':=e m.hd
 have a1:(itL its).form.length≤20*3009+9:=list_bound (fun t ht=>by
  obtain⟨g,hg,hgt⟩:=insAll_mem hi t ht
  simp only [cutB]at hg
  obtain⟨x,_,rfl⟩:=List.mem_map.1 hg
  have:(x.take 3000).length≤3000:=by rw [List.length_take];omega
  have:=ins_form (by omega) hgt
  omega) (by rw [insAll_len hi];simp only [cutB,List.length_map,List.length_take];omega) (by decide)
 have a2:(itL ((cutB m).oms.map HdM.it)).form.length≤5*2200+9:=list_bound (fun t ht=>by
  obtain⟨x,hx,rfl⟩:=List.mem_map.1 ht
  simp only [cutB]at hx
  obtain⟨y,hy,rfl⟩:=List.mem_map.1 hx
  have:=e y
  have:=HdM.form_len (cutH_ok (ho y (List.mem_of_mem_take hy))) (by omega)
  omega) (by simp only [cutB,List.length_map,List.length_take];omega) (by decide)
 have a3:(itL ((cutB m).wds.map wdI)).form.length≤20*200+9:=list_bound (fun t ht=>by
  obtain⟨x,hx,rfl⟩:=List.mem_map.1 ht
  exact wdIt_len (hw x (List.mem_of_mem_take hx))) (by simp only [cutB,List.length_map,List.length_take];omega) (by decide)
 have h1:=forms_bound (its:=blkParts (cutB m) its) (B:=70000) fun t ht=>by
  unfold blkParts at ht
  rcases List.mem_append.1 ht with ht|ht
  ·simp only [List.mem_cons,List.not_mem_nil,or_false]at ht
   rcases ht with rfl|rfl|rfl
   ·have:(cutB m).hd.it=(cutH m.hd).it:=rfl
    rw [this];omega
   ·omega
   ·omega
  ·split at ht
   ·rw [List.mem_singleton.1 ht];omega
   ·cases ht
 have h2:(blkParts (cutB m) its).length≤4:=by
  unfold blkParts
  split<;>simp
 have h3:(blkParts (cutB m) its).length*70000≤4*70000:=Nat.mul_le_mul_right _ h2
 have:=formL_len (blkParts (cutB m) its) (by omega)
 rw [blkIt];omega
theorem wBlk_len {m:BlkM} {bs:List UInt8} {B:Nat} (h: ∀its,insAll m.txs=some its→(blkIt m its).form.length≤B) (hw:wBlk m=some bs):bs.length≤B:=by
 unfold wBlk at hw
 split at hw
 ·split at hw
  ·cases hw
  ·rename_i its hi
   split at hw
   ·cases hw;exact h its hi
   ·cases hw
 ·cases hw
section
variable {N : Heaplet} {m : BlkM} {cs : List Value}
theorem field_hd (cs:List Value) (w:World):(Instr.field 54 (.agg cs.toArray) 0).run Tryz.prog w=.ok (.agg (cs.take 556).toArray) w:=by
 obtain⟨h1,h2⟩:=run_isAgg_agg (P:=Tryz.prog) (w:=w) (t:=44) (k:=556) (by kernel_rfl)
 simp [Instr.field,Sem.run_bind,run_underlying Tryz.underlying54,part,h1,h2,asAgg]
theorem BlkR.field (h:BlkR N m cs): ∃v,HdIn N m.hd v∧(∀w,(Instr.field 54 (.agg cs.toArray) 0).run Tryz.prog w=.ok (.agg (m.hd.cells v).toArray) w)∧cs[0+0+0]? =some (.int .i64 m.hd.fi):=by
 obtain⟨v1,ta,tc,vs,oa,oc,xs,wa,wc,rfl,hi,_⟩:=h
 have hH:=HdM.len hi.1 v1
 refine⟨v1,hi,fun w=>?_,?_⟩
 ·rw [field_hd]
  have:=part_get (blk_lens (t:=.slice ta m.txs.length tc) (o:=.slice oa m.oms.length oc) (p:=m.paid) (w:=.slice wa m.wds.length wc) hH) (j:=0) (o:=0) rfl rfl hH
  rw [List.drop_zero]at this
  rw [this]
 ·rw [←hd_f0 (v:=v1)]
  show(m.hd.cells v1++_)[0]? =_
  rw [List.getElem?_append_left (by omega)]
theorem BlkR.oks (h:BlkR N m cs):m.hd.Ok∧(∀x∈m.oms,x.Ok)∧ ∀x∈m.wds,x.ad.length=20:=by
 obtain⟨v1,ta,tc,vs,oa,oc,xs,wa,wc,rfl,hi,_,_,_,h1,h2,_,h3⟩:=h
 refine⟨hi.1,fun x hx=>?_,h3⟩
 rw [←h2]at hx
 obtain⟨y,hy,rfl⟩:=List.mem_map.1 hx
 exact(h1 y hy).1
theorem FTwB_g (hR:BlkR N m cs):Fn Tryz.prog 18 #[.agg cs.toArray] [] [N] (fun v L=> ∃M cs,v=.agg cs.toArray∧L= [M]∧BlkR M (cutB m) cs):=(FTwinBlock hR).one.mono fun v L ⟨M,L',e,⟨cs,h1,h2⟩,h3⟩=>⟨M,cs,h1,e,h2 M h3⟩
theorem RWB_some {bs:List UInt8} (hw:wBlk m=some bs) (h:Fn Tryz.prog 19 #[.agg cs.toArray] [] [N] (RWBlkP m)):Fn Tryz.prog 19 #[.agg cs.toArray] [] [N] (fun v L=> ∃M p c,v=.tuple #[.slice p bs.length c,.bool true]∧L= [M]∧RSl M 1 p bs.length c (u8s bs)):=h.mono fun v L hp=>by
 rcases hp with ⟨bs',M,p,c,h1,h2,h3,r⟩|⟨h1,_⟩
 ·rw [hw]at h1
  obtain rfl:=Option.some.inj h1
  exact⟨M,p,c,h2,h3,r.rsl⟩
 ·rw [hw]at h1;cases h1
theorem RWB_none (hw:wBlk m=none) (h:Fn Tryz.prog 19 #[.agg cs.toArray] [] [N] (RWBlkP m)):Fn Tryz.prog 19 #[.agg cs.toArray] [] [N] (fun v L=>v=.tuple #[.slice none 0 0,.bool false]∧L= []):=h.mono fun v L hp=>by
 rcases hp with ⟨bs',M,p,c,h1,h2,h3,r⟩|⟨_,h2⟩
 ·rw [hw]at h1;cases h1
 ·exact h2
theorem FReadBlock_t {ao:Option Addr} {n cap:Nat} {b:List UInt8} {m:BlkM} (h:RSl N 1 ao n cap (u8s b)) (hn:n≤4294967295) (hm:readBlkE b=.ok m):Fn Tryz.prog 13 #[.slice ao n cap] [] [N] (fun v L=> ∃(M:Heaplet) (cs:List Value) (p:Bool) (wa:Option Addr) (k wc:Nat),v=.tuple #[.agg cs.toArray,.int .i64 0]∧L= [M]∧cs.length=560∧cs.all (·.oneCell')=true∧cs[0+558]? =some (.bool p)∧cs[0+559]? =some (.slice wa k wc)∧(p=false→k=0)):=(FReadBlock h hn).one.mono fun v L ⟨M,L',e1,hp,hl⟩=>by
 rcases hp with ⟨e,_,_,_,h4⟩|⟨NI,NT,NK,NO,NW,m',cs,h1,rfl,h3,h4⟩
 ·rw [hm]at h4;cases h4
 ·obtain⟨l1,l2⟩:=h4.len
  obtain⟨v1,ta,tc,vs,ys,oa,oc,xs,wa,wc,t,zs,zt,rfl,k1,_,_,_,_,_,_,_,_,_,_,hq,_⟩:=h4
  have hH:=HdM.len k1 v1
  exact⟨M,_,m'.paid,wa,m'.wds.length,wc,h1,e1,l1,l2,gk_p hH,gk_w hH,fun q=>by rw [hq q];rfl⟩
theorem FWH_or {h:HdM} {v:Value} (hi:HdIn N h v) (hx:h.ex.length≤4294960000):Fn Tryz.prog 20 #[.agg (h.cells v).toArray] [] [N] (fun v L=>(∃M p c,okF h.fi∧v=.tuple #[.slice p h.it.form.length c,.int .i64 0]∧L= [M]∧RSl M 1 p h.it.form.length c (u8s h.it.form))∨(¬okF h.fi∧v=.tuple #[.slice none 0 0,.int .i64 1]∧L= [])):=by
 obtain⟨k,ea,ec,rfl,r⟩:=hi
 by_cases hv:okF h.fi
 ·exact(FWriteHeader_ok k r hv hx).mono fun v L ⟨M,p,c,h1,h2,h3⟩=>.inl ⟨M,p,c,hv,h1,h2,h3⟩
 ·exact(FWriteHeader_bad k r hv).mono fun v L ⟨h1,h2⟩=>.inr ⟨hv,h1,h2⟩
theorem RWriteHeader {h:HdM} {v:Value} (hi:HdIn N h v) (hx:h.ex.length≤4294960000) (hv:okF h.fi):Fn Tryz.prog 22 #[.agg (h.cells v).toArray] [] [N] (FormP h.it):=by
 obtain⟨k,ea,ec,rfl,r⟩:=hi
 have hcl:=HdM.len k (.slice ea h.ex.length ec)
 have hfl:=HdM.form_len k hx
 refine Fn.enter (vs:= [.agg (h.cells (.slice ea h.ex.length ec)).toArray]) Tryz.func22 rfl rfl rfl ?_
 intro E R hR
 have hNR:=hR N (by simp)
 change At _ _ E [R] _
 refine At.seq fun _ s_1=>At.region (op_box (aT rfl) rfl rfl rfl (fun N1 b1 B1=>aD (aC rfl) rfl rfl (aA (aB (s_1 (At.seq fun _ s_2=>At.region (aQ (ds:=h.cells (.slice ea h.ex.length ec)) (aC rfl) ag44 rfl B1 (by exact tk_all hcl) (by exact hcl) aP rfl ?_)))))))
 refine aG (aT rfl) (.cons rfl .nil) ((rHeader k r (by omega) hv).liftB hNR) Tryz.func70 rfl rfl (by simp) rfl ?_
 rintro v4 L4 ⟨J4,x4,rfl,rfl,j4⟩
 change At _ _ _ [J4,N1,R] _
 refine aG (aT rfl) (.cons rfl .nil) (rForm_b (j4 J4 (Heaplet.le_refl _)) (by omega)) Tryz.func60 rfl rfl (by simp) rfl ?_
 rintro v5 L5 ⟨M5,p5,k5,rfl,rfl,r5⟩
 change At _ _ _ [M5,J4,N1,R] _
 refine aD (aC rfl) rfl rfl (aA (aB (s_2 (At.ret ((At.sub (L':= [M5,R]) (.cons_cons _ (.cons _ (.cons _ (.cons_cons _ (.slnil))))) (aW (L1:= [M5]) rfl (.tmp rfl .nil) (.refl _) (.refl _) ?_)))))))
 exact⟨M5,p5,k5,rfl,rfl,r5⟩
theorem RF_t {n:Int} (h:okF n):Fn Tryz.prog 21 #[.int .i64 n] [] [] (fun v L=>v=.bool true∧L= []):=(RFields n).mono fun v L ⟨h1,h2⟩=>by rw [decide_eq_true h]at h1;exact⟨h1,h2⟩
theorem RF_f {n:Int} (h: ¬okF n):Fn Tryz.prog 21 #[.int .i64 n] [] [] (fun v L=>v=.bool false∧L= []):=(RFields n).mono fun v L ⟨h1,h2⟩=>by rw [decide_eq_false h]at h1;exact⟨h1,h2⟩
set_option maxHeartbeats 8000000 in
theorem BookBlock_f (hR':BlkR N m cs):Fn Tryz.prog 4 #[.agg cs.toArray] [] [N] (fun v L=>v=.bool true∧L= []):=by
 obtain⟨hk,ho,hw⟩:=hR'.oks
 obtain⟨hcl,hc1⟩:=hR'.one
 obtain⟨_,_,_,gfi⟩:=hR'.field
 have hTw:=FTwB_g hR'
 have hfm:=cutB_form hk ho hw
 have hzc:=cutB_sz m
 have hkc:(cutB m).hd.Ok:=cutH_ok hk
 have hoc: ∀x∈(cutB m).oms,x.Ok:=fun x hx=>by
  obtain⟨y,hy,rfl⟩:=List.mem_map.1 hx
  exact cutH_ok (ho y (List.mem_of_mem_take hy))
 have hwc: ∀x∈(cutB m).wds,x.ad.length=20:=fun x hx=>hw x (List.mem_of_mem_take hx)
 have hex:(cutB m).hd.ex.length≤200∧ ∀h∈(cutB m).oms,h.ex.length≤200:=⟨by show(m.hd.ex.take 200).length≤200;rw [List.length_take];omega,fun x hx=>by
  obtain⟨y,hy,rfl⟩:=List.mem_map.1 hx
  show(y.ex.take 200).length≤200;rw [List.length_take];omega⟩
 have htl: ∀g∈(cutB m).txs,g.length<2^64:=fun g hg=>by have:=hzc.tl g hg;omega
 have hfi:(cutB m).hd.fi=m.hd.fi:=rfl
 obtain⟨q,hq⟩: ∃q,cutB m=q:=⟨_,rfl⟩
 rw [hq]at hTw hfm hzc hkc hoc hwc hex htl hfi
 refine Fn.enter (vs:= [.agg cs.toArray]) Tryz.func4 rfl rfl rfl ?_
 intro E R hR
 have hNR:=hR N (by simp)
 change At _ _ E [R] _
 refine At.seq fun _ s_1=>At.region (op_box (aT rfl) rfl rfl rfl (fun N1 b1 B1=>aD (aC rfl) rfl rfl (aA (aB (s_1 (At.seq fun _ s_2=>At.region (aQ (ds:=cs) (aC rfl) ag54 rfl B1 (by exact tk_all hcl) (by exact hcl) aP rfl ?_)))))))
 refine aG (aT rfl) (.cons rfl .nil) (hTw.liftB hNR) Tryz.func18 rfl rfl (by simp) rfl ?_
 rintro v12 L12 ⟨M12,cs12,rfl,rfl,q12⟩
 change At _ _ _ [M12,N1,R] _
 refine aG (aT rfl) (.cons rfl .nil) (FWriteBlock q12 hzc (fun its hi=>Nat.le_trans (hfm its hi) (by decide))) Tryz.func17 rfl rfl (by simp) rfl ?_
 rintro v13 L13 (⟨bs,M13,p13,c13,hwb,rfl,rfl,r13⟩|⟨hwb,rfl,rfl⟩)
 ·change At _ _ _ [M13,M12,N1,R] _
  have s13:=r13.rsl;have hbl:=wBlk_len hfm hwb;obtain⟨m2,hm2⟩:=blk_there (by omega) htl hkc hoc hwc hwb
  refine aE (aC rfl) rfl rfl (aH (aC rfl) rfl rfl rfl (aH (aC rfl) rfl rfl rfl (aD (aC rfl) rfl rfl (aD (aC rfl) rfl rfl (aA (aB (s_2 (At.seq fun _ s_3=>At.region (aQ (ds:=cs) (aC rfl) ag54 rfl B1 (by exact tk_all hcl) (by exact hcl) mem2 rfl ?_)))))))))
  refine aG (aT rfl) (.cons rfl .nil) (hTw.liftB hNR) Tryz.func18 rfl rfl (by simp) rfl ?_
  rintro v18 L18 ⟨M18,cs18,rfl,rfl,q18⟩
  change At _ _ _ [M18,M13,M12,N1,R] _
  refine aG (aT rfl) (.cons rfl .nil) (RWB_some hwb (RWriteBlock q18 hzc ⟨by have:=hex.1;omega,fun h hh=>by have:=hex.2 h hh;omega⟩ (fun its hi=>Nat.le_trans (hfm its hi) (by decide)))) Tryz.func19 rfl rfl (by simp) rfl ?_
  rintro v19 L19 ⟨M19,p19,c19,rfl,rfl,r19⟩
  change At _ _ _ [M19,M18,M13,M12,N1,R] _
  refine aE (aC rfl) rfl rfl (aH (aC rfl) rfl rfl rfl (aH (aC rfl) rfl rfl rfl (aD (aC rfl) rfl rfl (aD (aC rfl) rfl rfl (aA (aB (s_3 (At.seq fun _ s_4=>At.seq fun _ s_5=>At.region (aE (aC rfl) rfl rfl (aE (aC rfl) rfl rfl (op_eql (aC rfl) rfl rfl rfl (op_neB (aC rfl) Tryz.underlying4 rfl rfl rfl (aE (aC rfl) rfl rfl (At.part (d:=26) rfl (fun g26=>?_) (fun g26=>?_)))))))))))))))
  ·exact absurd g26 (by decide)
  refine aE (bF rfl rfl rfl rfl) rfl rfl (op_str (bF rfl rfl rfl rfl) Tryz.underlying22 Tryz.underlying5 Tryz.underlying9 rfl (by assumption) (by first|exact aP|exact bM|exact mem2|exact mem3|exact mem4|exact mem5|exact mem6|exact mem7|exact mem8|exact mem9) rfl ?_)
  refine aE (bF rfl rfl rfl rfl) rfl rfl (op_str (bF rfl rfl rfl rfl) Tryz.underlying22 Tryz.underlying5 Tryz.underlying9 rfl (by assumption) (by first|exact aP|exact bM|exact mem2|exact mem3|exact mem4|exact mem5|exact mem6|exact mem7|exact mem8|exact mem9) rfl ?_)
  refine op_neS (bF rfl rfl rfl rfl) rfl rfl rfl (op_pickF (aC rfl) rfl rfl rfl (aE (aC rfl) rfl rfl (At.partP (d:=33) rfl (fun g33=>?_) (fun g33=>?_))))
  ·exact absurd rfl g33
  refine aE (bF rfl rfl rfl rfl) rfl rfl (op_not (bF rfl rfl rfl rfl) rfl rfl (aE (bF rfl rfl rfl rfl) rfl rfl (aN rfl rfl rfl rfl rfl rfl rfl (aN rfl rfl rfl rfl rfl rfl rfl (op_pickF (bF rfl rfl rfl rfl) rfl rfl rfl (op_pickF (aC rfl) rfl rfl rfl (aA (aB (s_5 (At.condF rfl (At.skip (aB (s_4 (At.seq fun _ s_6=>At.meet (fun fr_ hp_=>fr_= [(1,.pointer (some ⟨b1,0,none⟩))]∧hp_= [N1,R]∧(True)) ?_ (fun K6_ jk_6=>?_)))))))))))))))
  rotate_left
  ·skip
   refine At.seq fun _ s_7=>At.region (aE (aC rfl) rfl rfl (aA (aB (s_7 (At.condT rfl (At.seq fun _ s_8=>At.region (aE (aC rfl) rfl rfl (aG (aT rfl) (.cons rfl .nil) (FReadBlock_t s13 (by omega) hm2) Tryz.func13 rfl rfl (by simp) rfl ?_))))))))
   rintro v44 L44 ⟨M44,cs44,pd,wa,kw,wc,rfl,rfl,l44,o44,g44,w44,hpd⟩
   change At _ _ _ [M44,M19,M18,M13,M12,N1,R] _
   refine aE (aC rfl) rfl rfl (aH (aC rfl) rfl rfl rfl (aH (aC rfl) rfl rfl rfl (aS (aT rfl) ze54 rfl (fun N7 b7 B7=>?_))))
   change Blk N7 b7 _ z54 at B7
   refine aI (nxl rfl) sz54 rfl rfl rfl l44 o44 B7 (by rw [l44,z54_len];exact Nat.le_refl _) sel0 (fun N7 B7=>?_)
   rw [setL_whole (by rw [l44,z54_len])]at B7
   refine aD (aC rfl) rfl rfl (aA (aB (s_8 (At.seq fun _ s_9=>At.region (aE (aC rfl) rfl rfl (op_neq (aC rfl) rfl rfl rfl (aE (aC rfl) rfl rfl (At.partP (d:=49) rfl (fun g49=>?_) (fun g49=>?_)))))))))
   ·exact absurd rfl g49
   refine aF (bF rfl rfl rfl rfl) fl54_3 rfl rfl (aL (bF rfl rfl rfl rfl) sc4 rfl B7 (g44) aP rfl (op_not (bF rfl rfl rfl rfl) rfl rfl (aE (bF rfl rfl rfl rfl) rfl rfl (At.part (d:=53) rfl (fun g53=>?_) (fun g53=>?_)))))
   ·refine aF (bF rfl rfl rfl rfl) fl54_4 rfl rfl (aL (bF rfl rfl rfl rfl) sc52 rfl B7 (w44) aP rfl (a7 (bF rfl rfl rfl rfl) se52 rfl rfl (op_gtr (bF rfl rfl rfl rfl) rfl rfl rfl (bN (bF rfl rfl rfl rfl) rfl rfl rfl (op_pickF (aC rfl) rfl rfl rfl (aA (aB (s_9 (aO rfl (fun c59=>?_) (fun c59=>?_))))))))))
    ·exfalso;have:=hpd (by simpa using g53);omega
    refine At.knowF (d:=59) rfl c59 (At.skip (At.sub (L':= [N1,R]) (.cons _ (.cons _ (.cons _ (.cons _ (.cons _ (.cons _ (.cons_cons _ (.cons_cons _ (.slnil))))))))) (aB (jk_6 ?_ (.refl _) ⟨rfl,rfl,trivial⟩))))
    exact .cons (by first|exact a6 rfl (by omega)|rfl) .nil
   refine aN rfl rfl rfl rfl rfl rfl rfl (aN rfl rfl rfl rfl rfl rfl rfl (aN rfl rfl rfl rfl rfl rfl rfl (aN rfl rfl rfl rfl rfl rfl rfl (op_pickF (bF rfl rfl rfl rfl) rfl rfl rfl (op_pickF (aC rfl) rfl rfl rfl (aA (aB (s_9 (At.condF rfl (At.skip (At.sub (L':= [N1,R]) (.cons _ (.cons _ (.cons _ (.cons _ (.cons _ (.cons _ (.cons_cons _ (.cons_cons _ (.slnil))))))))) (aB (jk_6 ?_ (.refl _) ⟨rfl,rfl,trivial⟩)))))))))))))
   exact .cons (by first|exact a6 rfl (by omega)|rfl) .nil
  rintro _ _ ⟨rfl,rfl,ht⟩
  refine s_6 (At.seq fun _ s_10=>At.region (aQ (ds:=cs) (aC rfl) ag54 rfl B1 (by exact tk_all hcl) (by exact hcl) aP rfl ?_))
  refine aG (aT rfl) (.cons rfl .nil) (hTw.liftB hNR) Tryz.func18 rfl rfl (by simp) rfl ?_
  rintro v62 L62 ⟨M62,cs62,rfl,rfl,q62⟩
  change At _ _ _ [M62,N1,R] _
  obtain⟨v62,i62,f62,_⟩:=q62.field
  refine op_field (cs:=cs62) (v:=.agg (q.hd.cells v62).toArray) (fo:=0) (aC rfl) f62 rfl rfl ?_
  refine aG (aT rfl) (.cons rfl .nil) (FWH_or i62 (by have:=hex.1;omega)) Tryz.func20 rfl rfl (by simp) rfl ?_
  rintro v64 L64 (⟨M64,p64,c64,hok,rfl,rfl,s64⟩|⟨hbad,rfl,rfl⟩)
  ·change At _ _ _ [M64,M62,N1,R] _
   refine aE (aC rfl) rfl rfl (aH (aC rfl) rfl rfl rfl (aH (aC rfl) rfl rfl rfl (aD (aC rfl) rfl rfl (aD (aC rfl) rfl rfl (aA (aB (s_10 (At.seq fun _ s_11=>At.seq fun _ s_12=>At.region (aF (aC rfl) fl54_0 rfl rfl (aF (aC rfl) fl44_0 rfl rfl (aL (aC rfl) sc3 rfl B1 (gfi) mem2 rfl (aG (aT rfl) (.cons rfl .nil) (RF_t (hfi▸hok)) Tryz.func21 rfl rfl (by simp) rfl ?_))))))))))))
   rintro v70 L70 ⟨rfl,rfl⟩
   change At _ _ _ [M64,M62,N1,R] _
   refine op_not (aC rfl) rfl rfl (aA (aB (s_12 (At.condF rfl (At.skip (aB (s_11 (At.seq fun _ s_13=>At.perm sel3 (At.perm sel1 (At.perm sel3 (At.perm sel3 (At.drawnS [N1,M64,R] [13] [3] [0,1,2,3,4,5,6,7,8,9,10,11,12,13,14,15] (by kernel_rfl) (by kernel_rfl) (.cons _ (.refl _)) (aE (nxsf rfl rfl rfl) rfl rfl (op_eql (nxsf rfl rfl rfl) rfl rfl rfl (aE (nxsf rfl rfl rfl) rfl rfl (At.partP (d:=84) rfl (fun g84=>?_) (fun g84=>?_)))))))))))))))))
   rotate_left
   ·exact absurd rfl g84
   refine aE (nxsgf rfl rfl rfl rfl rfl rfl) rfl rfl (op_str (nxsgf rfl rfl rfl rfl rfl rfl) Tryz.underlying22 Tryz.underlying5 Tryz.underlying9 rfl (by assumption) (by first|exact aP|exact bM|exact mem2|exact mem3|exact mem4|exact mem5|exact mem6|exact mem7|exact mem8|exact mem9) rfl ?_)
   refine aQ (ds:=cs) (nxsgf rfl rfl rfl rfl rfl rfl) ag54 rfl B1 (by exact tk_all hcl) (by exact hcl) aP rfl ?_
   refine aG (Nx.agree (nxsgm rfl rfl rfl rfl rfl rfl)) (.cons rfl .nil) (hTw.liftB hNR) Tryz.func18 rfl rfl (by simp) rfl ?_
   rintro v88 L88 ⟨M88,cs88,rfl,rfl,q88⟩
   change At _ _ _ [M88,M62,N1,M64,R] _
   obtain⟨v88,i88,f88,_⟩:=q88.field
   refine At.perm sel4 (At.perm sel4 (At.perm sel4 (At.perm sel3 (At.perm sel4 (bL (Lst:= [N1,M64,R]) (Lst':= [M88,N1,M64,R]) (.cons _ (.refl _)) (.cons _ (.refl _)) (op_field (cs:=cs88) (v:=.agg (q.hd.cells v88).toArray) (fo:=0) (nxsgf rfl rfl rfl rfl rfl rfl) f88 rfl rfl ?_))))))
   refine aG (Nx.agree (nxsgm rfl rfl rfl rfl rfl rfl)) (.cons rfl .nil) (RWriteHeader i88 (by have:=hex.1;omega) hok) Tryz.func22 rfl rfl (by simp) rfl ?_
   rintro v90 L90 ⟨M90,p90,c90,rfl,rfl,r90⟩
   change At _ _ _ [M90,M62,M88,N1,M64,R] _
   have s90:=r90.rsl
   refine At.perm bE (At.perm bE (At.perm bE (At.perm bE (At.perm sel4 (At.perm bE (bL (Lst:= [M88,N1,M64,R]) (Lst':= [M90,M88,N1,M64,R]) (.cons _ (.refl _)) (.cons _ (.refl _)) (op_str (nxsgf rfl rfl rfl rfl rfl rfl) Tryz.underlying22 Tryz.underlying5 Tryz.underlying9 rfl (by assumption) (by first|exact aP|exact bM|exact mem2|exact mem3|exact mem4|exact mem5|exact mem6|exact mem7|exact mem8|exact mem9) rfl ?_)))))))
   refine op_eqS (nxsgf rfl rfl rfl rfl rfl rfl) rfl rfl rfl (bN (nxsf rfl rfl rfl) rfl rfl rfl (aE (nxsf rfl rfl rfl) rfl rfl (At.partP (d:=94) rfl (fun g94=>?_) (fun g94=>?_))))
   rotate_left
   ·exact absurd rfl g94
   refine aG (Nx.agree (nxsgs rfl rfl rfl rfl rfl rfl rfl)) .nil (BWakes_f) Tryz.func16 rfl rfl (by simp) rfl ?_
   rintro v95 L95 ⟨rfl,rfl⟩
   change At _ _ _ [M62,M90,M88,N1,M64,R] _
   refine At.anyS (.refl _) (bN (nxsf rfl rfl rfl) rfl rfl rfl (aD (nxsf rfl rfl rfl) rfl rfl (At.sNil (aB (s_13 (At.ret ((At.sub (L':= [R]) (.cons _ (.cons _ (.cons _ (.cons _ (.cons _ (.cons_cons _ (.slnil))))))) (aW (L1:= []) rfl (.tmp rfl .nil) (.refl _) (.refl _) ?_)))))))))
   exact⟨rfl,rfl⟩
  change At _ _ _ [M62,N1,R] _
  refine aE (aC rfl) rfl rfl (aH (aC rfl) rfl rfl rfl (aH (aC rfl) rfl rfl rfl (aD (aC rfl) rfl rfl (aD (aC rfl) rfl rfl (aA (aB (s_10 (At.seq fun _ s_14=>At.seq fun _ s_15=>At.region (aF (aC rfl) fl54_0 rfl rfl (aF (aC rfl) fl44_0 rfl rfl (aL (aC rfl) sc3 rfl B1 (gfi) bM rfl (aG (aT rfl) (.cons rfl .nil) (RF_f (hfi▸hbad)) Tryz.func21 rfl rfl (by simp) rfl ?_))))))))))))
  rintro v70 L70 ⟨rfl,rfl⟩
  change At _ _ _ [M62,N1,R] _
  refine op_not (aC rfl) rfl rfl (aA (aB (s_15 (At.condT rfl (At.seq fun _ s_16=>At.region (aE (aC rfl) rfl rfl (op_eql (aC rfl) rfl rfl rfl (aE (aC rfl) rfl rfl (At.partP (d:=74) rfl (fun g74=>?_) (fun g74=>?_))))))))))
  rotate_left
  ·exact absurd rfl g74
  refine aE (bF rfl rfl rfl rfl) rfl rfl (a7 (bF rfl rfl rfl rfl) se22 rfl rfl (op_eql (bF rfl rfl rfl rfl) rfl rfl rfl (bN (aC rfl) rfl rfl rfl (aE (aC rfl) rfl rfl (At.partP (d:=79) rfl (fun g79=>?_) (fun g79=>?_))))))
  rotate_left
  ·exact absurd rfl g79
  refine aG (nxga rfl rfl rfl rfl) .nil (BWakes_f) Tryz.func16 rfl rfl (by simp) rfl ?_
  rintro v80 L80 ⟨rfl,rfl⟩
  change At _ _ _ [M62,N1,R] _
  refine bN (aC rfl) rfl rfl rfl (aD (aC rfl) rfl rfl (aA (aB (s_16 (At.ret (aJ ((At.sub (L':= [R]) (.cons _ (.cons _ (.cons_cons _ (.slnil)))) (aW (L1:= []) rfl (.tmp rfl .nil) (.refl _) (.refl _) ?_)))))))))
  exact⟨rfl,rfl⟩
 change At _ _ _ [M12,N1,R] _
 have z13:RSl R 1 none 0 0 (u8s []):=RSl.nil _ _
 refine aE (aC rfl) rfl rfl (aH (aC rfl) rfl rfl rfl (aH (aC rfl) rfl rfl rfl (aD (aC rfl) rfl rfl (aD (aC rfl) rfl rfl (aA (aB (s_2 (At.seq fun _ s_17=>At.region (aQ (ds:=cs) (aC rfl) ag54 rfl B1 (by exact tk_all hcl) (by exact hcl) bM rfl ?_)))))))))
 refine aG (aT rfl) (.cons rfl .nil) (hTw.liftB hNR) Tryz.func18 rfl rfl (by simp) rfl ?_
 rintro v18 L18 ⟨M18,cs18,rfl,rfl,q18⟩
 change At _ _ _ [M18,M12,N1,R] _
 refine aG (aT rfl) (.cons rfl .nil) (RWB_none hwb (RWriteBlock q18 hzc ⟨by have:=hex.1;omega,fun h hh=>by have:=hex.2 h hh;omega⟩ (fun its hi=>Nat.le_trans (hfm its hi) (by decide)))) Tryz.func19 rfl rfl (by simp) rfl ?_
 rintro v19 L19 ⟨rfl,rfl⟩
 change At _ _ _ [M18,M12,N1,R] _
 refine aE (aC rfl) rfl rfl (aH (aC rfl) rfl rfl rfl (aH (aC rfl) rfl rfl rfl (aD (aC rfl) rfl rfl (aD (aC rfl) rfl rfl (aA (aB (s_17 (At.seq fun _ s_18=>At.seq fun _ s_19=>At.region (aE (aC rfl) rfl rfl (aE (aC rfl) rfl rfl (op_eql (aC rfl) rfl rfl rfl (op_neB (aC rfl) Tryz.underlying4 rfl rfl rfl (aE (aC rfl) rfl rfl (At.part (d:=26) rfl (fun g26=>?_) (fun g26=>?_)))))))))))))))
 ·exact absurd g26 (by decide)
 refine aE (bF rfl rfl rfl rfl) rfl rfl (op_str (bF rfl rfl rfl rfl) Tryz.underlying22 Tryz.underlying5 Tryz.underlying9 rfl (by assumption) (by first|exact aP|exact bM|exact mem2|exact mem3|exact mem4|exact mem5|exact mem6|exact mem7|exact mem8|exact mem9) rfl ?_)
 refine aE (bF rfl rfl rfl rfl) rfl rfl (op_str (bF rfl rfl rfl rfl) Tryz.underlying22 Tryz.underlying5 Tryz.underlying9 rfl (by assumption) (by first|exact aP|exact bM|exact mem2|exact mem3|exact mem4|exact mem5|exact mem6|exact mem7|exact mem8|exact mem9) rfl ?_)
 refine op_neS (bF rfl rfl rfl rfl) rfl rfl rfl (op_pickF (aC rfl) rfl rfl rfl (aE (aC rfl) rfl rfl (At.partP (d:=33) rfl (fun g33=>?_) (fun g33=>?_))))
 ·exact absurd rfl g33
 refine aE (bF rfl rfl rfl rfl) rfl rfl (op_not (bF rfl rfl rfl rfl) rfl rfl (aE (bF rfl rfl rfl rfl) rfl rfl (aE (bF rfl rfl rfl rfl) rfl rfl (op_neq (bF rfl rfl rfl rfl) rfl rfl rfl (bN (bF rfl rfl rfl rfl) rfl rfl rfl (op_pickF (aC rfl) rfl rfl rfl (aA (aB (s_19 (aO rfl (fun c40=>?_) (fun c40=>?_)))))))))))
 ·exact absurd rfl c40
 refine At.knowF (d:=40) rfl c40 (At.skip (aB (s_18 (At.seq fun _ s_20=>At.seq fun _ s_21=>At.region (aE (aC rfl) rfl rfl (aA (aB (s_21 (At.condF rfl (At.skip (aB (s_20 (At.seq fun _ s_22=>At.region (aQ (ds:=cs) (aC rfl) ag54 rfl B1 (by exact tk_all hcl) (by exact hcl) mem2 rfl ?_))))))))))))))
 refine aG (aT rfl) (.cons rfl .nil) (hTw.liftB hNR) Tryz.func18 rfl rfl (by simp) rfl ?_
 rintro v62 L62 ⟨M62,cs62,rfl,rfl,q62⟩
 change At _ _ _ [M62,M18,M12,N1,R] _
 obtain⟨v62,i62,f62,_⟩:=q62.field
 refine op_field (cs:=cs62) (v:=.agg (q.hd.cells v62).toArray) (fo:=0) (aC rfl) f62 rfl rfl ?_
 refine aG (aT rfl) (.cons rfl .nil) (FWH_or i62 (by have:=hex.1;omega)) Tryz.func20 rfl rfl (by simp) rfl ?_
 rintro v64 L64 (⟨M64,p64,c64,hok,rfl,rfl,s64⟩|⟨hbad,rfl,rfl⟩)
 ·change At _ _ _ [M64,M62,M18,M12,N1,R] _
  refine aE (aC rfl) rfl rfl (aH (aC rfl) rfl rfl rfl (aH (aC rfl) rfl rfl rfl (aD (aC rfl) rfl rfl (aD (aC rfl) rfl rfl (aA (aB (s_22 (At.seq fun _ s_23=>At.seq fun _ s_24=>At.region (aF (aC rfl) fl54_0 rfl rfl (aF (aC rfl) fl44_0 rfl rfl (aL (aC rfl) sc3 rfl B1 (gfi) mem4 rfl (aG (aT rfl) (.cons rfl .nil) (RF_t (hfi▸hok)) Tryz.func21 rfl rfl (by simp) rfl ?_))))))))))))
  rintro v70 L70 ⟨rfl,rfl⟩
  change At _ _ _ [M64,M62,M18,M12,N1,R] _
  refine op_not (aC rfl) rfl rfl (aA (aB (s_24 (At.condF rfl (At.skip (aB (s_23 (At.seq fun _ s_25=>At.perm bE (At.perm sel1 (At.perm bE (At.perm bE (At.perm bE (At.perm bE (At.drawnS [N1,M64,R] [13] [3] [0,1,2,3,4,5,6,7,8,9,10,11,12,13,14,15] (by kernel_rfl) (by kernel_rfl) (.cons _ (.cons _ (.cons _ (.refl _)))) (aE (nxsf rfl rfl rfl) rfl rfl (op_eql (nxsf rfl rfl rfl) rfl rfl rfl (aE (nxsf rfl rfl rfl) rfl rfl (At.partP (d:=84) rfl (fun g84=>?_) (fun g84=>?_)))))))))))))))))))
  rotate_left
  ·exact absurd rfl g84
  refine aE (nxsgf rfl rfl rfl rfl rfl rfl) rfl rfl (op_str (nxsgf rfl rfl rfl rfl rfl rfl) Tryz.underlying22 Tryz.underlying5 Tryz.underlying9 rfl (by assumption) (by first|exact aP|exact bM|exact mem2|exact mem3|exact mem4|exact mem5|exact mem6|exact mem7|exact mem8|exact mem9) rfl ?_)
  refine aQ (ds:=cs) (nxsgf rfl rfl rfl rfl rfl rfl) ag54 rfl B1 (by exact tk_all hcl) (by exact hcl) aP rfl ?_
  refine aG (Nx.agree (nxsgm rfl rfl rfl rfl rfl rfl)) (.cons rfl .nil) (hTw.liftB hNR) Tryz.func18 rfl rfl (by simp) rfl ?_
  rintro v88 L88 ⟨M88,cs88,rfl,rfl,q88⟩
  change At _ _ _ [M88,M62,M18,M12,N1,M64,R] _
  obtain⟨v88,i88,f88,_⟩:=q88.field
  refine At.perm bO (At.perm bO (At.perm bO (At.perm sel3 (At.perm bO (At.perm bO (At.perm bO (bL (Lst:= [N1,M64,R]) (Lst':= [M88,N1,M64,R]) (.cons _ (.refl _)) (.cons _ (.cons _ (.cons _ (.refl _)))) (op_field (cs:=cs88) (v:=.agg (q.hd.cells v88).toArray) (fo:=0) (nxsgf rfl rfl rfl rfl rfl rfl) f88 rfl rfl ?_))))))))
  refine aG (Nx.agree (nxsgm rfl rfl rfl rfl rfl rfl)) (.cons rfl .nil) (RWriteHeader i88 (by have:=hex.1;omega) hok) Tryz.func22 rfl rfl (by simp) rfl ?_
  rintro v90 L90 ⟨M90,p90,c90,rfl,rfl,r90⟩
  change At _ _ _ [M90,M62,M18,M12,M88,N1,M64,R] _
  have s90:=r90.rsl
  refine At.perm sel7 (At.perm sel7 (At.perm sel7 (At.perm sel7 (At.perm sel4 (At.perm sel7 (At.perm sel7 (At.perm sel7 (bL (Lst:= [M88,N1,M64,R]) (Lst':= [M90,M88,N1,M64,R]) (.cons _ (.refl _)) (.cons _ (.cons _ (.cons _ (.refl _)))) (op_str (nxsgf rfl rfl rfl rfl rfl rfl) Tryz.underlying22 Tryz.underlying5 Tryz.underlying9 rfl (by assumption) (by first|exact aP|exact bM|exact mem2|exact mem3|exact mem4|exact mem5|exact mem6|exact mem7|exact mem8|exact mem9) rfl ?_)))))))))
  refine op_eqS (nxsgf rfl rfl rfl rfl rfl rfl) rfl rfl rfl (bN (nxsf rfl rfl rfl) rfl rfl rfl (aE (nxsf rfl rfl rfl) rfl rfl (At.partP (d:=94) rfl (fun g94=>?_) (fun g94=>?_))))
  rotate_left
  ·exact absurd rfl g94
  refine aG (Nx.agree (nxsgs rfl rfl rfl rfl rfl rfl rfl)) .nil (BWakes_f) Tryz.func16 rfl rfl (by simp) rfl ?_
  rintro v95 L95 ⟨rfl,rfl⟩
  change At _ _ _ [M62,M18,M12,M90,M88,N1,M64,R] _
  refine At.anyS (.refl _) (bN (nxsf rfl rfl rfl) rfl rfl rfl (aD (nxsf rfl rfl rfl) rfl rfl (At.sNil (aB (s_25 (At.ret ((At.sub (L':= [R]) (.cons _ (.cons _ (.cons _ (.cons _ (.cons _ (.cons _ (.cons _ (.cons_cons _ (.slnil))))))))) (aW (L1:= []) rfl (.tmp rfl .nil) (.refl _) (.refl _) ?_)))))))))
  exact⟨rfl,rfl⟩
 change At _ _ _ [M62,M18,M12,N1,R] _
 refine aE (aC rfl) rfl rfl (aH (aC rfl) rfl rfl rfl (aH (aC rfl) rfl rfl rfl (aD (aC rfl) rfl rfl (aD (aC rfl) rfl rfl (aA (aB (s_22 (At.seq fun _ s_26=>At.seq fun _ s_27=>At.region (aF (aC rfl) fl54_0 rfl rfl (aF (aC rfl) fl44_0 rfl rfl (aL (aC rfl) sc3 rfl B1 (gfi) mem3 rfl (aG (aT rfl) (.cons rfl .nil) (RF_f (hfi▸hbad)) Tryz.func21 rfl rfl (by simp) rfl ?_))))))))))))
 rintro v70 L70 ⟨rfl,rfl⟩
 change At _ _ _ [M62,M18,M12,N1,R] _
 refine op_not (aC rfl) rfl rfl (aA (aB (s_27 (At.condT rfl (At.seq fun _ s_28=>At.region (aE (aC rfl) rfl rfl (op_eql (aC rfl) rfl rfl rfl (aE (aC rfl) rfl rfl (At.partP (d:=74) rfl (fun g74=>?_) (fun g74=>?_))))))))))
 rotate_left
 ·exact absurd rfl g74
 refine aE (bF rfl rfl rfl rfl) rfl rfl (a7 (bF rfl rfl rfl rfl) se22 rfl rfl (op_eql (bF rfl rfl rfl rfl) rfl rfl rfl (bN (aC rfl) rfl rfl rfl (aE (aC rfl) rfl rfl (At.partP (d:=79) rfl (fun g79=>?_) (fun g79=>?_))))))
 rotate_left
 ·exact absurd rfl g79
 refine aG (nxga rfl rfl rfl rfl) .nil (BWakes_f) Tryz.func16 rfl rfl (by simp) rfl ?_
 rintro v80 L80 ⟨rfl,rfl⟩
 change At _ _ _ [M62,M18,M12,N1,R] _
 refine bN (aC rfl) rfl rfl rfl (aD (aC rfl) rfl rfl (aA (aB (s_28 (At.ret (aJ ((At.sub (L':= [R]) (.cons _ (.cons _ (.cons _ (.cons _ (.cons_cons _ (.slnil)))))) (aW (L1:= []) rfl (.tmp rfl .nil) (.refl _) (.refl _) ?_)))))))))
 exact⟨rfl,rfl⟩
end
end Go.Proofs.YtjfagifjajielaaGreat
