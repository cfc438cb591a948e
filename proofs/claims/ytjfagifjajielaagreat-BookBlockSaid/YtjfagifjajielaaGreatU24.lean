/- Several texts in one: see the remarks ahead of each part. No condition but those told there. -/
import Derived.Test.YtjfagifjajielaaGreatU23
import Derived.Test.YtjfagifjajielaaGreatU22
import Derived.Test.YtjfagifjajielaaGreatU14
import Derived.Test.YtjfagifjajielaaGreatU15
import Derived.Laws.StructEq
set_option linter.unusedSimpArgs false
set_option linter.unusedVariables false
/- Layer 14: a block is written. No condition but sizes. -/
namespace Go.Proofs.YtjfagifjajielaaGreat
open Go Go.RowKit
set_option maxRecDepth 100000
def insAll:List (List UInt8)→Option (List It)
 | []=>some []
 |g::gs=>match insE g with
  |none=>none
  |some t=>match insAll gs with
   |none=>none
   |some l=>some (t::l)
theorem insAll_snoc {gs:List (List UInt8)} {g:List UInt8} {l:List It} {t:It} (h:insAll gs=some l) (k:insE g=some t):insAll (gs++ [g])=some (l++ [t]):=by
 induction gs generalizing l with
 |nil=>
  simp only [insAll]at h;cases h
  simp only [List.nil_append,insAll,k]
 |cons a r ih=>
  simp only [insAll]at h
  split at h
  ·cases h
  ·rename_i t0 ht0
   split at h
   ·cases h
   ·rename_i l0 hl0
    cases h
    simp only [List.cons_append,insAll,ht0,ih hl0]
theorem insAll_none {gs:List (List UInt8)} {g:List UInt8} (hg:g∈gs) (k:insE g=none):insAll gs=none:=by
 induction gs with
 |nil=>cases hg
 |cons a r ih=>
  simp only [insAll]
  rcases List.mem_cons.1 hg with rfl|hg
  ·rw [k]
  ·rw [ih hg]
   cases insE a<;>rfl
def wdI (w:WdM):It:=wdIt w.ix w.va w.ad w.am
def blkParts (m:BlkM) (its:List It):List It:= [m.hd.it,itL its,itL (m.oms.map HdM.it)]++if m.paid=true then [itL (m.wds.map wdI)]else []
/-- A block's item. -/
def blkIt (m:BlkM) (its:List It):It:=itL (blkParts m its)
/-- A block's bytes, if it is one. -/
def wBlk (m:BlkM):Option (List UInt8):=if okF m.hd.fi∧ ∀h∈m.oms,okF h.fi then match insAll m.txs with
 |none=>none
 |some its=>if (blkIt m its).depth≤1024 then some (blkIt m its).form else none
 else none
theorem wBlk_hd {m:BlkM} (h: ¬okF m.hd.fi):wBlk m=none:=by rw [wBlk,if_neg (fun k=>h k.1)]
theorem wBlk_om {m:BlkM} {x:HdM} (hx:x∈m.oms) (h: ¬okF x.fi):wBlk m=none:=by rw [wBlk,if_neg (fun k=>h (k.2 x hx))]
theorem wBlk_tx {m:BlkM} (h:insAll m.txs=none):wBlk m=none:=by
 rw [wBlk,h];split<;>rfl
theorem wBlk_ok {m:BlkM} {its:List It} (h:okF m.hd.fi) (k: ∀x∈m.oms,okF x.fi) (hi:insAll m.txs=some its) (hd:(blkIt m its).depth≤1024):wBlk m=some (blkIt m its).form:=by
 rw [wBlk,if_pos ⟨h,k⟩,hi];exact if_pos hd
theorem wBlk_dp {m:BlkM} {its:List It} (hi:insAll m.txs=some its) (hd: ¬(blkIt m its).depth≤1024):wBlk m=none:=by
 rw [wBlk,hi]
 split
 ·exact if_neg hd
 ·rfl
/-- A header whose Extra lies in N. -/
def HdIn (N:Heaplet) (h:HdM) (v:Value):Prop:=h.Ok∧ ∃ea ec,v=.slice ea h.ex.length ec∧RSl N 1 ea h.ex.length ec (u8s h.ex)
/-- Where a block's parts lie, to be read. -/
def BlkR (N:Heaplet) (m:BlkM) (cs:List Value):Prop:= ∃v1 ta tc vs oa oc xs wa wc,
 cs=(blkP (m.hd.cells v1) (.slice ta m.txs.length tc) (.slice oa m.oms.length oc) m.paid (.slice wa m.wds.length wc)).flatten∧
 HdIn N m.hd v1∧RSl N 1 ta m.txs.length tc vs∧Bags N vs m.txs∧
 RSl N 556 oa m.oms.length oc (omC xs)∧(∀x∈xs,HdIn N x.1 x.2)∧xs.map Prod.fst=m.oms∧
 RSl N 23 wa m.wds.length wc (wdsC m.wds)∧ ∀x∈m.wds,x.ad.length=20
structure BlkM.Sz (m:BlkM):Prop where
 tx:m.txs.length≤1048576
 tl: ∀g∈m.txs,g.length≤1099511627776
 om:m.oms.length≤1048576
 wd:m.wds.length≤1048576
def WBlkP (m:BlkM) (v:Value) (L:List Heaplet):Prop:=
 (∃bs M p c,wBlk m=some bs∧v=.tuple #[.slice p bs.length c,.int .i64 0]∧L= [M]∧Row M 5 1 p bs.length c (u8s bs))∨
 (wBlk m=none∧v=.tuple #[.slice none 0 0,.int .i64 1]∧L= [])
theorem omC_cells {N:Heaplet} {xs:List (HdM×Value)} (h: ∀x∈xs,HdIn N x.1 x.2): ∀x∈xs,(x.1.cells x.2).length=556:=fun x hx=>HdM.len (h x hx).1 _
section
variable {N : Heaplet} {m : BlkM} {cs : List Value}
set_option maxHeartbeats 8000000 in
theorem FWriteBlock (hR':BlkR N m cs) (hz:m.Sz) (hl: ∀its,insAll m.txs=some its→(blkIt m its).form.length≤1099511627776):Fn Tryz.prog 17 #[.agg cs.toArray] [] [N] (WBlkP m):=by
 obtain⟨v1,ta,tc,vs,oa,oc,xs,wa,wc,rfl,⟨hk,ea,ec,rfl,hex⟩,hT,hBg,hO,hxs,hxm,hW,hwd⟩:=hR'
 have hH:=HdM.len hk (.slice ea m.hd.ex.length ec)
 have hH1:(m.hd.cells (.slice ea m.hd.ex.length ec)).all (·.oneCell')=true:=HdM.one rfl
 have hxl:xs.length=m.oms.length:=by rw [←hxm,List.length_map]
 have z1:=hz.tx
 have z2:=hz.om
 have z3:=hz.wd
 obtain⟨H,hHe⟩: ∃H,m.hd.cells (.slice ea m.hd.ex.length ec)=H:=⟨_,rfl⟩
 have hhd:=FHeaded_any hk hex
 rw [hHe]at hH hH1 hhd⊢
 have hln:=bJ (t:=.slice ta m.txs.length tc) (o:=.slice oa m.oms.length oc) (p:=m.paid) (w:=.slice wa m.wds.length wc) hH
 have hone:=blk_one (p:=m.paid) hH1 (t:=.slice ta m.txs.length tc) (o:=.slice oa m.oms.length oc) (w:=.slice wa m.wds.length wc) rfl rfl rfl
 have gh:((blkP H (.slice ta m.txs.length tc) (.slice oa m.oms.length oc) m.paid (.slice wa m.wds.length wc)).flatten.drop (0+0)).take 556=H:=part_get (blk_lens hH) (j:=0) rfl rfl hH
 refine Fn.enter (vs:= [.agg (blkP H (.slice ta m.txs.length tc) (.slice oa m.oms.length oc) m.paid (.slice wa m.wds.length wc)).flatten.toArray]) Tryz.func17 rfl rfl rfl ?_
 intro E R hR
 have hNR:=hR N (by simp)
 have hO':=hO.le hNR
 have hT':=hT.le hNR
 have hW':=hW.le hNR
 change At _ _ E [R] _
 refine At.seq fun _ s_1=>At.region (op_box (aT rfl) rfl rfl rfl (fun N1 b1 B1=>aD (aC rfl) rfl rfl (aD (aC rfl) rfl rfl (aA (aB (s_1 (At.seq fun _ s_2=>At.region (aF (aC rfl) fl54_0 rfl rfl (aQ (ds:=H) (aC rfl) ag44 rfl B1 (by exact gh) (by exact hH) aP rfl ?_)))))))))
 refine aG (aT rfl) (.cons rfl .nil) (hhd.liftB hNR) Tryz.func65 rfl rfl (by simp) rfl ?_
 rintro v24 L24 (⟨hok,J24,x24,rfl,rfl,j24⟩|⟨hbad,rfl,rfl⟩)
 ·change At _ _ _ [J24,N1,R] _
  refine aE (aC rfl) rfl rfl (aH (aC rfl) rfl rfl rfl (aH (aC rfl) rfl rfl rfl (aS (aT rfl) ze91 rfl (fun N4 b4 B4=>?_))))
  change Blk N4 b4 _ [.bool false,.slice none 0 0,.slice none 0 0]at B4
  refine aI (nxl rfl) sz91 rfl rfl rfl rfl rfl B4 (by simp) sel0 (fun N4 B4=>?_)
  simp only [setL,List.set]at B4
  refine aD (aC rfl) rfl rfl (aA (aB (s_2 (At.seq fun _ s_3=>At.seq fun _ s_4=>At.region (aE (aC rfl) rfl rfl (op_neq (aC rfl) rfl rfl rfl (aA (aB (s_4 (aO rfl (fun c28=>?_) (fun c28=>?_)))))))))))
  ·exact absurd rfl c28
  refine At.skip (aB (s_3 (At.seq fun _ s_5=>At.region (aG (aT rfl) (.cons rfl .nil) (FList_b) Tryz.func66 rfl rfl (by simp) rfl ?_))))
  rintro v30 L30 ⟨rfl,rfl⟩
  change At _ _ _ [N4,J24,N1,R] _
  refine aG (aT rfl) (.cons rfl .nil) (FList_b) Tryz.func66 rfl rfl (by simp) rfl ?_
  rintro v31 L31 ⟨rfl,rfl⟩
  change At _ _ _ [N4,J24,N1,R] _
  refine aG (aT rfl) (.cons rfl .nil) (FList_b) Tryz.func66 rfl rfl (by simp) rfl ?_
  rintro v32 L32 ⟨rfl,rfl⟩
  change At _ _ _ [N4,J24,N1,R] _
  refine aS (aT rfl) ze91 rfl (fun N6 b6 B6=>?_)
  change Blk N6 b6 _ [.bool false,.slice none 0 0,.slice none 0 0]at B6
  refine aS (aT rfl) ze91 rfl (fun N7 b7 B7=>?_)
  change Blk N7 b7 _ [.bool false,.slice none 0 0,.slice none 0 0]at B7
  refine aS (aT rfl) ze91 rfl (fun N8 b8 B8=>?_)
  change Blk N8 b8 _ [.bool false,.slice none 0 0,.slice none 0 0]at B8
  refine aI (nxl rfl) sz91 rfl rfl rfl rfl rfl B6 (by simp) sel2 (fun N6 B6=>?_)
  simp only [setL,List.set]at B6
  refine aI (nxl rfl) sz91 rfl rfl rfl rfl rfl B7 (by simp) sel2 (fun N7 B7=>?_)
  simp only [setL,List.set]at B7
  refine aI (nxl rfl) sz91 rfl rfl rfl rfl rfl B8 (by simp) sel2 (fun N8 B8=>?_)
  simp only [setL,List.set]at B8
  refine aA (aB (s_5 (At.seq fun _ s_6=>At.seq fun _ s_7=>At.region (aF (aC rfl) fl54_2 rfl rfl (aL (aC rfl) sc51 rfl B1 (gk_o hH) mem5 rfl (a7 (aC rfl) se51 rfl rfl (aE (aC rfl) rfl rfl (aA (aB (s_7 (At.block (At.empty (At.empty (At.perm sel8 (At.perm sel7 (At.perm sel4 (At.perm bE (At.perm sel7 (At.perm sel8 (At.perm bO ?_))))))))))))))))))))
  refine At.perm sel7 (At.perm sel8 (At.loop (fun fr_ hp_ ms_=> ∃(i:Nat) (a:Option Addr) (c:Nat) (ys:List IV) (N6 Na NJ:Heaplet),fr_= [(1,.pointer (some ⟨b1,0,none⟩)),(4,.pointer (some ⟨b4,0,none⟩)),(6,.pointer (some ⟨b6,0,none⟩)),(7,.pointer (some ⟨b7,0,none⟩)),(8,.pointer (some ⟨b8,0,none⟩)),(34,.slice oa m.oms.length oc),(35,.int .i64 (m.oms.length:Int)),(36,.int .i64 (i:Int))]∧hp_= [N6,Na,NJ,N1,N4,N7,N8,J24,R]∧m.oms.length- i=ms_∧(i≤m.oms.length)∧(Blk N6 b6 91 [.bool true,.slice none 0 0,.slice a i c])∧(Row Na 91 3 a i c (cellsI ys))∧(∀K:Heaplet,NJ.le K→N.le K→ItsN K ((m.oms.take i).map HdM.it) ys)∧(∀h∈m.oms.take i,okF h.fi)) ?_ (.refl _) ⟨0,none,0,[],N6,nilH,nilH,rfl,rfl,rfl,Nat.zero_le _,B6,Row.nil _ _ _,fun K _ _=>ItsN_nil,fun h hh=>by simp at hh⟩ ?_))
  ·exact .cons (by first|exact a6 rfl (by omega)|rfl) (.cons (by first|exact a6 rfl (by omega)|rfl) (.cons (by first|exact a6 rfl (by omega)|rfl) (.cons (by first|exact a6 rfl (by omega)|rfl) (.cons (by first|exact a6 rfl (by omega)|rfl) (.cons (by first|exact a6 rfl (by omega)|rfl) (.cons (by first|exact a6 rfl (by omega)|rfl) (.cons (by first|exact a6 rfl (by omega)|rfl) .nil)))))))
  rintro _ _ _ ⟨i,a,c,ys,N6,Na,NJ,rfl,rfl,rfl,hi,B6,ra,hy,hfo⟩
  refine At.seq fun _ s_8=>At.region (op_lss (aC rfl) rfl rfl rfl (aA (aB (s_8 (At.seq fun _ s_9=>aO rfl (fun c37=>?_) (fun c37=>?_))))))
  ·have hlt:i<xs.length:=by omega
   obtain⟨⟨xh,xv⟩,hxi⟩: ∃x,xs[i]? =some x:=⟨_,List.getElem?_eq_getElem hlt⟩
   obtain⟨hxk,xa,xc,hxv,hxe⟩:=hxs _ (List.mem_of_getElem? hxi)
   simp only at hxv hxk hxe
   subst hxv
   have hgi:m.oms[i]? =some xh:=by rw [←hxm,List.getElem?_map,hxi];rfl
   have hxl2:=HdM.len hxk (.slice xa xh.ex.length xc)
   have hx1:(xh.cells (.slice xa xh.ex.length xc)).all (·.oneCell')=true:=HdM.one rfl
   have hxhd:=FHeaded_any hxk hxe
   refine At.skip (aB (s_9 (At.seq fun _ s_10=>At.block (At.seq fun _ s_11=>At.region (op_idxE (aC rfl) se51 rfl rfl hO' (show _=(((i:Nat)):Int)from by omega) (by omega) rfl ?_)))))
   refine op_loadAggE (ds:=xh.cells (.slice xa xh.ex.length xc)) (aC rfl) ag44 rfl hO' (by exact flat_at (fun x:HdM×Value=>x.1.cells x.2) (omC_cells hxs) hxi) (by exact hxl2) (by omega) (by first|exact aP|exact bM|exact mem2|exact mem3|exact mem4|exact mem5|exact mem6|exact mem7|exact mem8|exact mem9) rfl ?_
   refine aS (aT rfl) ze44 rfl (fun N10 b10 B10=>?_)
   change Blk N10 b10 _ z44 at B10
   refine aI (nxl rfl) sz44 rfl rfl rfl hxl2 hx1 B10 (by rw [hxl2];exact Nat.le_refl _) sel0 (fun N10 B10=>?_)
   rw [setL_whole (by rw [hxl2];rfl)]at B10
   refine aA (aB (s_11 (At.seq fun _ s_12=>At.region (aQ (ds:=xh.cells (.slice xa xh.ex.length xc)) (aC rfl) ag44 rfl B10 (by exact tk_all hxl2) (by exact hxl2) aP rfl ?_))))
   refine aG (aT rfl) (.cons rfl .nil) (hxhd.liftB hNR) Tryz.func65 rfl rfl (by simp) rfl ?_
   rintro v42 L42 (⟨hok2,J42,x42,rfl,rfl,j42⟩|⟨hbad,rfl,rfl⟩)
   ·change At _ _ _ [J42,N10,N6,Na,NJ,N1,N4,N7,N8,J24,R] _
    refine aE (aC rfl) rfl rfl (aH (aC rfl) rfl rfl rfl (aH (aC rfl) rfl rfl rfl (aS (aT rfl) ze91 rfl (fun N11 b11 B11=>?_))))
    change Blk N11 b11 _ [.bool false,.slice none 0 0,.slice none 0 0]at B11
    refine aI (nxl rfl) sz91 rfl rfl rfl rfl rfl B11 (by simp) sel0 (fun N11 B11=>?_)
    simp only [setL,List.set]at B11
    refine aD (aC rfl) rfl rfl (aA (aB (s_12 (At.seq fun _ s_13=>At.seq fun _ s_14=>At.region (aE (aC rfl) rfl rfl (op_neq (aC rfl) rfl rfl rfl (aA (aB (s_14 (aO rfl (fun c46=>?_) (fun c46=>?_)))))))))))
    ·exact absurd rfl c46
    refine At.skip (aB (s_13 (At.region (aF (aC rfl) fl91_2 rfl rfl (aL (aC rfl) sc89 rfl B6 (by first|rfl) mem3 rfl ?_)))))
    refine aQ (ds:= [_,_,_]) (aC rfl) ag91 rfl B11 rfl rfl aP rfl (op_lit (aT rfl) Tryz.underlying89 ze91 sz91 (.cons rfl .nil) rfl rfl (by simp [Value.cells]) rfl rfl rfl (fun N51 a51 r51=>?_))
    simp only [flatV,List.flatMap_cons,List.flatMap_nil,Value.cells,List.append_nil,List.cons_append,List.nil_append]at r51
    have s51:=r51.rsl
    change Row N51 _ 3 a51 1 1 (cellsI [x42])at r51
    refine op_append (nxl rfl) Tryz.underlying89 Tryz.underlying89 te91 rfl rfl ra r51.rsl (by first|exact aP|exact bM|exact mem2|exact mem3|exact mem4|exact mem5|exact mem6|exact mem7|exact mem8|exact mem9|exact mem10|exact mem11|exact mem12) (cellsI_oneB _) (by omega) (by omega) bE rfl (fun N52 a52 p52 r52=>?_)
    have s52:=r52.rsl
    rw [←cellsI_app]at r52
    refine aF (aC rfl) fl91_2 rfl rfl (aI (nxl rfl) sz89 rfl rfl rfl rfl rfl B6 (by simp) bE (fun N6 B6=>?_))
    simp only [setL,List.set]at B6
    refine aA (bC (aB (s_10 (At.region (bI (aC rfl) rfl rfl (by omega) (by omega) rfl (aE (aC rfl) rfl rfl (aA (aB (At.perm sel12 (At.perm sel12 (At.perm sel12 (At.perm sel12 (At.perm sel12 (At.perm sel12 (At.perm sel11 (At.perm bD (At.perm bD (At.perm bD (At.perm bD (At.perm sel11 (At.perm sel12 ?_)))))))))))))))))))))
    refine bB (fun W W1 W2=>At.sub (L':= [W,N6,N52,N1,N4,N7,N8,J24,R]) (.cons_cons _ (.cons_cons _ (.cons_cons _ (.cons _ (.cons _ (.cons _ (.cons_cons _ (.cons_cons _ (.cons_cons _ (.cons_cons _ (.cons_cons _ (.cons_cons _ (.slnil))))))))))))) (At.perm sel8 (At.perm sel8 (At.perm sel8 (At.perm sel8 (At.perm sel8 (At.perm sel8 (At.perm bO (At.perm sel8 (At.perm sel8 ?_))))))))))
    refine At.back ?_ (.refl _) ⟨i+1,a52,p52,ys++ [x42],N6,N52,W,rfl,rfl,rfl,by omega,B6,r52,by rw [take_next2 hgi,List.map_append];exact fun Q hJ hN=>(hy Q (Heaplet.le_trans W1 hJ) hN).snoc (j42 Q (Heaplet.le_trans W2 hJ) hN),by rw [take_next2 hgi];exact fun h hh=>(List.mem_append.1 hh).elim (hfo h) fun h2=>by rw [List.mem_singleton.1 h2];exact hok2⟩ ?_
    ·exact .cons (by first|exact a6 rfl (by omega)|rfl) (.cons (by first|exact a6 rfl (by omega)|rfl) (.cons (by first|exact a6 rfl (by omega)|rfl) (.cons (by first|exact a6 rfl (by omega)|rfl) (.cons (by first|exact a6 rfl (by omega)|rfl) (.cons (by first|exact a6 rfl (by omega)|rfl) (.cons (by first|exact a6 rfl (by omega)|rfl) (.cons (by first|exact a6 rfl (by omega)|rfl) .nil)))))))
    ·omega
   change At _ _ _ [N10,N6,Na,NJ,N1,N4,N7,N8,J24,R] _
   refine aE (aC rfl) rfl rfl (aH (aC rfl) rfl rfl rfl (aH (aC rfl) rfl rfl rfl (aS (aT rfl) ze91 rfl (fun N11 b11 B11=>?_))))
   change Blk N11 b11 _ [.bool false,.slice none 0 0,.slice none 0 0]at B11
   refine aI (nxl rfl) sz91 rfl rfl rfl rfl rfl B11 (by simp) sel0 (fun N11 B11=>?_)
   simp only [setL,List.set]at B11
   refine aD (aC rfl) rfl rfl (aA (aB (s_12 (At.seq fun _ s_15=>At.seq fun _ s_16=>At.region (aE (aC rfl) rfl rfl (op_neq (aC rfl) rfl rfl rfl (aA (aB (s_16 (aO rfl (fun c46=>?_) (fun c46=>?_)))))))))))
   rotate_left
   ·exact absurd (show ¬((1:Int)=0) by decide) c46
   refine At.seq fun _ s_17=>At.region (aE (aC rfl) rfl rfl (aD (aC rfl) rfl rfl (aD (aC rfl) rfl rfl (aA (aB (s_17 (At.ret (aJ (bP (aJ (aJ (bP (aJ ((At.sub (L':= [R]) (.cons _ (.cons _ (.cons _ (.cons _ (.cons _ (.cons _ (.cons _ (.cons _ (.cons _ (.cons _ (.cons_cons _ (.slnil)))))))))))) (aU (L1:= []) rfl (.tmp rfl (.tmp rfl .nil)) rfl (.refl _) (.refl _) ?_))))))))))))))))
   exact .inr ⟨wBlk_om (List.mem_of_getElem? hgi) hbad,rfl,rfl⟩
  obtain rfl:i=m.oms.length:=by omega
  rw [List.take_of_length_le (Nat.le_refl _)]at hy hfo
  refine At.exit (aM (aM (At.inHit (aB (s_6 (At.seq fun _ s_18=>At.seq fun _ s_19=>At.region (aF (aC rfl) fl54_1 rfl rfl (aL (aC rfl) sc50 rfl B1 (gk_t hH) mem3 rfl (a7 (aC rfl) se50 rfl rfl (aE (aC rfl) rfl rfl (aA (aB (s_19 (At.block (At.empty (At.empty (At.perm bD (At.perm bD (At.perm bD (At.perm bH (At.perm bH (At.perm bH (At.perm bH ?_)))))))))))))))))))))))
  refine At.perm bH (At.perm sel8 (At.perm bH (At.perm bD (At.loop (fun fr_ hp_ ms_=> ∃(i:Nat) (a2:Option Addr) (c2:Nat) (ys2:List IV) (its:List It) (N7 Nb NK:Heaplet),fr_= [(1,.pointer (some ⟨b1,0,none⟩)),(4,.pointer (some ⟨b4,0,none⟩)),(6,.pointer (some ⟨b6,0,none⟩)),(7,.pointer (some ⟨b7,0,none⟩)),(8,.pointer (some ⟨b8,0,none⟩)),(56,.slice ta m.txs.length tc),(57,.int .i64 (m.txs.length:Int)),(58,.int .i64 (i:Int))]∧hp_= [N7,Nb,NK,N6,Na,NJ,N1,N4,N8,J24,R]∧m.txs.length- i=ms_∧(i≤m.txs.length)∧(Blk N7 b7 91 [.bool true,.slice none 0 0,.slice a2 i c2])∧(Row Nb 91 3 a2 i c2 (cellsI ys2))∧(∀K:Heaplet,NK.le K→N.le K→ItsN K its ys2)∧(insAll (m.txs.take i)=some its)) ?_ (.refl _) ⟨0,none,0,[],[],N7,nilH,nilH,rfl,rfl,rfl,Nat.zero_le _,B7,Row.nil _ _ _,fun K _ _=>ItsN_nil,rfl⟩ ?_))))
  ·exact .cons (by first|exact a6 rfl (by omega)|rfl) (.cons (by first|exact a6 rfl (by omega)|rfl) (.cons (by first|exact a6 rfl (by omega)|rfl) (.cons (by first|exact a6 rfl (by omega)|rfl) (.cons (by first|exact a6 rfl (by omega)|rfl) (.cons (by first|exact a6 rfl (by omega)|rfl) (.cons (by first|exact a6 rfl (by omega)|rfl) (.cons (by first|exact a6 rfl (by omega)|rfl) .nil)))))))
  rintro _ _ _ ⟨i,a2,c2,ys2,its,N7,Nb,NK,rfl,rfl,rfl,hi,B7,rb,hy2,hin⟩
  refine At.seq fun _ s_20=>At.region (op_lss (aC rfl) rfl rfl rfl (aA (aB (s_20 (At.seq fun _ s_21=>aO rfl (fun c59=>?_) (fun c59=>?_))))))
  ·have hlt:i<m.txs.length:=by omega
   obtain⟨g,hgi⟩: ∃g,m.txs[i]? =some g:=⟨_,List.getElem?_eq_getElem hlt⟩
   obtain⟨pg,cg,hvi,hg⟩:=hBg.rsl i g hgi
   have hgl:=hz.tl g (List.mem_of_getElem? hgi)
   have hins:=FInside hg (by omega)
   refine At.skip (aB (s_21 (At.seq fun _ s_22=>At.block (At.seq fun _ s_23=>At.region (op_idx1 (aC rfl) se50 rfl rfl hT' (show _=(((i:Nat)):Int)from by omega) (by omega) rfl ?_)))))
   refine bK (aC rfl) sc22 rfl hT' (by first|exact get8 (by omega)|exact get64 (by omega)|exact get32 (by omega)|exact hvi) (by first|exact aP|exact bM|exact mem2|exact mem3|exact mem4|exact mem5|exact mem6|exact mem7|exact mem8|exact mem9|exact mem10) rfl ?_
   refine aD (aC rfl) rfl rfl (aA (aB (s_23 (At.seq fun _ s_24=>At.region (aE (aC rfl) rfl rfl (aG (aT rfl) (.cons rfl .nil) (hins.liftB hNR) Tryz.func67 rfl rfl (by simp) rfl ?_))))))
   rintro v64 L64 (⟨t64,J64,x64,hin1,rfl,rfl,j64⟩|⟨hin1,rfl,rfl⟩)
   ·change At _ _ _ [J64,N7,Nb,NK,N6,Na,NJ,N1,N4,N8,J24,R] _
    refine aE (aC rfl) rfl rfl (aH (aC rfl) rfl rfl rfl (aH (aC rfl) rfl rfl rfl (aS (aT rfl) ze91 rfl (fun N15 b15 B15=>?_))))
    change Blk N15 b15 _ [.bool false,.slice none 0 0,.slice none 0 0]at B15
    refine aI (nxl rfl) sz91 rfl rfl rfl rfl rfl B15 (by simp) sel0 (fun N15 B15=>?_)
    simp only [setL,List.set]at B15
    refine aD (aC rfl) rfl rfl (aA (aB (s_24 (At.seq fun _ s_25=>At.seq fun _ s_26=>At.region (aE (aC rfl) rfl rfl (op_not (aC rfl) rfl rfl (aA (aB (s_26 (At.condF rfl (At.skip (aB (s_25 (At.region (aF (aC rfl) fl91_2 rfl rfl (aL (aC rfl) sc89 rfl B7 (by first|rfl) mem2 rfl ?_))))))))))))))))
    refine aQ (ds:= [_,_,_]) (aC rfl) ag91 rfl B15 rfl rfl aP rfl (op_lit (aT rfl) Tryz.underlying89 ze91 sz91 (.cons rfl .nil) rfl rfl (by simp [Value.cells]) rfl rfl rfl (fun N72 a72 r72=>?_))
    simp only [flatV,List.flatMap_cons,List.flatMap_nil,Value.cells,List.append_nil,List.cons_append,List.nil_append]at r72
    have s72:=r72.rsl
    change Row N72 _ 3 a72 1 1 (cellsI [x64])at r72
    refine op_append (nxl rfl) Tryz.underlying89 Tryz.underlying89 te91 rfl rfl rb r72.rsl (by first|exact aP|exact bM|exact mem2|exact mem3|exact mem4|exact mem5|exact mem6|exact mem7|exact mem8|exact mem9|exact mem10|exact mem11|exact mem12|exact mem13) (cellsI_oneB _) (by omega) (by omega) sel4 rfl (fun N73 a73 p73 r73=>?_)
    have s73:=r73.rsl
    rw [←cellsI_app]at r73
    refine aF (aC rfl) fl91_2 rfl rfl (aI (nxl rfl) sz89 rfl rfl rfl rfl rfl B7 (by simp) sel4 (fun N7 B7=>?_))
    simp only [setL,List.set]at B7
    refine aA (bC (aB (s_22 (At.region (bI (aC rfl) rfl rfl (by omega) (by omega) rfl (aE (aC rfl) rfl rfl (aA (aB (At.perm sel13 (At.perm sel13 (At.perm sel13 (At.perm sel13 (At.perm sel13 (At.perm sel13 (At.perm sel13 (At.perm sel13 (At.perm sel11 (At.perm sel11 (At.perm sel11 (At.perm sel11 (At.perm sel12 ?_)))))))))))))))))))))
    refine At.perm sel13 (bB (fun W W1 W2=>At.sub (L':= [W,N7,N73,N6,Na,NJ,N1,N4,N8,J24,R]) (.cons_cons _ (.cons_cons _ (.cons_cons _ (.cons _ (.cons _ (.cons_cons _ (.cons_cons _ (.cons_cons _ (.cons_cons _ (.cons_cons _ (.cons_cons _ (.cons_cons _ (.cons_cons _ (.slnil)))))))))))))) (At.perm bD (At.perm bD (At.perm bD (At.perm bD (At.perm bD (At.perm bD (At.perm bD (At.perm bD (At.perm sel8 (At.perm bD (At.perm bD ?_)))))))))))))
    refine At.back ?_ (.refl _) ⟨i+1,a73,p73,ys2++ [x64],its++ [t64],N7,N73,W,rfl,rfl,rfl,by omega,B7,r73,fun Q hJ hN=>(hy2 Q (Heaplet.le_trans W1 hJ) hN).snoc (j64 Q (Heaplet.le_trans W2 hJ) hN),by rw [take_next2 hgi];exact insAll_snoc hin hin1⟩ ?_
    ·exact .cons (by first|exact a6 rfl (by omega)|rfl) (.cons (by first|exact a6 rfl (by omega)|rfl) (.cons (by first|exact a6 rfl (by omega)|rfl) (.cons (by first|exact a6 rfl (by omega)|rfl) (.cons (by first|exact a6 rfl (by omega)|rfl) (.cons (by first|exact a6 rfl (by omega)|rfl) (.cons (by first|exact a6 rfl (by omega)|rfl) (.cons (by first|exact a6 rfl (by omega)|rfl) .nil)))))))
    ·omega
   change At _ _ _ [N7,Nb,NK,N6,Na,NJ,N1,N4,N8,J24,R] _
   refine aE (aC rfl) rfl rfl (aH (aC rfl) rfl rfl rfl (aH (aC rfl) rfl rfl rfl (aS (aT rfl) ze91 rfl (fun N15 b15 B15=>?_))))
   change Blk N15 b15 _ [.bool false,.slice none 0 0,.slice none 0 0]at B15
   refine aI (nxl rfl) sz91 rfl rfl rfl rfl rfl B15 (by simp) sel0 (fun N15 B15=>?_)
   simp only [setL,List.set]at B15
   refine aD (aC rfl) rfl rfl (aA (aB (s_24 (At.seq fun _ s_27=>At.seq fun _ s_28=>At.region (aE (aC rfl) rfl rfl (op_not (aC rfl) rfl rfl (aA (aB (s_28 (At.condT rfl (At.seq fun _ s_29=>At.region (aD (aC rfl) rfl rfl (aD (aC rfl) rfl rfl (aA (aB (s_29 (At.ret (aJ (bP (aJ (aJ (bP (aJ ((At.sub (L':= [R]) (.cons _ (.cons _ (.cons _ (.cons _ (.cons _ (.cons _ (.cons _ (.cons _ (.cons _ (.cons _ (.cons _ (.cons_cons _ (.slnil))))))))))))) (aU (L1:= []) rfl (.tmp rfl (.tmp rfl .nil)) rfl (.refl _) (.refl _) ?_))))))))))))))))))))))))))
   exact .inr ⟨wBlk_tx (insAll_none (List.mem_of_getElem? hgi) hin1),rfl,rfl⟩
  obtain rfl:i=m.txs.length:=by omega
  rw [List.take_of_length_le (Nat.le_refl _)]at hin
  refine At.exit (aM (aM (At.inHit (aB (s_18 (At.seq fun _ s_30=>At.region (aQ (ds:= [_,_,_]) (aC rfl) ag91 rfl B4 rfl rfl mem7 rfl (aQ (ds:= [_,_,_]) (aC rfl) ag91 rfl B7 rfl rfl aP rfl (aQ (ds:= [_,_,_]) (aC rfl) ag91 rfl B6 rfl rfl mem3 rfl (op_lit (aT rfl) Tryz.underlying89 ze91 sz91 (.cons rfl (.cons rfl (.cons rfl .nil))) rfl rfl (by simp [Value.cells]) rfl rfl rfl (fun N79 a79 r79=>?_)))))))))))
  simp only [flatV,List.flatMap_cons,List.flatMap_nil,Value.cells,List.append_nil,List.cons_append,List.nil_append]at r79
  have s79:=r79.rsl
  change Row N79 _ 3 a79 3 3 (cellsI [x24,ivL a2 m.txs.length c2,ivL a m.oms.length c])at r79
  refine aG (aT rfl) (.cons rfl .nil) (FList_b) Tryz.func66 rfl rfl (by simp) rfl ?_
  rintro v80 L80 ⟨rfl,rfl⟩
  change At _ _ _ [N79,N7,Nb,NK,N6,Na,NJ,N1,N4,N8,J24,R] _
  refine aS (aT rfl) ze91 rfl (fun N17 b17 B17=>?_)
  change Blk N17 b17 _ [.bool false,.slice none 0 0,.slice none 0 0]at B17
  refine aI (nxl rfl) sz91 rfl rfl rfl rfl rfl B17 (by simp) sel0 (fun N17 B17=>?_)
  simp only [setL,List.set]at B17
  refine aA (aB (s_30 (At.seq fun _ s_31=>At.meet (fun fr_ hp_=> ∃(q:Option Addr) (qn qc:Nat) (zs:List IV) (N17 NZ Nc NL:Heaplet),fr_= [(17,.pointer (some ⟨b17,0,none⟩))]∧hp_= [N17,NZ,Nc,NL,Nb,NK,Na,NJ,J24,R]∧(Blk N17 b17 91 [.bool true,.slice none 0 0,.slice q qn qc])∧(Row NZ 91 3 q qn qc (cellsI zs))∧(∀K:Heaplet,Nc.le K→NL.le K→Nb.le K→NK.le K→Na.le K→NJ.le K→J24.le K→N.le K→ItsN K (blkParts m its) zs)) ?_ (fun K31_ jk_31=>?_))))
  rotate_left
  ·skip
   refine At.seq fun _ s_32=>At.region (aF (aC rfl) fl54_3 rfl rfl (aL (aC rfl) sc4 rfl B1 (gk_p hH) mem8 rfl (aA (aB (s_32 (At.condB rfl (fun c82=>?_) (fun c82=>?_)))))))
   ·refine At.seq fun _ s_33=>At.seq fun _ s_34=>At.region (aF (aC rfl) fl54_4 rfl rfl (aL (aC rfl) sc52 rfl B1 (gk_w hH) mem8 rfl (a7 (aC rfl) se52 rfl rfl (aE (aC rfl) rfl rfl (aA (aB (s_34 (At.block (At.empty (At.empty (At.sub (L':= [nilH,nilH,N17,N79,Nb,NK,Na,NJ,N8,J24,R]) (.cons_cons _ (.cons_cons _ (.cons_cons _ (.cons_cons _ (.cons _ (.cons_cons _ (.cons_cons _ (.cons _ (.cons_cons _ (.cons_cons _ (.cons _ (.cons _ (.cons_cons _ (.cons_cons _ (.cons_cons _ (.slnil)))))))))))))))) (At.perm bD (At.perm bD (At.perm bH (At.perm bH (At.perm bH (At.perm bH (At.perm bH (At.perm bH ?_)))))))))))))))))))
    refine At.perm sel8 (At.perm bH (At.perm bD (At.loop (fun fr_ hp_ ms_=> ∃(i:Nat) (a3:Option Addr) (c3:Nat) (ys3:List IV) (N8 Nc NL:Heaplet),fr_= [(17,.pointer (some ⟨b17,0,none⟩)),(8,.pointer (some ⟨b8,0,none⟩)),(84,.slice wa m.wds.length wc),(85,.int .i64 (m.wds.length:Int)),(86,.int .i64 (i:Int))]∧hp_= [N8,Nc,NL,N17,N79,Nb,NK,Na,NJ,J24,R]∧m.wds.length- i=ms_∧(i≤m.wds.length)∧(Blk N8 b8 91 [.bool true,.slice none 0 0,.slice a3 i c3])∧(Row Nc 91 3 a3 i c3 (cellsI ys3))∧(∀K:Heaplet,NL.le K→ItsN K ((m.wds.take i).map wdI) ys3)) ?_ (.refl _) ⟨0,none,0,[],N8,nilH,nilH,rfl,rfl,rfl,Nat.zero_le _,B8,Row.nil _ _ _,fun K _=>ItsN_nil⟩ ?_)))
    ·exact .cons (by first|exact a6 rfl (by omega)|rfl) (.cons (by first|exact a6 rfl (by omega)|rfl) (.cons (by first|exact a6 rfl (by omega)|rfl) (.cons (by first|exact a6 rfl (by omega)|rfl) (.cons (by first|exact a6 rfl (by omega)|rfl) .nil))))
    rintro _ _ _ ⟨i,a3,c3,ys3,N8,Nc,NL,rfl,rfl,rfl,hi,B8,rc,hy3⟩
    refine At.seq fun _ s_35=>At.region (op_lss (aC rfl) rfl rfl rfl (aA (aB (s_35 (At.seq fun _ s_36=>aO rfl (fun c87=>?_) (fun c87=>?_))))))
    ·have hlt:i<m.wds.length:=by omega
     obtain⟨w,hgi⟩: ∃w,m.wds[i]? =some w:=⟨_,List.getElem?_eq_getElem hlt⟩
     have hwa:=hwd w (List.mem_of_getElem? hgi)
     have hwl:=wdC_len (i:=w.ix) (v:=w.va) (m:=w.am) hwa
     have hwc: ∀x∈m.wds,(WdM.cells x).length=23:=fun x hx=>wdC_len (hwd x hx)
     refine At.skip (aB (s_36 (At.seq fun _ s_37=>At.block (At.seq fun _ s_38=>At.region (op_idxE (aC rfl) se52 rfl rfl hW' (show _=(((i:Nat)):Int)from by omega) (by omega) rfl ?_)))))
     refine op_loadAggE (ds:=wdC w.ix w.va w.ad w.am) (aC rfl) ag125 rfl hW' (by exact flat_at WdM.cells hwc hgi) (by exact hwl) (by omega) (by first|exact aP|exact bM|exact mem2|exact mem3|exact mem4|exact mem5|exact mem6|exact mem7|exact mem8|exact mem9|exact mem10) rfl ?_
     refine aS (aT rfl) ze125 rfl (fun N19 b19 B19=>?_)
     change Blk N19 b19 _ [.int .u64 0,.int .u64 0,.int .u8 0,.int .u8 0,.int .u8 0,.int .u8 0,.int .u8 0,.int .u8 0,.int .u8 0,.int .u8 0,.int .u8 0,.int .u8 0,.int .u8 0,.int .u8 0,.int .u8 0,.int .u8 0,.int .u8 0,.int .u8 0,.int .u8 0,.int .u8 0,.int .u8 0,.int .u8 0,.int .u64 0]at B19
     refine aI (nxl rfl) sz125 rfl rfl rfl hwl wdC_one B19 (by rw [hwl];exact Nat.le_refl _) sel0 (fun N19 B19=>?_)
     rw [setL_whole (by rw [hwl];rfl)]at B19
     refine aA (aB (s_38 (At.perm sel11 (At.perm sel2 (At.perm sel2 (At.perm sel11 (At.perm sel11 (At.perm sel11 (At.perm sel11 (At.perm sel11 (At.perm sel11 (At.perm sel11 (At.perm sel11 (At.perm sel11 (At.drawnS [N19,N8,R] [5,7] [] [0,1,2,3,4,5,6,7] (by kernel_rfl) (by kernel_rfl) (.cons _ (.cons _ (.cons _ (.cons _ (.cons _ (.cons _ (.cons _ (.cons _ (.cons _ (.refl _)))))))))) (aF (nxsf rfl rfl rfl) fl91_2 rfl rfl (aL (nxsf rfl rfl rfl) sc89 rfl B8 (by first|rfl) bM rfl ?_)))))))))))))))))
     refine aQ (ds:=wdC w.ix w.va w.ad w.am) (nxsf rfl rfl rfl) ag125 rfl B19 (by exact tk_all hwl) (by exact hwl) aP rfl ?_
     refine aG (Nx.agree (nxsm rfl rfl rfl)) (.cons rfl .nil) (FPaid_b hwa) Tryz.func68 rfl rfl (by simp) rfl ?_
     rintro v93 L93 ⟨J93,x93,rfl,rfl,j93⟩
     change At _ _ _ [J93,Nc,NL,N17,N79,Nb,NK,Na,NJ,J24,N19,N8,R] _
     change At _ ((93,.agg #[.bool x93.l,.slice x93.ab x93.nb x93.cb,.slice x93.ai x93.ni x93.ci])::_) _ _ _
     refine bL (Lst:= [N19,N8,R]) (Lst':= [N19,N8,R]) (.refl _) (.cons _ (.cons _ (.cons _ (.cons _ (.cons _ (.cons _ (.cons _ (.cons _ (.cons _ (.cons _ (.refl _))))))))))) (op_lit (Nx.agree (nxsm rfl rfl rfl)) Tryz.underlying89 ze91 sz91 (.cons rfl .nil) rfl rfl (by simp [Value.cells]) rfl rfl rfl (fun N94 a94 r94=>?_))
     simp only [flatV,List.flatMap_cons,List.flatMap_nil,Value.cells,List.append_nil,List.cons_append,List.nil_append]at r94
     have s94:=r94.rsl
     refine bL (Lst:= [N19,N8,R]) (Lst':= [N19,N8,R]) (.refl _) (.cons _ (.cons _ (.cons _ (.cons _ (.cons _ (.cons _ (.cons _ (.cons _ (.cons _ (.cons _ (.cons _ (.refl _)))))))))))) ?_
     change Row N94 _ 3 a94 1 1 (cellsI [x93])at r94
     refine op_append (nxss rfl rfl rfl rfl) Tryz.underlying89 Tryz.underlying89 te91 rfl rfl rc r94.rsl (by first|exact aP|exact bM|exact mem2|exact mem3|exact mem4|exact mem5|exact mem6|exact mem7|exact mem8|exact mem9) (cellsI_oneB _) (by omega) (by omega) sel2 rfl (fun N95 a95 p95 r95=>?_)
     have s95:=r95.rsl
     refine At.anyS (.refl _) ?_
     rw [←cellsI_app]at r95
     refine aF (nxsf rfl rfl rfl) fl91_2 rfl rfl (aI (nxsl rfl rfl rfl rfl) sz89 rfl rfl rfl rfl rfl B8 (by simp) sel12 (fun N8 B8=>?_))
     simp only [setL,List.set]at B8
     refine At.sNil (bC (aB (s_37 (At.region (bI (aC rfl) rfl rfl (by omega) (by omega) rfl (aE (aC rfl) rfl rfl (aA (aB (At.perm sel13 (At.perm sel13 (At.perm sel13 (At.perm sel13 (At.perm sel13 (At.perm sel13 (At.perm sel13 (At.perm sel13 (At.perm sel13 (At.perm sel11 (At.perm sel11 (At.perm sel11 (At.perm sel12 ?_)))))))))))))))))))))
     refine At.perm sel13 (bB (fun W W1 W2=>At.sub (L':= [W,N8,N95,N17,N79,Nb,NK,Na,NJ,J24,R]) (.cons_cons _ (.cons_cons _ (.cons_cons _ (.cons _ (.cons_cons _ (.cons_cons _ (.cons_cons _ (.cons_cons _ (.cons_cons _ (.cons_cons _ (.cons_cons _ (.cons _ (.cons_cons _ (.slnil)))))))))))))) (At.perm bD (At.perm bD (At.perm bD (At.perm bD (At.perm bD (At.perm bD (At.perm bD (At.perm bD (At.perm sel8 (At.perm bD (At.perm bD ?_)))))))))))))
     refine At.back ?_ (.refl _) ⟨i+1,a95,p95,ys3++ [x93],N8,N95,W,rfl,rfl,rfl,by omega,B8,r95,by rw [take_next2 hgi,List.map_append];exact fun Q hJ=>(hy3 Q (Heaplet.le_trans W1 hJ)).snoc (j93.le (Heaplet.le_trans W2 hJ))⟩ ?_
     ·exact .cons (by first|exact a6 rfl (by omega)|rfl) (.cons (by first|exact a6 rfl (by omega)|rfl) (.cons (by first|exact a6 rfl (by omega)|rfl) (.cons (by first|exact a6 rfl (by omega)|rfl) (.cons (by first|exact a6 rfl (by omega)|rfl) .nil))))
     ·omega
    obtain rfl:i=m.wds.length:=by omega
    rw [List.take_of_length_le (Nat.le_refl _)]at hy3
    refine At.exit (aM (aM (At.inHit (aB (s_33 (At.region (aF (aC rfl) fl91_2 rfl rfl (aL (aC rfl) sc89 rfl B17 (by first|rfl) mem3 rfl ?_))))))))
    refine aQ (ds:= [_,_,_]) (aC rfl) ag91 rfl B8 rfl rfl aP rfl (op_lit (aT rfl) Tryz.underlying89 ze91 sz91 (.cons rfl .nil) rfl rfl (by simp [Value.cells]) rfl rfl rfl (fun N101 a101 r101=>?_))
    simp only [flatV,List.flatMap_cons,List.flatMap_nil,Value.cells,List.append_nil,List.cons_append,List.nil_append]at r101
    have s101:=r101.rsl
    change Row N101 _ 3 a101 1 1 (cellsI [ivL a3 m.wds.length c3])at r101
    refine op_append (nxl rfl) Tryz.underlying89 Tryz.underlying89 te91 rfl rfl r79 r101.rsl (by first|exact aP|exact bM|exact mem2|exact mem3|exact mem4|exact mem5|exact mem6|exact mem7|exact mem8|exact mem9|exact mem10|exact mem11) (cellsI_oneB _) (by omega) (by omega) bE rfl (fun N102 a102 p102 r102=>?_)
    have s102:=r102.rsl
    rw [←cellsI_app]at r102
    refine aF (aC rfl) fl91_2 rfl rfl (aI (nxl rfl) sz89 rfl rfl rfl rfl rfl B17 (by simp) bE (fun N17 B17=>?_))
    simp only [setL,List.set]at B17
    refine aA (At.sub (L':= [N17,N102,Nc,NL,Nb,NK,Na,NJ,J24,R]) (.cons_cons _ (.cons_cons _ (.cons _ (.cons _ (.cons_cons _ (.cons_cons _ (.cons_cons _ (.cons_cons _ (.cons_cons _ (.cons_cons _ (.cons_cons _ (.cons_cons _ (.slnil))))))))))))) ?_)
    refine aB (jk_31 ?_ (.refl _) ⟨a102,3+1,p102,_,N17,N102,Nc,NL,rfl,rfl,B17,r102,fun K h1 h2 h3 h4 h5 h6 h7 h8=>by rw [blkParts,if_pos c82];exact aV (j24 K h7 h8) (aV (ItN_L (rb.rsl.le h3) (hy2 K h4 h8)) (aV (ItN_L (ra.rsl.le h5) (hy K h6 h8)) (aV (ItN_L (rc.rsl.le h1) (hy3 K h2)) ItsN_nil)))⟩)
    exact .cons (by first|exact a6 rfl (by omega)|rfl) .nil
   refine At.skip (At.empty (At.empty (At.sub (L':= [nilH,nilH,N17,N79,Nb,NK,Na,NJ,J24,R]) (.cons_cons _ (.cons_cons _ (.cons_cons _ (.cons_cons _ (.cons _ (.cons_cons _ (.cons_cons _ (.cons _ (.cons_cons _ (.cons_cons _ (.cons _ (.cons _ (.cons _ (.cons_cons _ (.cons_cons _ (.slnil)))))))))))))))) (At.perm bH (At.perm bH (At.perm bH (At.perm bH (At.perm bH (At.perm bH (At.perm bO (At.perm sel7 (At.perm bH (At.perm bH ?_)))))))))))))
   refine aB (jk_31 ?_ (.refl _) ⟨a79,3,3,_,N17,N79,nilH,nilH,rfl,rfl,B17,r79,fun K h1 h2 h3 h4 h5 h6 h7 h8=>by rw [blkParts,if_neg (by rw [c82];decide)];exact aV (j24 K h7 h8) (aV (ItN_L (rb.rsl.le h3) (hy2 K h4 h8)) (aV (ItN_L (ra.rsl.le h5) (hy K h6 h8)) ItsN_nil))⟩)
   exact .cons (by first|exact a6 rfl (by omega)|rfl) .nil
  rintro _ _ ⟨q,qn,qc,zs,N17,NZ,Nc,NL,rfl,rfl,B17,rz,hZ⟩
  refine s_31 (At.seq fun _ s_39=>At.region (aQ (ds:= [_,_,_]) (aC rfl) ag91 rfl B17 rfl rfl aP rfl (aG (aT rfl) (.cons rfl .nil) (Fn.overJ (Ns:= [NZ,Nc,NL,Nb,NK,Na,NJ,J24,R]) fun K hK=>Encode_f (t:=blkIt m its) (x:=ivL q qn qc) (ItN_L (rz.rsl.le (hK _ (by simp))) (hZ K (hK _ (by simp)) (hK _ (by simp)) (hK _ (by simp)) (hK _ (by simp)) (hK _ (by simp)) (hK _ (by simp)) (hK _ (by simp)) (Heaplet.le_trans hNR (hK _ (by simp))))) (hl its hin)) Tryz.func69 rfl rfl (by simp) rfl ?_)))
  rintro v106 L106 (⟨M106,p106,c106,rfl,rfl,r106,hdp⟩|⟨rfl,rfl,hdp⟩)
  ·change At _ _ _ [M106,N17,NZ,Nc,NL,Nb,NK,Na,NJ,J24,R] _
   refine aE (aC rfl) rfl rfl (aH (aC rfl) rfl rfl rfl (aH (aC rfl) rfl rfl rfl (aD (aC rfl) rfl rfl (aD (aC rfl) rfl rfl (aA (aB (s_39 (At.seq fun _ s_40=>At.seq fun _ s_41=>At.region (aE (aC rfl) rfl rfl (op_neq (aC rfl) rfl rfl rfl (aA (aB (s_41 (aO rfl (fun c110=>?_) (fun c110=>?_)))))))))))))))
   ·exact absurd rfl c110
   refine At.skip (aB (s_40 (At.seq fun _ s_42=>At.region (aE (aC rfl) rfl rfl (aD (aC rfl) rfl rfl (aD (aC rfl) rfl rfl (aA (aB (s_42 (At.ret ((At.sub (L':= [M106,R]) (.cons_cons _ (.cons _ (.cons _ (.cons _ (.cons _ (.cons _ (.cons _ (.cons _ (.cons _ (.cons _ (.cons_cons _ (.slnil)))))))))))) (aU (L1:= [M106]) rfl (.tmp rfl (.tmp rfl .nil)) rfl (.refl _) (.refl _) ?_)))))))))))))
   exact .inl ⟨_,M106,p106,c106,wBlk_ok hok hfo hin (by omega),rfl,rfl,r106⟩
  change At _ _ _ [N17,NZ,Nc,NL,Nb,NK,Na,NJ,J24,R] _
  refine aE (aC rfl) rfl rfl (aH (aC rfl) rfl rfl rfl (aH (aC rfl) rfl rfl rfl (aD (aC rfl) rfl rfl (aD (aC rfl) rfl rfl (aA (aB (s_39 (At.seq fun _ s_43=>At.seq fun _ s_44=>At.region (aE (aC rfl) rfl rfl (op_neq (aC rfl) rfl rfl rfl (aA (aB (s_44 (aO rfl (fun c110=>?_) (fun c110=>?_)))))))))))))))
  rotate_left
  ·exact absurd (show ¬((7:Int)=0) by decide) c110
  refine At.seq fun _ s_45=>At.region (aD (aC rfl) rfl rfl (aD (aC rfl) rfl rfl (aA (aB (s_45 (At.ret (aJ ((At.sub (L':= [R]) (.cons _ (.cons _ (.cons _ (.cons _ (.cons _ (.cons _ (.cons _ (.cons _ (.cons _ (.cons_cons _ (.slnil))))))))))) (aU (L1:= []) rfl (.tmp rfl (.tmp rfl .nil)) rfl (.refl _) (.refl _) ?_))))))))))
  exact .inr ⟨wBlk_dp hin (by omega),rfl,rfl⟩
 change At _ _ _ [N1,R] _
 refine aE (aC rfl) rfl rfl (aH (aC rfl) rfl rfl rfl (aH (aC rfl) rfl rfl rfl (aS (aT rfl) ze91 rfl (fun N4 b4 B4=>?_))))
 change Blk N4 b4 _ [.bool false,.slice none 0 0,.slice none 0 0]at B4
 refine aI (nxl rfl) sz91 rfl rfl rfl rfl rfl B4 (by simp) sel0 (fun N4 B4=>?_)
 simp only [setL,List.set]at B4
 refine aD (aC rfl) rfl rfl (aA (aB (s_2 (At.seq fun _ s_46=>At.seq fun _ s_47=>At.region (aE (aC rfl) rfl rfl (op_neq (aC rfl) rfl rfl rfl (aA (aB (s_47 (aO rfl (fun c28=>?_) (fun c28=>?_)))))))))))
 rotate_left
 ·exact absurd (show ¬((1:Int)=0) by decide) c28
 refine At.seq fun _ s_48=>At.region (aE (aC rfl) rfl rfl (aD (aC rfl) rfl rfl (aD (aC rfl) rfl rfl (aA (aB (s_48 (At.ret (aJ ((At.sub (L':= [R]) (.cons _ (.cons _ (.cons_cons _ (.slnil)))) (aU (L1:= []) rfl (.tmp rfl (.tmp rfl .nil)) rfl (.refl _) (.refl _) ?_)))))))))))
 exact .inr ⟨wBlk_hd hbad,rfl,rfl⟩
end
end Go.Proofs.YtjfagifjajielaaGreat
/- Layer 14, the reference: what ReadBlock needs. No condition. -/
namespace Go.Proofs.YtjfagifjajielaaGreat
open Go Go.RowKit
set_option maxRecDepth 100000
/-- The parts of a withdrawal, as a sticky reader takes them. -/
def wdN (its:List It):Except Nat WdM:=eb (n64E (nxt its 0)) fun i=>eb (n64E (nxt its 1)) fun v=>eb (fixE 20 (nxt its 2)) fun a=>eb (n64E (nxt its 3)) fun m=>.ok ⟨i,v,a,m⟩
theorem rawE_txt {bs:List UInt8} {its:List It} (h0:0<bs.length) (h1:1≤(bs.getD 0 0).toNat) (h3:(bs.getD 0 0).toNat≤3):rawE (.mk false bs its)=.ok bs:=by
 simp only [rawE];rw [if_pos ⟨h0,h1,h3⟩]
theorem rawE_lst {bs:List UInt8} {its:List It} (h:(It.mk true bs its).depth≤1024):rawE (.mk true bs its)=.ok (It.mk true bs its).form:=by
 simp only [rawE];rw [if_pos h]
/-- A header whose Extra lies in one of two. -/
def HdK (NK NI:Heaplet) (x:HdM×Value):Prop:=x.1.Ok∧okF x.1.fi∧ ∃ea ec,x.2=.slice ea x.1.ex.length ec∧ ∀K:Heaplet,NK.le K→NI.le K→RSl K 1 ea x.1.ex.length ec (u8s x.1.ex)
theorem HdK.up {NK NI M:Heaplet} {x:HdM×Value} (h:HdK NK NI x) (hl:NK.le M):HdK M NI x:=by
 obtain⟨h1,h2,ea,ec,h3,h4⟩:=h
 exact⟨h1,h2,ea,ec,h3,fun K k1 k2=>h4 K (Heaplet.le_trans hl k1) k2⟩
theorem HdK.snoc {NK NI M J:Heaplet} {xs:List (HdM×Value)} {x:HdM×Value} (h: ∀y∈xs,HdK NK NI y) (hx:HdK M NI x) (h1:NK.le J) (h2:M.le J): ∀y∈xs++ [x],HdK J NI y:=fun y hy=>by
 rcases List.mem_append.1 hy with hy|hy
 ·exact(h y hy).up h1
 ·rw [List.mem_singleton.1 hy];exact hx.up h2
theorem bags_up {NJ NI M J:Heaplet} {vs:List Value} {gs:List (List UInt8)} {a:Option Addr} {c:Nat} {g:List UInt8} (h: ∀K:Heaplet,NJ.le K→NI.le K→Bags K vs gs) (hr: ∀K:Heaplet,M.le K→NI.le K→RSl K 1 a g.length c (u8s g)) (h1:NJ.le J) (h2:M.le J): ∀K:Heaplet,J.le K→NI.le K→Bags K (vs++ [.slice a g.length c]) (gs++ [g]):=fun K k1 k2=>by
 have h:=h K (Heaplet.le_trans h1 k1) k2
 have hr:=hr K (Heaplet.le_trans h2 k1) k2
 refine⟨by simp [h.len],fun i y hy=>?_⟩
 rcases snoc_get hy with ⟨hi,hy⟩|⟨hi,rfl⟩
 ·obtain⟨q,d,h1,h2⟩:=h.rsl i y hy
  exact⟨q,d,get_snoc_l h1,h2⟩
 ·exact⟨a,c,by rw [hi, ←h.len];simp,hr⟩
theorem one_snoc {vs:List Value} {p:Option Addr} {n c:Nat} (h: ∀u∈vs,u.oneCell'=true): ∀u∈vs++ [.slice p n c],u.oneCell'=true:=fun u hu=>by
 rcases List.mem_append.1 hu with hu|hu
 ·exact h u hu
 ·rw [List.mem_singleton.1 hu];rfl
/-- What ReadBlock tells. -/
def RBlkP (b:List UInt8) (v:Value) (L:List Heaplet):Prop:=
 (∃M m cs,readBlkE b=.ok m∧v=.tuple #[.agg cs.toArray,.int .i64 0]∧L= [M]∧BlkR M m cs∧(cs.length=560∧cs.all (·.oneCell')=true))∨
 (∃e:Nat,readBlkE b=.error e∧v=.tuple #[.agg z54.toArray,.int .i64 (e:Int)]∧e≠0∧L= [nilH])
end Go.Proofs.YtjfagifjajielaaGreat
/- Layer 14: a transaction in new memory, cut. No condition. -/
namespace Go.Proofs.YtjfagifjajielaaGreat
open Go Go.RowKit
set_option maxRecDepth 100000
def AccM.cut (g:AccM):AccM:=⟨g.addr,g.keys.take 12⟩
def cutA (gs:List AccM):List AccM:=(gs.take 12).map AccM.cut
/-- A transaction, cut. -/
def cutM (m:TxM):TxM:= { m with da:=m.da.take 800,ac:=cutA m.ac,bb:=m.bb.take 12 }
section
variable {m : TxM} {d a b v : Value}
end
section
variable {N : Heaplet} {m : TxM} {d a b : Value}
end
end Go.Proofs.YtjfagifjajielaaGreat
/- quarrylaw14.BookBloom answers true. No condition. -/
namespace Go.Proofs.YtjfagifjajielaaGreat
open Go Go.RowKit
set_option maxRecDepth 100000
section
variable {N M : Heaplet} {ao bo : Option Addr} {n cap m cbp : Nat} {gs gt : List LogM} {xs xt : List LV}
end
end Go.Proofs.YtjfagifjajielaaGreat
/- quarrylaw14.BookReceipt answers true. No condition. -/
namespace Go.Proofs.YtjfagifjajielaaGreat
open Go Go.RowKit
set_option maxRecDepth 100000
section
variable {k : Int} {rv lv : Value} {ok : Bool} {gas : UInt64} {bl : List UInt8}
end
theorem LogM.cut_cut (g:LogM):g.cut.cut=g.cut:=by simp [LogM.cut,List.take_take]
section
variable {N M : Heaplet} {k : Int} {ra la : Option Addr} {rn rc ln lc : Nat} {root bl : List UInt8} {ok : Bool} {gas : UInt64} {gs : List LogM} {xs : List LV} {i v m : UInt64} {a : List UInt8}
end
end Go.Proofs.YtjfagifjajielaaGreat
/- Layer 14: two transactions that are the same are told to be. No condition. -/
namespace Go.Proofs.YtjfagifjajielaaGreat
open Go Go.RowKit
set_option maxRecDepth 100000
section
variable {N M : Heaplet} {hs : List (List UInt8)} {a a' : Option Addr} {n c c' : Nat}
end
section
variable {N M : Heaplet} {m : TxM} {d a b d' a' b' : Value}
end
end Go.Proofs.YtjfagifjajielaaGreat
/- The engine: structs of ints and arrays of bytes compared with themselves. For whatever program. No condition. -/
namespace Go.Proofs.YtjfagifjajielaaGreat
open Go Go.RowKit
inductive FldK where
 |num (k:IntKind)
 |arr (n:Nat)
def isU8 (P:Program) (e:TypeId):Bool:=match P.underlying e with
 |some (.int .u8)=>true
 |_=>false
def fldK (P:Program) (f:Field):Option (Nat×FldK):=match P.underlying f.type with
 |some (.int k)=>some (f.offset,.num k)
 |some (.array n e)=>if aelt P f.type=some (n,e,1)∧siz P f.type=some n∧isU8 P e=true then some (f.offset,.arr n)else none
 |_=>none
def fldsK (P:Program) (fs:List Field):Option (List (Nat×FldK)):=fs.mapM (fldK P)
def HasK (xs:List Value) (p:Nat×FldK):Prop:=match p.2 with
 |.num k=> ∃a,xs[p.1]? =some (.int k a)
 |.arr n=> ∃b:List UInt8,(xs.drop p.1).take n=u8s b∧b.length=n
end Go.Proofs.YtjfagifjajielaaGreat
