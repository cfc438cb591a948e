/- Several texts in one: see the remarks ahead of each part. No condition but those told there. -/
import Derived.Test.YtjfagifjajielaaGreatX1
import Derived.Test.YtjfagifjajielaaGreatX24
import Derived.Test.YtjfagifjajielaaGreatX22
import Derived.Test.YtjfagifjajielaaGreatX21
import Derived.Test.YtjfagifjajielaaGreatX23
set_option linter.unusedSimpArgs false
set_option linter.unusedVariables false
namespace Go.Proofs.YtjfagifjajielaaGreat
open Go Go.RowKit
set_option maxRecDepth 100000
section
variable {N M : Heaplet} {h : HdM} {v v' : Value}
set_option maxHeartbeats 8000000 in
theorem FSameHeader_b (hT:HdIn N h v) (hU:HdIn M h v'):Fn Tryz.prog 12 #[.agg (h.cells v).toArray,.agg (h.cells v').toArray] [] [N,M] (fun v L=>v=.bool true∧L= []):=by
 obtain⟨k,ea,ec,rfl,hd⟩:=hT
 obtain⟨_,fa,fc,rfl,hd'⟩:=hU
 have hcl:=fun v=>HdM.len k v
 have hls:=HdM.lens k (.slice ea h.ex.length ec)
 have hls':=HdM.lens k (.slice fa h.ex.length fc)
 have hwd:(u64s (wl h.df)).length=4:=by rw [u64s_len,length_wl]
 have hwb:(u64s (wl h.bf)).length=4:=by rw [u64s_len,length_wl]
 refine Fn.enter (vs:= [.agg (h.cells (.slice ea h.ex.length ec)).toArray,.agg (h.cells (.slice fa h.ex.length fc)).toArray]) Tryz.func12 U U U ?_
 intro E R hR
 have hd:=hd.le (hR N (by simp))
 have hd':=hd'.le (hR M (by simp))
 change At _ _ E [R] _
 refine aC fun _ s_1=>aA (op_box bU U U U (fun N2 b2 B2=>op_box bU U U U (fun N3 b3 B3=>aR U U (aB (s_1 (aC fun _ s_2=>aA (aD aE fl44_0 U U (aK aE sc3 U B2 (part_val hls (j:=0) (o:=0) U U) mem1 U (aD aE fl44_0 U U (aK aE sc3 U B3 (part_val hls' (j:=0) (o:=0) U U) bI U (dF aE U U U (aH U U (cB (d:=10) U (fun g10=>?_) (fun g10=>?_))))))))))))))
 rotate_left
 ·exact absurd U g10
 refine aD (bF U U U U) fl44_1 U U (aV (ds:=u8s h.pa) (bF U U U U) ag40 U B2 (by exact part_get hls (j:=1) (o:=1) U U (bL _▸k.pa)) (by exact(bL _).trans k.pa) mem1 U ?_)
 refine aD (bF U U U U) fl44_1 U U (aV (ds:=u8s h.pa) (bF U U U U) ag40 U B3 (by exact part_get hls' (j:=1) (o:=1) U U (bL _▸k.pa)) (by exact(bL _).trans k.pa) bI U ?_)
 refine op_eqW8 (a:=h.pa) (b:=h.pa) (bF U U U U) ae40 Tryz.underlying5 (by kernel_rfl) U U k.pa k.pa U (cH aE U U U (aH U U (cB (d:=17) U (fun g17=>?_) (fun g17=>?_))))
 rotate_left
 ·exact absurd U g17
 refine aD (bF U U U U) fl44_2 U U (aV (ds:=u8s h.om) (bF U U U U) ag40 U B2 (by exact part_get hls (j:=2) (o:=33) U U (bL _▸k.om)) (by exact(bL _).trans k.om) mem1 U ?_)
 refine aD (bF U U U U) fl44_2 U U (aV (ds:=u8s h.om) (bF U U U U) ag40 U B3 (by exact part_get hls' (j:=2) (o:=33) U U (bL _▸k.om)) (by exact(bL _).trans k.om) bI U ?_)
 refine op_eqW8 (a:=h.om) (b:=h.om) (bF U U U U) ae40 Tryz.underlying5 (by kernel_rfl) U U k.om k.om U (cH aE U U U (aH U U (cB (d:=24) U (fun g24=>?_) (fun g24=>?_))))
 rotate_left
 ·exact absurd U g24
 refine aD (bF U U U U) fl44_3 U U (aV (ds:=u8s h.co) (bF U U U U) ag28 U B2 (by exact part_get hls (j:=3) (o:=65) U U (bL _▸k.co)) (by exact(bL _).trans k.co) mem1 U ?_)
 refine aD (bF U U U U) fl44_3 U U (aV (ds:=u8s h.co) (bF U U U U) ag28 U B3 (by exact part_get hls' (j:=3) (o:=65) U U (bL _▸k.co)) (by exact(bL _).trans k.co) bI U ?_)
 refine op_eqW8 (a:=h.co) (b:=h.co) (bF U U U U) ae28 Tryz.underlying5 (by kernel_rfl) U U k.co k.co U (cH aE U U U (aH U U (cB (d:=31) U (fun g31=>?_) (fun g31=>?_))))
 rotate_left
 ·exact absurd U g31
 refine aD (bF U U U U) fl44_4 U U (aV (ds:=u8s h.st) (bF U U U U) ag40 U B2 (by exact part_get hls (j:=4) (o:=85) U U (bL _▸k.st)) (by exact(bL _).trans k.st) mem1 U ?_)
 refine aD (bF U U U U) fl44_4 U U (aV (ds:=u8s h.st) (bF U U U U) ag40 U B3 (by exact part_get hls' (j:=4) (o:=85) U U (bL _▸k.st)) (by exact(bL _).trans k.st) bI U ?_)
 refine op_eqW8 (a:=h.st) (b:=h.st) (bF U U U U) ae40 Tryz.underlying5 (by kernel_rfl) U U k.st k.st U (cH aE U U U (aH U U (cB (d:=38) U (fun g38=>?_) (fun g38=>?_))))
 rotate_left
 ·exact absurd U g38
 refine aD (bF U U U U) fl44_5 U U (aV (ds:=u8s h.tx) (bF U U U U) ag40 U B2 (by exact part_get hls (j:=5) (o:=117) U U (bL _▸k.tx)) (by exact(bL _).trans k.tx) mem1 U ?_)
 refine aD (bF U U U U) fl44_5 U U (aV (ds:=u8s h.tx) (bF U U U U) ag40 U B3 (by exact part_get hls' (j:=5) (o:=117) U U (bL _▸k.tx)) (by exact(bL _).trans k.tx) bI U ?_)
 refine op_eqW8 (a:=h.tx) (b:=h.tx) (bF U U U U) ae40 Tryz.underlying5 (by kernel_rfl) U U k.tx k.tx U (cH aE U U U (aH U U (cB (d:=45) U (fun g45=>?_) (fun g45=>?_))))
 rotate_left
 ·exact absurd U g45
 refine aD (bF U U U U) fl44_6 U U (aV (ds:=u8s h.rc) (bF U U U U) ag40 U B2 (by exact part_get hls (j:=6) (o:=149) U U (bL _▸k.rc)) (by exact(bL _).trans k.rc) mem1 U ?_)
 refine aD (bF U U U U) fl44_6 U U (aV (ds:=u8s h.rc) (bF U U U U) ag40 U B3 (by exact part_get hls' (j:=6) (o:=149) U U (bL _▸k.rc)) (by exact(bL _).trans k.rc) bI U ?_)
 refine op_eqW8 (a:=h.rc) (b:=h.rc) (bF U U U U) ae40 Tryz.underlying5 (by kernel_rfl) U U k.rc k.rc U (cH aE U U U (aH U U (cB (d:=52) U (fun g52=>?_) (fun g52=>?_))))
 rotate_left
 ·exact absurd U g52
 refine aD (bF U U U U) fl44_7 U U (aV (ds:=u8s h.bl) (bF U U U U) ag41 U B2 (by exact part_get hls (j:=7) (o:=181) U U (bL _▸k.bl)) (by exact(bL _).trans k.bl) mem1 U ?_)
 refine aD (bF U U U U) fl44_7 U U (aV (ds:=u8s h.bl) (bF U U U U) ag41 U B3 (by exact part_get hls' (j:=7) (o:=181) U U (bL _▸k.bl)) (by exact(bL _).trans k.bl) bI U ?_)
 refine op_eqW8 (a:=h.bl) (b:=h.bl) (bF U U U U) ae41 Tryz.underlying5 (by kernel_rfl) U U k.bl k.bl U (cH aE U U U (aH U U (cB (d:=59) U (fun g59=>?_) (fun g59=>?_))))
 rotate_left
 ·exact absurd U g59
 refine aD (bF U U U U) fl44_8 U U (aV (ds:=u64s (wl h.df)) (bF U U U U) ag26 U B2 (by exact part_get hls (j:=8) (o:=437) U U hwd) (by exact hwd) mem1 U ?_)
 refine aD (bF U U U U) fl44_8 U U (aV (ds:=u64s (wl h.df)) (bF U U U U) ag26 U B3 (by exact part_get hls' (j:=8) (o:=437) U U hwd) (by exact hwd) bI U ?_)
 refine op_eqW (a:=wl h.df) (b:=wl h.df) (bF U U U U) ae26 Tryz.underlying24 (by kernel_rfl) U U U U U (cH aE U U U (aH U U (cB (d:=66) U (fun g66=>?_) (fun g66=>?_))))
 rotate_left
 ·exact absurd U g66
 refine aD (bF U U U U) fl44_9 U U (aK (bF U U U U) sc24 U B2 (part_val hls (j:=9) (o:=441) U U) mem1 U (aD (bF U U U U) fl44_9 U U (aK (bF U U U U) sc24 U B3 (part_val hls' (j:=9) (o:=441) U U) bI U (dF (bF U U U U) U U U (cH aE U U U (aH U U (cB (d:=73) U (fun g73=>?_) (fun g73=>?_))))))))
 rotate_left
 ·exact absurd U g73
 refine aD (bF U U U U) fl44_10 U U (aK (bF U U U U) sc24 U B2 (part_val hls (j:=10) (o:=442) U U) mem1 U (aD (bF U U U U) fl44_10 U U (aK (bF U U U U) sc24 U B3 (part_val hls' (j:=10) (o:=442) U U) bI U (dF (bF U U U U) U U U (cH aE U U U (aH U U (cB (d:=80) U (fun g80=>?_) (fun g80=>?_))))))))
 rotate_left
 ·exact absurd U g80
 refine aD (bF U U U U) fl44_11 U U (aK (bF U U U U) sc24 U B2 (part_val hls (j:=11) (o:=443) U U) mem1 U (aD (bF U U U U) fl44_11 U U (aK (bF U U U U) sc24 U B3 (part_val hls' (j:=11) (o:=443) U U) bI U (dF (bF U U U U) U U U (cH aE U U U (aH U U (cB (d:=87) U (fun g87=>?_) (fun g87=>?_))))))))
 rotate_left
 ·exact absurd U g87
 refine aD (bF U U U U) fl44_12 U U (aK (bF U U U U) sc24 U B2 (part_val hls (j:=12) (o:=444) U U) mem1 U (aD (bF U U U U) fl44_12 U U (aK (bF U U U U) sc24 U B3 (part_val hls' (j:=12) (o:=444) U U) bI U (dF (bF U U U U) U U U (cH aE U U U (aH U U (cB (d:=94) U (fun g94=>?_) (fun g94=>?_))))))))
 rotate_left
 ·exact absurd U g94
 refine aD (bF U U U U) fl44_13 U U (aK (bF U U U U) sc22 U B2 (part_val hls (j:=13) (o:=445) U U) mem1 U (op_str (bF U U U U) Tryz.underlying22 Tryz.underlying5 Tryz.underlying9 U (by assumption) (by simp) U ?_))
 refine aD (bF U U U U) fl44_13 U U (aK (bF U U U U) sc22 U B3 (part_val hls' (j:=13) (o:=445) U U) bI U (op_str (bF U U U U) Tryz.underlying22 Tryz.underlying5 Tryz.underlying9 U (by assumption) (by simp) U ?_))
 refine op_eqS (bF U U U U) U U U (cH aE U U U (aH U U (cB (d:=103) U (fun g103=>?_) (fun g103=>?_))))
 rotate_left
 ·exact absurd U g103
 refine aD (bF U U U U) fl44_14 U U (aV (ds:=u8s h.mx) (bF U U U U) ag40 U B2 (by exact part_get hls (j:=14) (o:=446) U U (bL _▸k.mx)) (by exact(bL _).trans k.mx) mem1 U ?_)
 refine aD (bF U U U U) fl44_14 U U (aV (ds:=u8s h.mx) (bF U U U U) ag40 U B3 (by exact part_get hls' (j:=14) (o:=446) U U (bL _▸k.mx)) (by exact(bL _).trans k.mx) bI U ?_)
 refine op_eqW8 (a:=h.mx) (b:=h.mx) (bF U U U U) ae40 Tryz.underlying5 (by kernel_rfl) U U k.mx k.mx U (cH aE U U U (aH U U (cB (d:=110) U (fun g110=>?_) (fun g110=>?_))))
 rotate_left
 ·exact absurd U g110
 refine aD (bF U U U U) fl44_15 U U (aV (ds:=u8s h.no) (bF U U U U) ag42 U B2 (by exact part_get hls (j:=15) (o:=478) U U (bL _▸k.no)) (by exact(bL _).trans k.no) mem1 U ?_)
 refine aD (bF U U U U) fl44_15 U U (aV (ds:=u8s h.no) (bF U U U U) ag42 U B3 (by exact part_get hls' (j:=15) (o:=478) U U (bL _▸k.no)) (by exact(bL _).trans k.no) bI U ?_)
 refine op_eqW8 (a:=h.no) (b:=h.no) (bF U U U U) ae42 Tryz.underlying5 (by kernel_rfl) U U k.no k.no U (cH aE U U U (aH U U (cB (d:=117) U (fun g117=>?_) (fun g117=>?_))))
 rotate_left
 ·exact absurd U g117
 refine aD (bF U U U U) fl44_16 U U (aV (ds:=u64s (wl h.bf)) (bF U U U U) ag26 U B2 (by exact part_get hls (j:=16) (o:=486) U U hwb) (by exact hwb) mem1 U ?_)
 refine aD (bF U U U U) fl44_16 U U (aV (ds:=u64s (wl h.bf)) (bF U U U U) ag26 U B3 (by exact part_get hls' (j:=16) (o:=486) U U hwb) (by exact hwb) bI U ?_)
 refine op_eqW (a:=wl h.bf) (b:=wl h.bf) (bF U U U U) ae26 Tryz.underlying24 (by kernel_rfl) U U U U U (cH aE U U U (aH U U (cB (d:=124) U (fun g124=>?_) (fun g124=>?_))))
 rotate_left
 ·exact absurd U g124
 refine aD (bF U U U U) fl44_17 U U (aV (ds:=u8s h.wd) (bF U U U U) ag40 U B2 (by exact part_get hls (j:=17) (o:=490) U U (bL _▸k.wd)) (by exact(bL _).trans k.wd) mem1 U ?_)
 refine aD (bF U U U U) fl44_17 U U (aV (ds:=u8s h.wd) (bF U U U U) ag40 U B3 (by exact part_get hls' (j:=17) (o:=490) U U (bL _▸k.wd)) (by exact(bL _).trans k.wd) bI U ?_)
 refine op_eqW8 (a:=h.wd) (b:=h.wd) (bF U U U U) ae40 Tryz.underlying5 (by kernel_rfl) U U k.wd k.wd U (cH aE U U U (aH U U (cB (d:=131) U (fun g131=>?_) (fun g131=>?_))))
 rotate_left
 ·exact absurd U g131
 refine aD (bF U U U U) fl44_18 U U (aK (bF U U U U) sc24 U B2 (part_val hls (j:=18) (o:=522) U U) mem1 U (aD (bF U U U U) fl44_18 U U (aK (bF U U U U) sc24 U B3 (part_val hls' (j:=18) (o:=522) U U) bI U (dF (bF U U U U) U U U (cH aE U U U (aH U U (cB (d:=138) U (fun g138=>?_) (fun g138=>?_))))))))
 rotate_left
 ·exact absurd U g138
 refine aD (bF U U U U) fl44_19 U U (aK (bF U U U U) sc24 U B2 (part_val hls (j:=19) (o:=523) U U) mem1 U (aD (bF U U U U) fl44_19 U U (aK (bF U U U U) sc24 U B3 (part_val hls' (j:=19) (o:=523) U U) bI U (dF (bF U U U U) U U U (cH aE U U U (aH U U (cB (d:=145) U (fun g145=>?_) (fun g145=>?_))))))))
 rotate_left
 ·exact absurd U g145
 refine aD (bF U U U U) fl44_20 U U (aV (ds:=u8s h.be) (bF U U U U) ag40 U B2 (by exact part_get hls (j:=20) (o:=524) U U (bL _▸k.be)) (by exact(bL _).trans k.be) mem1 U ?_)
 refine aD (bF U U U U) fl44_20 U U (aV (ds:=u8s h.be) (bF U U U U) ag40 U B3 (by exact part_get hls' (j:=20) (o:=524) U U (bL _▸k.be)) (by exact(bL _).trans k.be) bI U ?_)
 refine op_eqW8 (a:=h.be) (b:=h.be) (bF U U U U) ae40 Tryz.underlying5 (by kernel_rfl) U U k.be k.be U (cH aE U U U (aR U U (aB (s_2 (a0 ((bH (cK (cI (L1:= []) U (.tmp U .nil) (.refl _) aJ ?_)))))))))
 exact⟨by simp,rfl⟩
end
theorem HdIn.le {N M:Heaplet} {h:HdM} {v:Value} (k:HdIn N h v) (hl:N.le M):HdIn M h v:=by
 obtain⟨k1,ea,ec,k3,k4⟩:=k
 exact⟨k1,ea,ec,k3,k4.le hl⟩
def wdK:List (Nat×FldK):= [(0,.num .u64),(1,.num .u64),(2,.arr 20),(22,.num .u64)]
theorem wd_has {w:WdM} (h:w.ad.length=20): ∀p∈wdK,HasK w.cells p:=fun p hp=>by
 have hu:(u8s w.ad).length=20:=by rw [bL,h]
 simp only [wdK,List.mem_cons,List.not_mem_nil,or_false]at hp
 rcases hp with rfl|rfl|rfl|rfl
 ·exact⟨_,rfl⟩
 ·exact⟨_,rfl⟩
 ·refine⟨w.ad,?_,h⟩
  show(u8s w.ad++ [Value.int .u64 (w.am.toNat:Int)]).take 20=u8s w.ad
  rw [List.take_append_of_le_length (by omega),List.take_of_length_le (by omega)]
 ·refine⟨(w.am.toNat:Int),?_⟩
  show(u8s w.ad++ [Value.int .u64 (w.am.toNat:Int)])[20]? =_
  rw [List.getElem?_append_right (by omega),hu]
  rfl
theorem wds_at {ws:List WdM} {j:Nat} {w:WdM} (h:ws[j]? =some w) (hc: ∀x∈ws,x.ad.length=20):((wdsC ws).drop (j*23)).take 23=w.cells:=flat_at WdM.cells (fun x hx=>wdC_len (hc x hx)) h
theorem BlkR.one {N:Heaplet} {m:BlkM} {cs:List Value} (h:BlkR N m cs):cs.length=560∧cs.all (·.oneCell')=true:=by
 obtain⟨v1,ta,tc,vs,oa,oc,xs,wa,wc,rfl,⟨h1,ea,ec,rfl,_⟩,_⟩:=h
 exact⟨cG (HdM.len h1 _),blk_one (HdM.one rfl) rfl rfl rfl⟩
theorem om_two {N M:Heaplet} {xs ys:List (HdM×Value)} (h:xs.map Prod.fst=ys.map Prod.fst) (hx: ∀x∈xs,HdIn N x.1 x.2) (hy: ∀x∈ys,HdIn M x.1 x.2) {j:Nat} (hj:j<xs.length): ∃hd v v',xs[j]? =some (hd,v)∧ys[j]? =some (hd,v')∧HdIn N hd v∧HdIn M hd v':=by
 have hl:xs.length=ys.length:=by have:=congrArg List.length h;simpa using this
 obtain⟨x,hx1⟩: ∃x,xs[j]? =some x:=⟨_,List.getElem?_eq_getElem hj⟩
 obtain⟨y,hy1⟩: ∃y,ys[j]? =some y:=⟨_,List.getElem?_eq_getElem (by omega)⟩
 have e:x.1=y.1:=by
  have:=congrArg (fun l=>l[j]?) h
  simp only [List.getElem?_map,hx1,hy1,Option.map_some]at this
  exact Option.some.inj this
 obtain⟨a,b⟩:=x
 obtain⟨c,d⟩:=y
 dsimp only at e
 subst e
 exact⟨a,b,d,hx1,hy1,hx _ (List.mem_of_getElem? hx1),hy _ (List.mem_of_getElem? hy1)⟩
section
variable {N M : Heaplet} {m : BlkM} {cs cs' : List Value}
set_option maxHeartbeats 8000000 in
theorem FSameBlock_b (hT:BlkR N m cs) (hU:BlkR M m cs'):Fn Tryz.prog 15 #[.agg cs.toArray,.agg cs'.toArray] [] [N,M] (fun v L=>v=.bool true∧L= []):=by
 have ho1:=hT.one
 have ho2:=hU.one
 obtain⟨v1,ta,tc,vs,oa,oc,xs,wa,wc,rfl,hh,ht,hB,hO,hxs,hxm,hW,h20⟩:=hT
 obtain⟨v1',ta',tc',vs',oa',oc',xs',wa',wc',rfl,hh',ht',hB',hO',hxs',hxm',hW',_⟩:=hU
 have hH:=HdM.len hh.1 v1
 have hH':=HdM.len hh.1 v1'
 have gh:=part_get (blk_lens (t:=.slice ta m.txs.length tc) (o:=.slice oa m.oms.length oc) (p:=m.paid) (w:=.slice wa m.wds.length wc) hH) (j:=0) (o:=0) rfl rfl hH
 have gh':=part_get (blk_lens (t:=.slice ta' m.txs.length tc') (o:=.slice oa' m.oms.length oc') (p:=m.paid) (w:=.slice wa' m.wds.length wc') hH') (j:=0) (o:=0) rfl rfl hH'
 have hom:=hxm.trans hxm'.symm
 have hxl:xs.length=m.oms.length:=by rw [←hxm,List.length_map]
 have q1:=ht.cap63
 have q2:=hO.cap63
 have q3:=hW.cap63
 refine Fn.enter (vs:= [.agg (blkP (m.hd.cells v1) (.slice ta m.txs.length tc) (.slice oa m.oms.length oc) m.paid (.slice wa m.wds.length wc)).flatten.toArray,.agg (blkP (m.hd.cells v1') (.slice ta' m.txs.length tc') (.slice oa' m.oms.length oc') m.paid (.slice wa' m.wds.length wc')).flatten.toArray]) Tryz.func15 U U U ?_
 intro E R hR
 have hNR:=hR N (by simp)
 have hMR:=hR M (by simp)
 have tR:=ht.le hNR
 have tR':=ht'.le hMR
 have oR:=hO.le hNR
 have oR':=hO'.le hMR
 have wR:=hW.le hNR
 have wR':=hW'.le hMR
 have bR:=hB.le hNR
 have bR':=hB'.le hMR
 change At _ _ E [R] _
 refine aC fun _ s_1=>aA (op_box bU U U U (fun N2 b2 B2=>op_box bU U U U (fun N3 b3 B3=>aR U U (aB (s_1 (aC fun _ s_2=>aC fun _ s_3=>aA (aD aE fl54_0 U U (aV (ds:=m.hd.cells v1) aE ag44 U B2 (by exact gh) (by exact hH) mem1 U ?_))))))))
 refine aD aE fl54_0 U U (aV (ds:=m.hd.cells v1') aE ag44 U B3 (by exact gh') (by exact hH') bI U ?_)
 refine bD bU (.cons U (.cons U .nil)) (FSameHeader_b (hh.le hNR) (hh'.le hMR)) Tryz.func12 U U (by simp) U ?_
 rintro _ _ ⟨rfl,rfl⟩
 show At _ _ _ [N3,N2,R] _
 refine op_not aE U U (aH U U (aD (bF U U U U) fl54_3 U U (aK (bF U U U U) sc4 U B2 (gk_p hH) mem1 U (aD (bF U U U U) fl54_3 U U (aK (bF U U U U) sc4 U B3 (gk_p hH') bI U (op_neB (bF U U U U) Tryz.underlying4 U U U (cE aE U U U (aH U U (At.part (d:=21) U (fun g21=>?_) (fun g21=>?_))))))))))
 ·simp at g21
 refine aD (bF U U U U) fl54_1 U U (aK (bF U U U U) sc50 U B2 (gk_t hH) mem1 U (cF (bF U U U U) se50 U U (aD (bF U U U U) fl54_1 U U (aK (bF U U U U) sc50 U B3 (gk_t hH') bI U (cF (bF U U U U) se50 U U (dG (bF U U U U) U U U (cE aE U U U (aH U U (cB (d:=30) U (fun g30=>?_) (fun g30=>?_))))))))))
 ·exact absurd U g30
 refine aD (bF U U U U) fl54_2 U U (aK (bF U U U U) sc51 U B2 (gk_o hH) mem1 U (cF (bF U U U U) se51 U U (aD (bF U U U U) fl54_2 U U (aK (bF U U U U) sc51 U B3 (gk_o hH') bI U (cF (bF U U U U) se51 U U (dG (bF U U U U) U U U (cE aE U U U (aH U U (cB (d:=39) U (fun g39=>?_) (fun g39=>?_))))))))))
 ·exact absurd U g39
 refine aD (bF U U U U) fl54_4 U U (aK (bF U U U U) sc52 U B2 (gk_w hH) mem1 U (cF (bF U U U U) se52 U U (aD (bF U U U U) fl54_4 U U (aK (bF U U U U) sc52 U B3 (gk_w hH') bI U (cF (bF U U U U) se52 U U (dG (bF U U U U) U U U (cE aE U U U (aB (s_3 (aQ U (fun c47=>?_) (fun c47=>?_)))))))))))
 ·exact absurd U c47
 refine cT (d:=47) U c47 (aT (aI (s_2 (aC fun _ s_4=>aC fun _ s_5=>aA (aR U U (aB (s_5 (bZ (aM (bO (aM (At.loop (fun fr_ hp_ ms_=> ∃(i:Nat),fr_= [(2,.pointer (some ⟨b2,0,none⟩)),(3,.pointer (some ⟨b3,0,none⟩)),(5,.int .i64 (i:Int))]∧hp_= [N2,N3,R]∧m.txs.length- i=ms_∧(i≤m.txs.length)) ?_ aJ ⟨0,rfl,rfl,rfl,Nat.zero_le _⟩ ?_))))))))))))
 ·repeat first|apply cW|exact .nil|exact lkI rfl (by omega)|rfl
 rintro _ _ _ ⟨i,rfl,rfl,rfl,hi⟩
 refine aC fun _ s_6=>aC fun _ s_7=>aA (aH U U (aD aE fl54_1 U U (aK aE sc50 U B2 (gk_t hH) bI U (cF aE se50 U U (op_lss aE U U U (aB (s_7 (aQ U (fun c52=>?_) (fun c52=>?_)))))))))
 ·refine c4 (d:=52) U c52 ?_
  obtain⟨g,hg⟩: ∃g,m.txs[i]? =some g:=⟨_,List.getElem?_eq_getElem (by omega)⟩
  obtain⟨p,c,hv,r⟩:=bR.rsl i g hg
  obtain⟨p',c',hv',r'⟩:=bR'.rsl i g hg
  have si:=tR.isSome (by omega)
  have si':=tR'.isSome (by omega)
  refine aT (aI (s_6 (aC fun _ s_8=>bZ (aC fun _ s_9=>At.drawnS [N2,N3,R] [] [] [0,1,2,3,4,5,6,7,8,9,10,11,12] (by kernel_rfl) (by kernel_rfl) (.refl _) (aD (cD U U U) fl54_1 U U (aK (cD U U U) sc50 U B2 (gk_t hH) bI U (aP (cD U U U) U U (cZ (cD U U U) se50 U U tR (show _=(((i:Nat)):Int)from by omega) (by omega) U ?_))))))))
  refine cO (cD U U U) sc22 U tR (by first|exact get8 (by omega)|exact get64 (by omega)|exact get32 (by omega)|exact hv) (by simp) U ?_
  refine op_str (cD U U U) Tryz.underlying22 Tryz.underlying5 Tryz.underlying9 U (by assumption) (by simp) U ?_
  refine aD (cD U U U) fl54_1 U U (aK (cD U U U) sc50 U B3 (gk_t hH') mem1 U (aP (cD U U U) U U (cZ (cD U U U) se50 U U tR' (show _=(((i:Nat)):Int)from by omega) (by omega) U ?_)))
  refine cO (cD U U U) sc22 U tR' (by first|exact get8 (by omega)|exact get64 (by omega)|exact get32 (by omega)|exact hv') (by simp) U ?_
  refine op_str (cD U U U) Tryz.underlying22 Tryz.underlying5 Tryz.underlying9 U (by assumption) (by simp) U ?_
  refine op_neS (cD U U U) U U U (At.sNil (aI (s_9 (aQ U (fun c67=>?_) (fun c67=>?_)))))
  ·exact absurd U c67
  refine cT (d:=67) U c67 (aT (cS (aI (s_8 (aA (aH U U (cU aE U U (by omega) (by omega) U (aR U U (aB (At.back ?_ aJ ⟨i+1,rfl,rfl,rfl,by omega⟩ ?_))))))))))
  ·repeat first|apply cW|exact .nil|exact lkI rfl (by omega)|rfl
  ·omega
 refine cT (d:=52) U c52 (At.exit (bB (bB (dE (aI (s_4 (aC fun _ s_10=>aC fun _ s_11=>aA (aR U U (aB (s_11 (bZ (At.loop (fun fr_ hp_ ms_=> ∃(i:Nat),fr_= [(2,.pointer (some ⟨b2,0,none⟩)),(3,.pointer (some ⟨b3,0,none⟩)),(6,.int .i64 (i:Int))]∧hp_= [N2,N3,R]∧m.oms.length- i=ms_∧(i≤m.oms.length)) ?_ aJ ⟨0,rfl,rfl,rfl,Nat.zero_le _⟩ ?_))))))))))))
 ·repeat first|apply cW|exact .nil|exact lkI rfl (by omega)|rfl
 rintro _ _ _ ⟨i,rfl,rfl,rfl,hi⟩
 refine aC fun _ s_12=>aC fun _ s_13=>aA (aH U U (aD aE fl54_2 U U (aK aE sc51 U B2 (gk_o hH) bI U (cF aE se51 U U (op_lss aE U U U (aB (s_13 (aQ U (fun c72=>?_) (fun c72=>?_)))))))))
 ·refine c4 (d:=72) U c72 ?_
  obtain⟨hx,u,u',e1,e2,i1,i2⟩:=om_two hom hxs hxs' (j:=i) (by omega)
  have hx1:=HdM.len i1.1 u
  have hx2:=HdM.len i1.1 u'
  refine aT (aI (s_12 (aC fun _ s_14=>bZ (aC fun _ s_15=>At.drawnS [N2,N3,R] [10] [] [0,1,2,3,4,5,6,7,8,9,10,11] (by kernel_rfl) (by kernel_rfl) (.refl _) (aD (cD U U U) fl54_2 U U (aK (cD U U U) sc51 U B2 (gk_o hH) bI U (aP (cD U U U) U U (op_idxE (cD U U U) se51 U U oR (show _=(((i:Nat)):Int)from by omega) (by omega) U ?_))))))))
  refine op_loadAggE (ds:=hx.cells u) (cD U U U) ag44 U oR (by exact flat_at (fun x:HdM×Value=>x.1.cells x.2) (omC_cells hxs) e1) (by exact hx1) (by omega) (by simp) U ?_
  refine aD (cD U U U) fl54_2 U U (aK (cD U U U) sc51 U B3 (gk_o hH') mem1 U (aP (cD U U U) U U (op_idxE (cD U U U) se51 U U oR' (show _=(((i:Nat)):Int)from by omega) (by omega) U ?_)))
  refine op_loadAggE (ds:=hx.cells u') (cD U U U) ag44 U oR' (by exact flat_at (fun x:HdM×Value=>x.1.cells x.2) (omC_cells hxs') e2) (by exact hx2) (by omega) (by simp) U ?_
  refine bD (Nx.agree (nxss U U U U)) (.cons U (.cons U .nil)) (FSameHeader_b (i1.le hNR) (i2.le hMR)) Tryz.func12 U U (by simp) U ?_
  rintro _ _ ⟨rfl,rfl⟩
  show At _ _ _ [N2,N3,R] _
  refine At.anyS (.refl _) (op_not (cD U U U) U U (At.sNil (aI (s_15 (dA U (aT (cS (aI (s_14 (aA (aH U U (cU aE U U (by omega) (by omega) U (aR U U (aB (At.back ?_ aJ ⟨i+1,rfl,rfl,rfl,by omega⟩ ?_)))))))))))))))
  ·repeat first|apply cW|exact .nil|exact lkI rfl (by omega)|rfl
  ·omega
 refine cT (d:=72) U c72 (At.exit (bB (bB (dE (aI (s_10 (aC fun _ s_16=>aC fun _ s_17=>aA (aR U U (aB (s_17 (bZ (At.loop (fun fr_ hp_ ms_=> ∃(i:Nat),fr_= [(2,.pointer (some ⟨b2,0,none⟩)),(3,.pointer (some ⟨b3,0,none⟩)),(7,.int .i64 (i:Int))]∧hp_= [N2,N3,R]∧m.wds.length- i=ms_∧(i≤m.wds.length)) ?_ aJ ⟨0,rfl,rfl,rfl,Nat.zero_le _⟩ ?_))))))))))))
 ·repeat first|apply cW|exact .nil|exact lkI rfl (by omega)|rfl
 rintro _ _ _ ⟨i,rfl,rfl,rfl,hi⟩
 refine aC fun _ s_18=>aC fun _ s_19=>aA (aH U U (aD aE fl54_4 U U (aK aE sc52 U B2 (gk_w hH) bI U (cF aE se52 U U (op_lss aE U U U (aB (s_19 (aQ U (fun c91=>?_) (fun c91=>?_)))))))))
 ·refine c4 (d:=91) U c91 ?_
  obtain⟨w,hw⟩: ∃w,m.wds[i]? =some w:=⟨_,List.getElem?_eq_getElem (by omega)⟩
  have hwl:w.cells.length=23:=wdC_len (h20 w (List.mem_of_getElem? hw))
  refine aT (aI (s_18 (aC fun _ s_20=>bZ (aC fun _ s_21=>At.drawnS [N2,N3,R] [] [] [0,1,2,3,4,5,6,7,8,9,10] (by kernel_rfl) (by kernel_rfl) (.refl _) (aD (cD U U U) fl54_4 U U (aK (cD U U U) sc52 U B2 (gk_w hH) bI U (aP (cD U U U) U U (op_idxE (cD U U U) se52 U U wR (show _=(((i:Nat)):Int)from by omega) (by omega) U ?_))))))))
  refine op_loadAggE (ds:=w.cells) (cD U U U) ag125 U wR (by exact wds_at hw h20) (by exact hwl) (by omega) (by simp) U ?_
  refine aD (cD U U U) fl54_4 U U (aK (cD U U U) sc52 U B3 (gk_w hH') mem1 U (aP (cD U U U) U U (op_idxE (cD U U U) se52 U U wR' (show _=(((i:Nat)):Int)from by omega) (by omega) U ?_)))
  refine op_loadAggE (ds:=w.cells) (cD U U U) ag125 U wR' (by exact wds_at hw h20) (by exact hwl) (by omega) (by simp) U ?_
  refine op_neSelf (cD U U U) (by kernel_rfl) (by kernel_rfl) (by kernel_rfl) (ks:=_) (by kernel_rfl) U U (wd_has (h20 w (List.mem_of_getElem? hw))) U (At.sNil (aI (s_21 (dA U (aT (cS (aI (s_20 (aA (aH U U (cU aE U U (by omega) (by omega) U (aR U U (aB (At.back ?_ aJ ⟨i+1,rfl,rfl,rfl,by omega⟩ ?_))))))))))))))
  ·repeat first|apply cW|exact .nil|exact lkI rfl (by omega)|rfl
  ·omega
 refine cT (d:=91) U c91 (At.exit (bB (bB (dE (aI (s_16 (aC fun _ s_22=>aA (aR U U (aB (s_22 (a0 ((bH (cK (cI (L1:= []) U (.tmp U .nil) (.refl _) aJ ?_)))))))))))))))
 exact⟨rfl,rfl⟩
end
theorem cmpQ_gt {x y:Nat} :0<cmpI x y↔y<x:=by
 unfold cmpI
 split
 ·omega
 ·split<;>omega
theorem cmpQ_eq {x y:Nat} :cmpI x y=0↔x=y:=by
 unfold cmpI
 split
 ·omega
 ·split<;>omega
theorem cmpQ_lt {x y:Nat} :cmpI x y<0↔x<y:=by
 unfold cmpI
 split
 ·omega
 ·split<;>omega
theorem digsQ_nil {V:Nat} :(digsOf V).length=0↔V=0:=by
 rw [length_digsOf]
 have h:=bitLen_le (n:=V) (k:=0)
 rw [Nat.pow_zero]at h
 omega
section
variable {N M : Heaplet} {p q : Option Addr} {n m c k A B : Nat}
theorem qSub_f (ha:RSl N 1 p n c (u32s (digsOf A))) (hb:RSl M 1 q m k (u32s (digsOf B))) (hn:n≤1099511627776) (hge:B≤A):Fn Tryz.prog 101 #[.slice p n c,.slice q m k] [] [N,M] (DigsP (A- B)):=by
 have ea:=ha.len32
 have eb:=hb.len32
 have:=rSub_f ha hb hn (by rw [←ea, ←eb];exact digs_mono hge) (by rw [v32_digsOf,v32_digsOf];exact hge)
 rw [v32_digsOf,v32_digsOf]at this
 exact this
theorem qShr_f (ha:RSl N 1 p n c (u32s (digsOf A))) (s:Nat) (hn:n≤1099511627776) (hs:s≤1099511627776):Fn Tryz.prog 102 #[.slice p n c,.int .i64 (s:Int)] [] [N] (DigsP (A/2^s)):=by
 have:=rShr_f ha s hn hs
 rw [v32_digsOf]at this
 exact this
theorem qLen_f (ha:RSl N 1 p n c (u32s (digsOf A))) (hn:n≤1099511627776):Fn Tryz.prog 103 #[.slice p n c] [] [N] (fun v L=>v=.int .i64 ((bitLen A:Nat):Int)∧L= []):=by
 have:=rLen_f ha hn
 rw [v32_digsOf]at this
 exact this
theorem qBit_f (ha:RSl N 1 p n c (u32s (digsOf A))):Fn Tryz.prog 105 #[.slice p n c,.int .i64 0] [] [N] (fun v L=>v=.int .u32 ((A % 2:Nat):Int)∧L= []):=by
 have:=rBit_f ha 0 (by decide)
 rw [v32_digsOf,Nat.pow_zero,Nat.div_one]at this
 exact this
end
theorem stpv_ok {ki:Int} {ch x E Ew:Nat} {t:It} {r:Nat×Bool} (h:Stp E (wordE t) x Ew) (hr:wordE t=.ok x→vE ki ch t=.ok r):Stp E (vE ki ch t) r Ew:=by
 rcases h with ⟨h1,h2⟩|⟨e,h1,h2⟩
 ·exact .inl ⟨hr h1,h2⟩
 ·exact .inr ⟨e,by simp only [vE,h1],h2⟩
theorem stpv_bad {ki:Int} {ch x E Ew:Nat} {t:It} {r:Nat×Bool} (h:Stp E (wordE t) x Ew) (hr:wordE t=.ok x→vE ki ch t=.error 3):Stp E (vE ki ch t) r (if Ew=0 then 3 else Ew):=by
 rcases h with ⟨h1,rfl⟩|⟨e,h1,h2,rfl⟩
 ·exact .inr ⟨3,hr h1,by decide,rfl⟩
 ·refine .inr ⟨e,by simp only [vE,h1],h2,?_⟩
  by_cases hE:E=0
  ·rw [if_pos hE,if_neg h2]
  ·rw [if_neg hE,if_neg hE]
section
variable {ki : Int} {ch n : Nat} {t : It}
theorem vE_hi (he:wordE t=.ok n) (h0:ki≠0) (h: ¬n≤1):vE ki ch t=.error 3:=by
 simp only [vE,he];rw [if_neg (fun k=>h0 k.1),if_neg h0,if_neg h]
theorem vE_27 (he:wordE t=.ok n) (h0:ki=0) (h:n=27∨n=28):vE ki ch t=.ok (ch,decide (n=28)):=by
 simp only [vE,he];rw [if_neg (fun k=>by omega),if_pos h0,if_pos h]
theorem vE_36 (he:wordE t=.ok n) (h0:ki=0) (h: ¬(n=27∨n=28)) (h2:n<37):vE ki ch t=.error 3:=by
 simp only [vE,he];rw [if_neg (fun k=>by omega),if_pos h0,if_neg h]
theorem vE_far (he:wordE t=.ok n) (h0:ki=0) (h:36<n) (h2: ¬(n- 35)/2<2^64):vE ki ch t=.error 3:=by
 simp only [vE,he];rw [if_pos ⟨h0,h⟩,if_neg h2]
theorem vE_35 (he:wordE t=.ok n) (h0:ki=0) (h:36<n) (h2:(n- 35)/2<2^64):vE ki ch t=.ok ((n- 35)/2,decide ((n- 35) % 2=1)):=by
 simp only [vE,he];rw [if_pos ⟨h0,h⟩,if_pos h2]
end
def RVP (NI:Heaplet) (bp:Nat) (all:List It) (i E:Nat) (ki:Int) (ch:Nat) (v:Value) (L:List Heaplet):Prop:= ∃Np co E',v=.tuple #[.int .u64 ((co:Nat×Bool).1:Int),.bool co.2]∧co.1<2^64∧L= [Np]∧PartsQ Np NI bp all (i+1) E'∧Stp E (vE ki ch (nxt all i)) co E'
theorem digs8 {A:Nat} (h:A<WW):(digsOf A).length≤1099511627776:=by
 rw [length_digsOf]
 have:bitLen A≤256:=bitLen_le.2 h
 omega
theorem wo_u64 {x:Nat} (h:x<2^64):wo x=.agg #[.int .u64 ((x:Nat):Int),.int .u64 0,.int .u64 0,.int .u64 0]:=by
 have e:(UInt64.ofNat x).toNat=x:=by rw [UInt64.toNat_ofNat',Nat.mod_eq_of_lt h]
 have:=wo_small (UInt64.ofNat x)
 rw [e]at this
 exact this
section
variable {Np NI : Heaplet} {bp i E : Nat} {all : List It} {ki : Int} {ch : Nat}
set_option maxHeartbeats 2000000 in
theorem RV (h:PartsQ Np NI bp all i E) (hi:i≤9000000000000000000) (hk:0≤ki) (hc:ch<2^64) (h0:ki=0→ch=0):Fn Tryz.prog 45 #[.pointer (some ⟨bp,0,none⟩),.int .i64 ki,.int .u64 (ch:Int)] [Np] [NI] (RVP NI bp all i E ki ch):=by
 refine Fn.enter (vs:= [.pointer (some ⟨bp,0,none⟩),.int .i64 ki,.int .u64 (ch:Int)]) Tryz.func45 U U U ?_
 intro E R hR
 have hNR:=hR NI (by simp)
 change At _ _ E [Np,R] _
 refine aC fun _ s_1=>aA (aR U U (aR U U (aB (s_1 (aC fun _ s_2=>aA (aH U U (cA cL (.cons U .nil) ((RWord h hi).liftB hNR) (F:= [R]) Tryz.func39 U U aJ (by simp) U ?_)))))))
 rintro _ _ ⟨Np,Ew,x,rfl,hx,rfl,hP,hst⟩
 show At _ _ _ [Np,R] _
 refine bD bU (.cons U .nil) (rN_w hx) Tryz.func98 U U (by simp) U ?_
 rintro _ _ ⟨M,pn,pc,rfl,rfl,sn⟩
 show At _ _ _ [M,Np,R] _
 have hnl:=sn.len32;have hncap:=sn.cap63;have hnil:=digsQ_nil (V:=x)
 refine aR U U (aB (s_2 (aC fun _ s_3=>aC fun _ s_4=>aA (aH U U (op_gtr aE U U U (aB (s_4 (aQ U (fun c15=>?_) (fun c15=>?_)))))))))
 ·refine aC fun _ s_5=>aC fun _ s_6=>aA (aH U U (bD bU (.cons U .nil) (Of32_f 1) Tryz.func100 U U (by simp) U ?_))
  rintro _ _ ⟨M17,p17,c17,rfl,rfl,s17⟩
  show At _ _ _ [M17,M,Np,R] _
  refine bD bU (.cons U (.cons U .nil)) (Cmp32_f sn s17) Tryz.func99 U U (by simp) U ?_
  rintro _ _ ⟨rfl,rfl⟩
  show At _ _ _ [M17,M,Np,R] _
  refine op_gtr aE U U U (aB (s_6 (aQ U (fun c19=>?_) (fun c19=>?_))))
  ·refine aA (aH U U (aN (aM (aM (aN (cA cL (.cons U (.cons U .nil)) (RWrong hP 3) (F:= [M17,M,R]) Tryz.func62 U U aJ (by simp) U ?_))))))
   rintro _ _ ⟨Np,rfl,rfl,hP⟩
   show At _ _ _ [Np,M17,M,R] _
   refine aB (s_5 (aC fun _ s_7=>aA (aH U U (aH U U (cF aE se168 U U (op_gtr aE U U U (aR U U (aR U U (aB (s_7 (a0 (aS ((bJ (bH (bE (L1:= [Np]) U (.tmp U (.tmp U .nil)) U (.refl _) aJ ?_))))))))))))))))
   exact⟨Np,(ch,_),_,rfl,hc,rfl,hP,stpv_bad hst fun he=>vE_hi he (by omega) fun h1=>absurd (cmpQ_gt.1 c19) (by show ¬1<x;omega)⟩
  refine aT (aI (s_5 (aC fun _ s_8=>aA (aH U U (aH U U (cF aE se168 U U (op_gtr aE U U U (aR U U (aR U U (aB (s_8 (a0 (aS ((bH (cK (bE (L1:= [Np]) U (.tmp U (.tmp U .nil)) U (.refl _) aJ ?_)))))))))))))))))
  have hx1:x≤1:=Nat.le_of_not_lt fun h=>c19 (cmpQ_gt.2 h)
  exact⟨Np,(ch,decide ((0:Int)<((digsOf x).length:Int))),_,rfl,hc,rfl,hP,stpv_ok hst fun he=>by rw [vE_C he (by omega) hx1];congr 2;rw [decide_eq_decide];omega⟩
 refine aT (aI (s_3 (aC fun _ s_9=>aC fun _ s_10=>aA (aH U U (bD bU (.cons U .nil) (Of32_f 27) Tryz.func100 U U (by simp) U ?_)))))
 rintro _ _ ⟨M27,p27,c27,rfl,rfl,s27⟩
 show At _ _ _ [M27,M,Np,R] _
 refine bD bU (.cons U (.cons U .nil)) (Cmp32_f sn s27) Tryz.func99 U U (by simp) U ?_
 rintro _ _ ⟨rfl,rfl⟩
 show At _ _ _ [M27,M,Np,R] _
 refine dF aE U U U (aH U U (cB (d:=30) U (fun g30=>?_) (fun g30=>?_)))
 ·have hx27:x=27:=cmpQ_eq.1 (by exact g30)
  have hpos:0<(digsOf x).length:=by omega
  refine aU U U U U U U U (aU U U U U U U U (aU U U U U U U U (aU U U U U U U U (cH aE U U U (aB (s_10 (At.condT U (aC fun _ s_11=>At.drawn [] [0,1,2,3,4,5] (by kernel_rfl) (by kernel_rfl) (aP (bP U U U (by kernel_rfl)) U U (cZ (bP U U U (by kernel_rfl)) se168 U U sn (show _=(((0:Nat)):Int)from by omega) (by omega) U ?_))))))))))
  refine cO (bP U U U (by kernel_rfl)) sc172 U sn (by first|exact get8 (by omega)|exact get64 (by omega)|exact get32 (by omega)) (by simp) U ?_
  refine dF (bP U U U (by kernel_rfl)) U U U (cJ (bP U U U (by kernel_rfl)) U U (cJ (bP U U U (by kernel_rfl)) U U (dK (aI (s_11 (a0 (aS ((bH (cK (bE (L1:= [Np]) U (.tmp U (.tmp U .nil)) U (.refl _) aJ ?_)))))))))))
  have e0:=h0 (by omega)
  subst e0
  have e1:((digsOf x).getD 0 0).toNat=27:=by rw [hx27];decide+kernel
  exact⟨Np,(0,decide ((((digsOf x).getD 0 0).toNat:Int)=28)),_,rfl,Nat.two_pow_pos 64,rfl,hP,stpv_ok hst fun he=>by rw [vE_27 he (by omega) (.inl hx27),e1,hx27];rfl⟩
 refine aP (bF U U U U) U U (bD (nxga U U U U) (.cons U .nil) (Of32_f 28) Tryz.func100 U U (by simp) U ?_)
 rintro _ _ ⟨M32,p32,c32,rfl,rfl,s32⟩
 show At _ _ _ [M32,M27,M,Np,R] _
 refine bD (nxga U U U U) (.cons U (.cons U .nil)) (Cmp32_f sn s32) Tryz.func99 U U (by simp) U ?_
 rintro _ _ ⟨rfl,rfl⟩
 show At _ _ _ [M32,M27,M,Np,R] _
 refine dF (bF U U U U) U U U (cE aE U U U (aB (s_10 (aQ U (fun c35=>?_) (fun c35=>?_)))))
 ·have hx28:x=28:=cmpQ_eq.1 (by exact c35)
  have hpos:0<(digsOf x).length:=by omega
  refine aC fun _ s_12=>At.drawn [] [0,1,2,3,4,5] (by kernel_rfl) (by kernel_rfl) (aP (bP U U U (by kernel_rfl)) U U (cZ (bP U U U (by kernel_rfl)) se168 U U sn (show _=(((0:Nat)):Int)from by omega) (by omega) U ?_))
  refine cO (bP U U U (by kernel_rfl)) sc172 U sn (by first|exact get8 (by omega)|exact get64 (by omega)|exact get32 (by omega)) (by simp) U ?_
  refine dF (bP U U U (by kernel_rfl)) U U U (cJ (bP U U U (by kernel_rfl)) U U (cJ (bP U U U (by kernel_rfl)) U U (dK (aI (s_12 (a0 (aS ((bJ (bH (cK (bE (L1:= [Np]) U (.tmp U (.tmp U .nil)) U (.refl _) aJ ?_))))))))))))
  have e0:=h0 (by omega)
  subst e0
  have e1:((digsOf x).getD 0 0).toNat=28:=by rw [hx28];decide+kernel
  exact⟨Np,(0,decide ((((digsOf x).getD 0 0).toNat:Int)=28)),_,rfl,Nat.two_pow_pos 64,rfl,hP,stpv_ok hst fun he=>by rw [vE_27 he (by omega) (.inr hx28),e1,hx28];rfl⟩
 refine aT (aI (s_9 (aC fun _ s_13=>aC fun _ s_14=>aA (aH U U (bD bU (.cons U .nil) (Of32_f 37) Tryz.func100 U U (by simp) U ?_)))))
 rintro _ _ ⟨M41,p41,c41,rfl,rfl,s41⟩
 show At _ _ _ [M41,M32,M27,M,Np,R] _
 refine bD bU (.cons U (.cons U .nil)) (Cmp32_f sn s41) Tryz.func99 U U (by simp) U ?_
 rintro _ _ ⟨rfl,rfl⟩
 show At _ _ _ [M41,M32,M27,M,Np,R] _
 refine op_lss aE U U U (aB (s_14 (aQ U (fun c43=>?_) (fun c43=>?_))))
 ·refine aC fun _ s_15=>aA (aH U U (aG (aL (aL (aL (aL (aG (cA cL (.cons U (.cons U .nil)) (RWrong hP 3) (F:= [M41,M32,M27,M,R]) Tryz.func62 U U aJ (by simp) U ?_))))))))
  rintro _ _ ⟨Np,rfl,rfl,hP⟩
  show At _ _ _ [Np,M41,M32,M27,M,R] _
  refine aB (s_15 (aC fun _ s_16=>aA (aR U U (aR U U (aB (s_16 (a0 (aS ((dH (bW (bJ (bH (bE (L1:= [Np]) U (.tmp U (.tmp U .nil)) U (.refl _) aJ ?_))))))))))))))
  have hlt:x<37:=cmpQ_lt.1 c43
  have n27:x≠27:=fun e=>g30 (cmpQ_eq.2 e)
  have n28:x≠28:=fun e=>c35 (cmpQ_eq.2 e)
  exact⟨Np,(0,false),_,rfl,by decide,rfl,hP,stpv_bad hst fun he=>vE_36 he (by omega) (by omega) hlt⟩
 have hx37:37≤x:=Nat.le_of_not_lt fun h=>c43 (cmpQ_lt.2 h)
 have hxl:=Nat.lt_of_lt_of_le hx (Nat.le_refl WW)
 refine aT (aI (s_13 (aC fun _ s_17=>aA (aH U U (bD bU (.cons U .nil) (Of32_f 35) Tryz.func100 U U (by simp) U ?_)))))
 rintro _ _ ⟨M47,p47,c47,rfl,rfl,s47⟩
 show At _ _ _ [M47,M41,M32,M27,M,Np,R] _
 refine bD bU (.cons U (.cons U .nil)) (qSub_f sn s47 (digs8 hx) (show(35:UInt64).toNat≤x from by show 35≤x;omega)) Tryz.func101 U U (by simp) U ?_
 rintro _ _ ⟨M48,p48,k48,rfl,rfl,s48⟩
 show At _ _ _ [M48,M47,M41,M32,M27,M,Np,R] _
 rw [show(35:UInt64).toNat=35 from rfl]at s48⊢;have hx35:x- 35<WW:=(by omega)
 refine aR U U (aB (s_17 (aC fun _ s_18=>aA (aH U U (bD bU (.cons U (.cons U .nil)) (qShr_f s48 1 (digs8 hx35) (by decide)) Tryz.func102 U U (by simp) U ?_)))))
 rintro _ _ ⟨M50,p50,k50,rfl,rfl,s50⟩
 show At _ _ _ [M50,M48,M47,M41,M32,M27,M,Np,R] _
 rw [show 2^1=2 from rfl]at s50⊢;have hxh:(x- 35)/2<WW:=(Nat.lt_of_le_of_lt (Nat.div_le_self _ _) hx35)
 refine aR U U (aB (s_18 (aC fun _ s_19=>aC fun _ s_20=>aA (aH U U (bD bU (.cons U .nil) (qLen_f s50 (digs8 hxh)) Tryz.func103 U U (by simp) U ?_)))))
 rintro _ _ ⟨rfl,rfl⟩
 show At _ _ _ [M50,M48,M47,M41,M32,M27,M,Np,R] _
 refine op_gtr aE U U U (aB (s_20 (aQ U (fun c53=>?_) (fun c53=>?_))))
 ·refine aC fun _ s_21=>aA (aH U U (bN (aZ (aZ (aZ (aZ (aZ (aZ (aZ (bN (cA cL (.cons U (.cons U .nil)) (RWrong hP 3) (F:= [M50,M48,M47,M41,M32,M27,M,R]) Tryz.func62 U U aJ (by simp) U ?_)))))))))))
  rintro _ _ ⟨Np,rfl,rfl,hP⟩
  show At _ _ _ [Np,M50,M48,M47,M41,M32,M27,M,R] _
  refine aB (s_21 (aC fun _ s_22=>aA (aR U U (aR U U (aB (s_22 (a0 (aS ((dropAt7 (dropAt6 (dropAt5 (dH (bW (bJ (bH (bE (L1:= [Np]) U (.tmp U (.tmp U .nil)) U (.refl _) aJ ?_)))))))))))))))))
  have hfar: ¬(x- 35)/2<2^64:=fun h=>by have:=bitLen_le.2 h;omega
  exact⟨Np,(0,false),_,rfl,by decide,rfl,hP,stpv_bad hst fun he=>vE_far he (by omega) (by omega) hfar⟩
 have hlow:(x- 35)/2<2^64:=bitLen_le.1 (by omega)
 refine aT (aI (s_19 (aC fun _ s_23=>aA (aH U U (bD bU (.cons U .nil) (rW_w s50) Tryz.func104 U U (by simp) U ?_)))))
 rintro _ _ ⟨rfl,rfl⟩
 show At _ _ _ [M50,M48,M47,M41,M32,M27,M,Np,R] _
 rw [show wo ((x- 35)/2)=.agg #[.int .u64 (((x- 35)/2:Nat):Int),.int .u64 0,.int .u64 0,.int .u64 0]from wo_u64 hlow]
 refine op_idxV aE ae26 sc24 U U (show _=(((0:Nat)):Int)from by omega) (by omega) U U ?_
 refine aH U U (bD bU (.cons U (.cons U .nil)) (qBit_f s48) Tryz.func105 U U (by simp) U ?_)
 rintro _ _ ⟨rfl,rfl⟩
 show At _ _ _ [M50,M48,M47,M41,M32,M27,M,Np,R] _
 refine dF aE U U U (aR U U (aR U U (aB (s_23 (a0 ((dropAt6 (dropAt5 (dH (bW (bJ (bH (cK (bE (L1:= [Np]) U (.tmp U (.tmp U .nil)) U (.refl _) aJ ?_))))))))))))))
 exact⟨Np,((x- 35)/2,decide ((((x- 35) % 2:Nat):Int)=1)),_,rfl,hlow,rfl,hP,stpv_ok hst fun he=>by rw [vE_35 he (by omega) (by omega) hlow];congr 2;rw [decide_eq_decide];omega⟩
end
section
variable {ki : Int} {ch nn pr tp ga va bf r s x : Nat} {mk od o : Bool} {to l : List UInt8} {d a b v : Value}
theorem tx_mk (ht:to.length=20):setL (txP ki ch nn pr tp ga mk to va d a bf b od r s).flatten (0+12) [.bool o]=(txP ki ch nn pr tp ga o to va d a bf b od r s).flatten:=part_put (txP_lens ht) (j:=6) rfl rfl _
theorem tx_od (ht:to.length=20):setL (txP ki ch nn pr tp ga mk to va d a bf b od r s).flatten (0+44) [.bool o]=(txP ki ch nn pr tp ga mk to va d a bf b o r s).flatten:=part_put (txP_lens ht) (j:=13) rfl rfl _
theorem tx_to (ht:to.length=20) (hl:l.length=20):setL (txP ki ch nn pr tp ga mk to va d a bf b od r s).flatten (0+13) (u8s l)=(txP ki ch nn pr tp ga mk l va d a bf b od r s).flatten:=part_set (txP_lens ht) (j:=7) (q:=u8s l) rfl rfl (by simp only [bL];rw [hl];exact ht.symm)
theorem tx_gch (ht:to.length=20):(txP ki ch nn pr tp ga mk to va d a bf b od r s).flatten[0+1]? =some (.int .u64 (ch:Int)):=part_val (txP_lens ht) (j:=1) rfl rfl
end
theorem fill_tx (k:Int):fillL [(0,1),(1,1),(2,1),(3,4),(7,4),(11,1),(12,1),(13,20),(33,4),(37,1),(38,1),(39,4),(43,1),(44,1),(45,4),(49,4)] z32 [(0,.int .i64 k)]=some (txP k 0 0 0 0 0 false zero20 0 (.slice none 0 0) (.slice none 0 0) 0 (.slice none 0 0) false 0 0).flatten:=by
 have hl:=cQ
 simp only [fillL,List.getElem?_cons_zero,Value.cells,hl]
 exact congrArg some (tx_start k)
theorem deco_plainQ {b:List UInt8} {t:It} (hb:b.length<2^64) (h:decodeF b=.ok t):t.plain=t:=by
 obtain⟨h1,h2⟩:=decodeF_back hb h
 have h3:=decodeF_form (t:=t) (by rw [h1];exact hb) h2
 rw [h1,h]at h3
 exact(Except.ok.inj h3).symm
theorem plains_mem: ∀ {l:List It},It.plains l=l→ ∀u∈l,u.plain=u
 | [],_,u,hu=>by cases hu
 |t::ts,h,u,hu=>by
  rw [It.plains]at h
  obtain⟨h1,h2⟩:=List.cons.inj h
  rcases List.mem_cons.1 hu with rfl|hu
  ·exact h1
  ·exact plains_mem h2 u hu
theorem plain_items {t:It} (h:t.plain=t) {B:Nat} (hB:t.form.length≤B):t.items.length≤B∧ ∀u∈t.items,u.plain=u∧u.form.length≤B:=by
 obtain⟨l,bs,its⟩:=t
 cases l with
 |false=>
  simp only [It.plain]at h
  have e:its= []:=(It.mk.inj h).2.2.symm
  subst e
  exact⟨Nat.zero_le _,fun u hu=>by cases hu⟩
 |true=>
  simp only [It.plain]at h
  have e:=(It.mk.inj h).2.2
  have hl:listE (It.mk true bs its)=.ok its:=rfl
  exact⟨len_le hB hl,fun u hu=>⟨plains_mem e u hu,el_le hB hl hu⟩⟩
theorem plain_deep {t:It} (h:t.plain=t) (hB:t.form.length≤1099511627776):Deep3 t:=by
 obtain⟨h1,h2⟩:=plain_items h hB
 refine⟨h1,fun y hy=>?_⟩
 obtain⟨p1,p2⟩:=h2 y hy
 obtain⟨h3,h4⟩:=plain_items p1 p2
 exact⟨h3,fun u hu=>(plain_items (h4 u hu).1 (h4 u hu).2).1⟩
theorem stp_to {E E':Nat} {t:It} {x:List UInt8} {k:Int} (h:Stp E (fixE 20 t) x E') (hno: ∀l,strE t=.ok l→ ¬(l.length=0∧k≠3)):Stp E (toE k t) (false,x) E':=by
 rcases h with ⟨h1,h2⟩|⟨e,h1,h2⟩
 ·refine .inl ⟨?_,h2⟩
  unfold fixE at h1
  split at h1
  ·rename_i l hl
   split at h1
   ·rename_i hk
    cases h1
    exact toE_20 hl hk
   ·cases h1
  ·cases h1
 ·refine .inr ⟨e,?_,h2⟩
  unfold fixE at h1
  split at h1
  ·rename_i l hl
   split at h1
   ·cases h1
   ·rename_i hk
    cases h1
    exact toE_bad hl hk (hno l hl)
  ·rename_i e' hl
   cases h1
   simp only [toE,hl]
theorem stp_mk {E:Nat} {t:It} {l:List UInt8} {k:Int} (h:strE t=.ok l) (h0:l.length=0) (hk:k≠3):Stp E (toE k t) (true,zero20) E:=.inl ⟨toE_0 h h0 hk,rfl⟩
def RReadTxP (b:List UInt8) (v:Value) (L:List Heaplet):Prop:=
 (∃M m d x y,readTxE b=.ok m∧v=.tuple #[.agg (m.cells d x y).toArray,.int .i64 0]∧L= [M]∧m.Ok∧TxR M m d x y)∨
 (∃e:Nat,readTxE b=.error e∧v=.tuple #[.agg z32.toArray,.int .i64 (e:Int)]∧e≠0∧L= [nilH])
theorem counts_at {k:Nat} (hk:k<4): [Value.int .i64 9,.int .i64 11,.int .i64 12,.int .i64 14][k]? =some (.int .i64 (([9,11,12,14].getD k 0:Nat):Int)):=by
 match k,hk with
 |0,_=>rfl
 |1,_=>rfl
 |2,_=>rfl
 |3,_=>rfl
theorem RCounts (k:Nat) (hk:k≤3):Fn Tryz.prog 37 #[.int .i64 (k:Int)] [] [] (fun v L=>v=.int .i64 (([9,11,12,14].getD k 0:Nat):Int)∧L= []):=by
 have hk4:k<4:=by omega
 refine Fn.enter (vs:= [.int .i64 (k:Int)]) Tryz.func37 U U U ?_
 intro E R hR
 change At _ _ E [R] _
 refine aC fun _ s_1=>aA (aR U U (aB (s_1 (aC fun _ s_2=>aA (op_lit bU Tryz.underlying162 ze3 sz3 (.cons U (.cons U (.cons U (.cons U .nil)))) U U (by simp [Value.cells]) U U U (fun N3 a3 r3=>?_))))))
 simp only [flatV,List.flatMap_cons,List.flatMap_nil,Value.cells,List.append_nil,List.cons_append,List.nil_append]at r3
 have s3:=r3.rsl
 have hs3:=s3.isSome (by decide)
 refine aH U U (cZ aE se162 U U s3 (show _=(((k:Nat)):Int)from by omega) (by omega) U ?_)
 refine cO aE sc3 U s3 (by first|exact get8 (by omega)|exact get64 (by omega)|exact get32 (by omega)|exact counts_at hk4) (by simp) U ?_
 refine aR U U (aB (s_2 (a0 ((cK (cI (L1:= []) U (.tmp U .nil) (.refl _) aJ ?_))))))
 exact⟨rfl,rfl⟩
end Go.Proofs.YtjfagifjajielaaGreat
