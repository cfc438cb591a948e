/- Several texts in one: see the remarks ahead of each part. No condition but those told there. -/
import Derived.Test.YtjfagifjajielaaGreatX1
import Derived.Test.YtjfagifjajielaaGreatX22
import Derived.Test.YtjfagifjajielaaGreatX14
set_option linter.unusedSimpArgs false
set_option linter.unusedVariables false
namespace Go.Proofs.YtjfagifjajielaaGreat
open Go Go.RowKit
set_option maxRecDepth 100000
def blkP (H:List Value) (t o:Value) (p:Bool) (w:Value):List (List Value):= [H,[t],[o],[.bool p],[w]]
def blkLens:List Nat:= [556,1,1,1,1]
section
variable {H H' : List Value} {t o w v : Value} {p q : Bool}
theorem blk_lens (h:H.length=556):(blkP H t o p w).map List.length=blkLens:=by
 simp only [blkP,List.map_cons,List.map_nil,h];rfl
theorem cG (h:H.length=556):(blkP H t o p w).flatten.length=560:=by
 rw [flatten_len,blk_lens h];rfl
theorem bk_h (h:H.length=556) (h':H'.length=556):setL (blkP H t o p w).flatten (0+0) H'=(blkP H' t o p w).flatten:=part_set (blk_lens h) (j:=0) (q:=H') rfl rfl (by rw [h',h])
theorem bk_t (h:H.length=556):setL (blkP H t o p w).flatten (0+556) [v]=(blkP H v o p w).flatten:=part_put (blk_lens h) (j:=1) rfl rfl _
theorem bk_o (h:H.length=556):setL (blkP H t o p w).flatten (0+557) [v]=(blkP H t v p w).flatten:=part_put (blk_lens h) (j:=2) rfl rfl _
theorem bk_p (h:H.length=556):setL (blkP H t o p w).flatten (0+558) [.bool q]=(blkP H t o q w).flatten:=part_put (blk_lens h) (j:=3) rfl rfl _
theorem bk_w (h:H.length=556):setL (blkP H t o p w).flatten (0+559) [v]=(blkP H t o p v).flatten:=part_put (blk_lens h) (j:=4) rfl rfl _
theorem gk_t (h:H.length=556):(blkP H t o p w).flatten[0+556]? =some t:=part_val (blk_lens h) (j:=1) rfl rfl
theorem gk_o (h:H.length=556):(blkP H t o p w).flatten[0+557]? =some o:=part_val (blk_lens h) (j:=2) rfl rfl
theorem gk_p (h:H.length=556):(blkP H t o p w).flatten[0+558]? =some (.bool p):=part_val (blk_lens h) (j:=3) rfl rfl
theorem gk_w (h:H.length=556):(blkP H t o p w).flatten[0+559]? =some w:=part_val (blk_lens h) (j:=4) rfl rfl
theorem blk_one (hH:H.all (·.oneCell')=true) (ht:t.oneCell'=true) (ho:o.oneCell'=true) (hw:w.oneCell'=true):(blkP H t o p w).flatten.all (·.oneCell')=true:=by
 refine part_all fun x hp u hu=>?_
 simp only [blkP,List.mem_cons,List.not_mem_nil,or_false]at hp
 rcases hp with rfl|rfl|rfl|rfl|rfl
 ·exact List.all_eq_true.1 hH u hu
 all_goals (obtain rfl:=List.mem_singleton.1 hu;first|exact ht|exact ho|exact hw|rfl)
end
structure TxsI (NI Nk:Heaplet) (ys:List IV) (vs:List Value) (gs:List (List UInt8)):Prop where
 ly:ys.length=gs.length
 lv:vs.length=gs.length
 bag: ∃vE gE,Bag 5 Nk vE gE∧vE.length=gs.length∧gE.length=gs.length∧
  ∀(i:Nat) (z:IV) (v:Value) (g:List UInt8) (ve:Value) (ge:List UInt8),ys[i]? =some z→vs[i]? =some v→gs[i]? =some g→vE[i]? =some ve→gE[i]? =some ge→
   (z.l=false∧v=slB z∧z.nb=g.length∧RSl NI 1 z.ab z.nb z.cb (u8s g)∧ve=.slice none 0 0∧ge= [])∨(z.l=true∧ve=v∧ge=g)
theorem snoc_lt {α:Type} {l:List α} {x y:α} {i n:Nat} (hl:l.length=n) (hi:i<n) (h:(l++ [x])[i]? =some y):l[i]? =some y:=by
 rwa [List.getElem?_append_left (by omega)]at h
theorem snoc_eq {α:Type} {l:List α} {x y:α} {i n:Nat} (hl:l.length=n) (hi: ¬i<n) (h:(l++ [x])[i]? =some y):x=y:=by
 rw [List.getElem?_append_right (by omega)]at h
 have:i- l.length=0:=by
  obtain⟨h3,_⟩:=List.getElem?_eq_some_iff.1 h
  simp at h3;omega
 rw [this]at h;simpa using h
theorem RawAt.sl {NI NE:Heaplet} {z:IV} {v:Value} {g:List UInt8} (h:RawAt NI NE z v g): ∃p c,v=.slice p g.length c:=by
 rcases h with ⟨_,h2,h3,_⟩|⟨_,p,c,h,_⟩
 ·exact⟨z.ab,z.cb,by rw [h2,slB,h3]⟩
 ·exact⟨p,c,h⟩
theorem TxsI.nil (NI:Heaplet):TxsI NI nilH [] [] []:=⟨rfl,rfl,[],[],Bag.nil _ _,rfl,rfl,fun i z v g ve ge h=>by simp at h⟩
section
variable {NI Nk NE : Heaplet} {ys : List IV} {vs : List Value} {gs : List (List UInt8)} {z : IV} {v : Value} {g : List UInt8}
theorem TxsI.snoc (h:TxsI NI Nk ys vs gs) (hr:RawAt NI NE z v g) (ha:Apart NE Nk):TxsI NI (join2 NE Nk) (ys++ [z]) (vs++ [v]) (gs++ [g]):=by
 obtain⟨ly,lv,vE,gE,hb,l1,l2,hi⟩:=h
 refine⟨by simp [ly],by simp [lv],?_⟩
 have old: ∀ {i:Nat} {z' z:IV} {v' v:Value} {g' g:List UInt8} {ve' ve:Value} {ge' ge:List UInt8},i<gs.length→(ys++ [z'])[i]? =some z→(vs++ [v'])[i]? =some v→(gs++ [g'])[i]? =some g→(vE++ [ve'])[i]? =some ve→(gE++ [ge'])[i]? =some ge→_:=fun {i _ z _ v _ g _ ve _ ge} q k1 k2 k3 k4 k5=>hi i z v g ve ge (snoc_lt ly q k1) (snoc_lt lv q k2) (snoc_lt rfl q k3) (snoc_lt l1 q k4) (snoc_lt l2 q k5)
 rcases hr with ⟨r1,r2,r3,r4,r5⟩|⟨r1,p,c,r2,r3⟩
 ·refine⟨vE++ [.slice none 0 0],gE++ [[]],hb.snoc (x:= []) (p:=none) (c:=0) (Row.nil NE _ _) ha,by simp [l1],by simp [l2],fun i z v g ve ge k1 k2 k3 k4 k5=>?_⟩
  by_cases q:i<gs.length
  ·exact old q k1 k2 k3 k4 k5
  ·rw [←snoc_eq ly q k1, ←snoc_eq lv q k2, ←snoc_eq rfl q k3, ←snoc_eq l1 q k4, ←snoc_eq l2 q k5]
   exact .inl ⟨r1,r2,r3,r4,rfl,rfl⟩
 ·subst r2
  refine⟨vE++ [.slice p g.length c],gE++ [g],hb.snoc r3 ha,by simp [l1],by simp [l2],fun i z v g ve ge k1 k2 k3 k4 k5=>?_⟩
  by_cases q:i<gs.length
  ·exact old q k1 k2 k3 k4 k5
  ·rw [←snoc_eq ly q k1, ←snoc_eq lv q k2, ←snoc_eq rfl q k3, ←snoc_eq l1 q k4, ←snoc_eq l2 q k5]
   exact .inr ⟨r1,rfl,rfl⟩
theorem TxsI.at (h:TxsI NI Nk ys vs gs) {i:Nat} {g:List UInt8} (hg:gs[i]? =some g): ∃p c,vs[i]? =some (.slice p g.length c)∧(RSl NI 1 p g.length c (u8s g)∨RSl Nk 1 p g.length c (u8s g)):=by
 obtain⟨ly,lv,vE,gE,hb,l1,l2,hi⟩:=h
 obtain⟨hl,_⟩:=List.getElem?_eq_some_iff.1 hg
 have e1:ys[i]? =some ys[i]:=List.getElem?_eq_getElem (by omega)
 have e2:vs[i]? =some vs[i]:=List.getElem?_eq_getElem (by omega)
 have e3:vE[i]? =some vE[i]:=List.getElem?_eq_getElem (by omega)
 have e4:gE[i]? =some gE[i]:=List.getElem?_eq_getElem (by omega)
 rcases hi i _ _ _ _ _ e1 e2 hg e3 e4 with ⟨_,h2,h3,h4,_⟩|⟨_,h2,h3⟩
 ·refine⟨_,_,e2.trans (congrArg some (h2.trans ?_)),.inl (h3▸h4)⟩
  rw [slB,h3]
 ·obtain⟨p,c,k1,k2⟩:=hb.row i _ (e4.trans (congrArg some h3))
  rw [e3,h2]at k1
  exact⟨p,c,e2.trans k1,.inr k2.rsl⟩
end
section
variable {Np NI Nb Na Nk : Heaplet} {bp bb m c : Nat} {a : Option Addr} {t : It} {ts : List It} {z : IV} {zs ys : List IV} {vs : List Value} {gs : List (List UInt8)} {H : List Value} {o w : Value} {p : Bool}
set_option maxHeartbeats 4000000 in
theorem FTxs1_0 (h:PartsN Np NI bp (z::zs) (t::ts)) (hH:H.length=556) (B:Blk Nb bb 54 (blkP H (.slice a m c) o p w).flatten) (r:Row Na 22 1 a m c vs) (hone: ∀u∈vs,u.oneCell'=true) (hk:TxsI NI Nk ys vs gs) (hm:m<1099511627776) (hF:t.form.length≤1099511627776):
 FnE Tryz.prog 54 #[.pointer (some ⟨bp,0,none⟩),.pointer (some ⟨bb,0,none⟩)] [Np,Nb,Na,Nk] [NI] (fun _ L=> ∃Np Nb Na Nk g v a c,L= [Np,Nb,Na,Nk]∧rawE t=.ok g∧PartsN Np NI bp zs ts∧Blk Nb bb 54 (blkP H (.slice a (m+1) c) o p w).flatten∧Row Na 22 1 a (m+1) c (vs++ [v])∧v.oneCell'=true∧TxsI NI Nk (ys++ [z]) (vs++ [v]) (gs++ [g])) (fun v L=> ∃(e:Nat) (Nb:Heaplet) (cs:List Value),v=gaveV e∧L= [Nb]∧rawE t=.error e∧Blk Nb bb 54 cs∧cs.length=560):=by
 have h1:=FNext_p h
 refine FnE.enter (vs:= [.pointer (some ⟨bp,0,none⟩),.pointer (some ⟨bb,0,none⟩)]) Tryz.func54 U U U ?_
 intro E R hR
 have hNR:=hR NI (by simp)
 have h1:=h1.liftB hNR
 have Bb:=B
 change At _ _ E [Np,Nb,Na,Nk,R] _
 refine aL (aM (aL (aL (aL (At.drawnR [Nb,R] [6,8] [] [0,1,2,3,4,5,6,7,8] (by kernel_rfl) (by kernel_rfl) (.cons _ (.cons _ (.cons _ (.refl _)))) (by repeat first|exact PanOK.body|apply PanOK.then|apply PanOK.inB) ?_)))))
 refine aD (nxrf U U U) fl54_1 U U (aK (nxrf U U U) sc50 U Bb (gk_t hH) bI U (aP (nxrf U U U) U U (cA (nxrm U U U) (.cons U .nil) (h1) (F:= [Na,Nk,Nb,R]) Tryz.func52 U U aJ (by simp) U ?_)))
 rintro _ _ ⟨Mp,rfl,rfl,hp,hx⟩
 show At _ _ _ [Mp,Na,Nk,Nb,R] _
 change At _ ((6,.agg #[.bool z.l,.slice z.ab z.nb z.cb,.slice z.ai z.ni z.ci])::_) _ _ _
 refine aL (aL (aM (aL (aL (At.moreR (Lst:= [Nb,R]) (Lst':= [Mp,Nb,R]) (.cons _ (.refl _)) (.cons _ (.cons _ (.refl _))) (op_callR U (.cons U .nil) ((FRaw_p hx hF).liftB hNR) (F:= [Na,Nk,Mp,Nb,R]) (Lst':= [Mp,Nb,R]) Tryz.func55 U U (.refl _) (by simp) U (.refl _) (.cons _ (.cons _ (.refl _))) ?_ ?_))))))
 ·rintro _ _ ⟨e,rfl,rfl,hg⟩
  show At _ _ _ [Na,Nk,Mp,Nb,R] _
  refine bJ (bH (cK (cP (L1:= [Nb]) (.refl _) aJ ?_)))
  exact⟨e,Nb,_,rfl,rfl,hg,Bb,cG hH⟩
 rintro _ _ ⟨NE,g,rfl,hg,hra⟩
 show At _ _ _ [NE,Na,Nk,Mp,Nb,R] _
 obtain⟨pv,cv,rfl⟩:=hra.sl
 refine op_lit (Nx.agree (nxrm U U U)) Tryz.underlying50 ze22 sz22 (.cons U .nil) U U (by simp [Value.cells]) U U U (fun N8 a8 r8=>?_)
 simp only [flatV,List.flatMap_cons,List.flatMap_nil,Value.cells,List.append_nil,List.cons_append,List.nil_append]at r8
 have s8:=r8.rsl
 refine bC (bC (bC (aN (bC (bC (bC (At.moreR (Lst:= [Mp,Nb,R]) (Lst':= [N8,Mp,Nb,R]) (.cons _ (.refl _)) (.cons _ (.cons _ (.cons _ (.refl _)))) ?_)))))))
 refine op_append (nxrs U U U U) Tryz.underlying50 Tryz.underlying50 te22 U U r (by assumption) (by simp) (fun u hu=>by rw [List.mem_singleton.1 hu];rfl) (by omega) (by omega) sel1 U (fun N9 a9 p9 r9=>?_)
 have s9:=r9.rsl
 refine At.anyR (.refl _) (aD (nxrf U U U) fl54_1 U U ?_)
 refine aF (nxrl U U U U) sz50 U U U U U Bb (by rw [cG hH];exact show 0+556+1≤560 by decide) sel5 (fun Nb Bb=>?_)
 rw [bk_t hH]at Bb
 refine At.rNil (At.norX (bC (bC (bC (aL (aL (bC (bC (At.merge (fun hap=>bW (aL (bO (aN (aN (aL (At.retNE (L1:= [Mp,Nb,N9,(join2 NE Nk)]) U .nil U (.refl _) aJ ?_))))))))))))))))
 exact⟨Mp,Nb,N9,join2 NE Nk,g,_,_,_,rfl,hg,hp,Bb,r9,rfl,hk.snoc hra hap⟩
end
def omC (xs:List (HdM×Value)):List Value:=xs.flatMap fun x=>x.1.cells x.2
def OmI (NI:Heaplet) (x:HdM×Value):Prop:=x.1.Ok∧okF x.1.fi∧ ∃zs,HdS zs NI x.1 x.2
theorem HdS.one {zs:List IV} {NI:Heaplet} {h:HdM} {v:Value} (k:HdS zs NI h v):v.oneCell'=true:=by
 obtain⟨_,_,rfl,_⟩:=k;rfl
theorem omC_one {NI:Heaplet} {xs:List (HdM×Value)} (h: ∀x∈xs,OmI NI x): ∀u∈omC xs,u.oneCell'=true:=fun u hu=>by
 obtain⟨x,hx,hu⟩:=List.mem_flatMap.1 hu
 obtain⟨_,_,_,k⟩:=h x hx
 exact List.all_eq_true.1 (HdM.one k.one) u hu
def WdM.cells (x:WdM):List Value:=wdC x.ix x.va x.ad x.am
def wdsC (xs:List WdM):List Value:=xs.flatMap WdM.cells
theorem wdsC_one (xs:List WdM): ∀u∈wdsC xs,u.oneCell'=true:=fun u hu=>by
 obtain⟨x,_,hu⟩:=List.mem_flatMap.1 hu
 exact List.all_eq_true.1 wdC_one u hu
def wdP (i v:UInt64) (a:List UInt8) (m:UInt64):List (List Value):= [[.int .u64 (i.toNat:Int)],[.int .u64 (v.toNat:Int)],u8s a,[.int .u64 (m.toNat:Int)]]
theorem wdP_lens {i v m:UInt64} {a:List UInt8} (h:a.length=20):(wdP i v a m).map List.length= [1,1,20,1]:=by
 simp only [wdP,List.map_cons,List.map_nil,bL,h];rfl
theorem wdP_cells (i v:UInt64) (a:List UInt8) (m:UInt64):(wdP i v a m).flatten=wdC i v a m:=by
 simp only [wdP,wdC,List.flatten_cons,List.flatten_nil,List.append_nil,List.append_assoc,List.cons_append,List.nil_append]
theorem fill_wd {i v m:UInt64} {a:List UInt8} (ha:a.length=20):
 fillL [(0,1),(1,1),(2,20),(22,1)] (wdP 0 0 zero20 0).flatten [(0,.int .u64 (i.toNat:Int)),(1,.int .u64 (v.toNat:Int)),(2,.agg (u8s a).toArray),(3,.int .u64 (m.toNat:Int))]=some (wdC i v a m):=by
 have hz:zero20.length=20:=List.length_replicate ..
 have l0:=wdC_len (i:=0) (v:=0) (m:=0) hz
 have l1:=wdC_len (i:=i) (v:=0) (m:=0) hz
 have l2:=wdC_len (i:=i) (v:=v) (m:=0) hz
 have l3:=wdC_len (i:=i) (v:=v) (m:=0) ha
 rw [←wdP_cells]at l0 l1 l2 l3
 have e1:setL (wdP 0 0 zero20 0).flatten 0 [.int .u64 (i.toNat:Int)]=(wdP i 0 zero20 0).flatten:=part_put (wdP_lens hz) (j:=0) rfl rfl _
 have e2:setL (wdP i 0 zero20 0).flatten 1 [.int .u64 (v.toNat:Int)]=(wdP i v zero20 0).flatten:=part_put (wdP_lens hz) (j:=1) rfl rfl _
 have e3:setL (wdP i v zero20 0).flatten 2 (u8s a)=(wdP i v a 0).flatten:=part_set (wdP_lens hz) (j:=2) (q:=u8s a) rfl rfl (by rw [bL,bL,ha,hz])
 have e4:setL (wdP i v a 0).flatten 22 [.int .u64 (m.toNat:Int)]=(wdP i v a m).flatten:=part_put (wdP_lens ha) (j:=3) rfl rfl _
 have c0:(Value.agg (u8s a).toArray).cells.toList=u8s a:=rfl
 have ua:(u8s a).length=20:=by rw [bL,ha]
 have k (x:Int):(Value.int .u64 x).cells.toList= [.int .u64 x]:=rfl
 simp only [fillL,List.getElem?_cons_zero,List.getElem?_cons_succ,c0,k,ua,l0,l1,l2,l3,e1,e2,e3,e4,List.length_singleton]
 rw [if_pos (by decide),if_pos (by decide),if_pos (by decide),if_pos (by decide),wdP_cells]
section
variable {Np NI Nb Na : Heaplet} {bp bb m c : Nat} {a : Option Addr} {t : It} {ts : List It} {z : IV} {zs : List IV} {xs : List (HdM × Value)} {ws : List WdM} {H : List Value} {o w u : Value} {p : Bool}
set_option maxHeartbeats 4000000 in
theorem FOms1_0 (h:PartsN Np NI bp (z::zs) (t::ts)) (hH:H.length=556) (B:Blk Nb bb 54 (blkP H u (.slice a m c) p w).flatten) (r:Row Na 44 556 a m c (omC xs)) (hk: ∀x∈xs,OmI NI x) (hm:m<4294967296):
 FnE Tryz.prog 56 #[.pointer (some ⟨bp,0,none⟩),.pointer (some ⟨bb,0,none⟩)] [Np,Nb,Na] [NI] (fun _ L=> ∃Np Nb Na x a c,L= [Np,Nb,Na]∧hdE t=.ok x.1∧PartsN Np NI bp zs ts∧Blk Nb bb 54 (blkP H u (.slice a (m+1) c) p w).flatten∧Row Na 44 556 a (m+1) c (omC (xs++ [x]))∧ ∀y∈xs++ [x],OmI NI y) (fun v L=> ∃(e:Nat) (Nb:Heaplet) (cs:List Value),v=gaveV e∧L= [Nb]∧hdE t=.error e∧Blk Nb bb 54 cs∧cs.length=560):=by
 have h1:=FNext_p h
 refine FnE.enter (vs:= [.pointer (some ⟨bp,0,none⟩),.pointer (some ⟨bb,0,none⟩)]) Tryz.func56 U U U ?_
 intro E R hR
 have hNR:=hR NI (by simp)
 have h1:=h1.liftB hNR
 have Bb:=B
 change At _ _ E [Np,Nb,Na,R] _
 refine aN (aM (aN (aN (At.drawnR [Nb,R] [6,8] [] [0,1,2,3,4,5,6,7,8] (by kernel_rfl) (by kernel_rfl) (.cons _ (.cons _ (.refl _))) (by repeat first|exact PanOK.body|apply PanOK.then|apply PanOK.inB) ?_))))
 refine aD (nxrf U U U) fl54_2 U U (aK (nxrf U U U) sc51 U Bb (gk_o hH) bI U (aP (nxrf U U U) U U (cA (nxrm U U U) (.cons U .nil) (h1) (F:= [Na,Nb,R]) Tryz.func52 U U aJ (by simp) U ?_)))
 rintro _ _ ⟨Mp,rfl,rfl,hp,hx⟩
 show At _ _ _ [Mp,Na,Nb,R] _
 change At _ ((6,.agg #[.bool z.l,.slice z.ab z.nb z.cb,.slice z.ai z.ni z.ci])::_) _ _ _
 refine aN (aN (aM (aN (At.moreR (Lst:= [Nb,R]) (Lst':= [Mp,Nb,R]) (.cons _ (.refl _)) (.cons _ (.refl _)) (op_callR U (.cons U .nil) ((FHeader_p hx).liftB hNR) (F:= [Na,Mp,Nb,R]) (Lst':= [Mp,Nb,R]) Tryz.func48 U U (.refl _) (by simp) U (.refl _) (.cons _ (.refl _)) ?_ ?_)))))
 ·rintro _ _ ⟨e,rfl,rfl,hg⟩
  show At _ _ _ [Na,Mp,Nb,R] _
  refine bH (cK (cP (L1:= [Nb]) (.refl _) aJ ?_))
  exact⟨e,Nb,_,rfl,rfl,hg,Bb,cG hH⟩
 rintro _ _ ⟨hd,v1,zq,rfl,rfl,he,hok,hfi,hS,hzq⟩
 show At _ _ _ [Na,Mp,Nb,R] _
 refine op_lit (Nx.agree (nxrm rfl rfl rfl)) Tryz.underlying51 ze44 sz44 (.cons rfl .nil) rfl rfl (by(intro p hp;rw [List.mem_singleton.1 hp];exact HdM.len hok _)) rfl rfl rfl (fun N8 a8 r8=>?_)
 simp only [flatV,List.flatMap_cons,List.flatMap_nil,Value.cells,List.append_nil,List.cons_append,List.nil_append]at r8
 have s8:=r8.rsl
 refine aL (aL (aL (aN (aL (At.moreR (Lst:= [Mp,Nb,R]) (Lst':= [N8,Mp,Nb,R]) (.cons _ (.refl _)) (.cons _ (.refl _)) ?_)))))
 have s8:RSl N8 556 a8 1 1 (omC [(hd,v1)]):=by
  have:=r8.rsl
  simp only [omC,List.flatMap_cons,List.flatMap_nil,List.append_nil]
  exact this
 have hk2: ∀y∈xs++ [(hd,v1)],OmI NI y:=fun y hy=>by
  rcases List.mem_append.1 hy with hy|hy
  ·exact hk y hy
  ·rw [List.mem_singleton.1 hy];exact⟨hok,hfi,zq,hS⟩
 refine op_append (nxrs U U U U) Tryz.underlying51 Tryz.underlying51 te44 U U r s8 (by simp) (omC_one (NI:=NI) (xs:= [(hd,v1)]) fun y hy=>hk2 y (List.mem_append_right _ hy)) (by omega) (by omega) dB U (fun N9 a9 p9 r9=>?_)
 have s9:=r9.rsl
 refine At.anyR (.refl _) ?_
 rw [omC,omC, ←List.flatMap_append]at r9
 change Row N9 _ 556 a9 (m+1) p9 (omC (xs++ [(hd,v1)]))at r9
 refine aD (nxrf U U U) fl54_2 U U ?_
 refine aF (nxrl U U U U) sz51 U U U U U Bb (by rw [cG hH];exact show 0+557+1≤560 by decide) sel3 (fun Nb Bb=>?_)
 rw [bk_o hH]at Bb
 refine At.rNil (At.norX (bJ (aN (aM (aM (aN (At.retNE (L1:= [Mp,Nb,N9]) U .nil U (.refl _) aJ ?_)))))))
 exact⟨Mp,Nb,N9,(hd,v1),_,_,rfl,he,hp,Bb,r9,hk2⟩
theorem wdE_ne4 {t:It} {its:List It} (h:listE t=.ok its) (k:its.length∉ [4]):wdE t=.error 2:=by
 simp only [wdE,eb,h]
 match its,k with
 | [],_=>rfl
 | [_],_=>rfl
 | [_,_],_=>rfl
 | [_,_,_],_=>rfl
 | [_,_,_,_],k=>exact absurd (by simp) k
 |_::_::_::_::_::_,_=>rfl
theorem four_of {α:Type} {l:List α} (h:l.length=4): ∃a b c d,l= [a,b,c,d]:=by
 match l,h with
 | [a,b,c,d],_=>exact⟨a,b,c,d,rfl⟩
set_option maxHeartbeats 4000000 in
theorem FWds1_0 (h:PartsN Np NI bp (z::zs) (t::ts)) (hH:H.length=556) (B:Blk Nb bb 54 (blkP H u o p (.slice a m c)).flatten) (r:Row Na 125 23 a m c (wdsC ws)) (hk: ∀x∈ws,x.ad.length=20) (hm:m<4294967296):
 FnE Tryz.prog 57 #[.pointer (some ⟨bp,0,none⟩),.pointer (some ⟨bb,0,none⟩)] [Np,Nb,Na] [NI] (fun _ L=> ∃Np Nb Na x a c,L= [Np,Nb,Na]∧wdE t=.ok x∧PartsN Np NI bp zs ts∧Blk Nb bb 54 (blkP H u o p (.slice a (m+1) c)).flatten∧Row Na 125 23 a (m+1) c (wdsC (ws++ [x]))∧ ∀y∈ws++ [x],y.ad.length=20) (fun v L=> ∃(e:Nat) (Nb:Heaplet) (cs:List Value),v=gaveV e∧L= [Nb]∧wdE t=.error e∧Blk Nb bb 54 cs∧cs.length=560):=by
 have h1:=FNext_p h
 refine FnE.enter (vs:= [.pointer (some ⟨bp,0,none⟩),.pointer (some ⟨bb,0,none⟩)]) Tryz.func57 U U U ?_
 intro E R hR
 have hNR:=hR NI (by simp)
 have h1:=h1.liftB hNR
 have Bb:=B
 change At _ _ E [Np,Nb,Na,R] _
 refine aC fun _ s_1=>aA (aH U U (cA cL (.cons U .nil) (h1) (F:= [Nb,Na,R]) Tryz.func52 U U aJ (by simp) U ?_))
 rintro _ _ ⟨Mp,rfl,rfl,hp,hx⟩
 show At _ _ _ [Mp,Nb,Na,R] _
 change At _ ((5,.agg #[.bool z.l,.slice z.ab z.nb z.cb,.slice z.ai z.ni z.ci])::_) _ _ _
 refine bM (.cons U .nil) ((FOpened_p hx).liftB hNR) (F:= [Mp,Nb,Na,R]) Tryz.func33 U U (.refl _) (by simp) U ?_ ?_
 ·rintro _ _ ⟨e,rfl,rfl,he⟩
  show At _ _ _ [Mp,Nb,Na,R] _
  refine aY ((bJ (cK (cP (L1:= [Nb]) (.refl _) aJ ?_))))
  exact⟨e,Nb,_,rfl,rfl,by simp only [wdE,eb,he],Bb,cG hH⟩
 rintro _ _ ⟨Nq,bq,its,zq,rfl,rfl,hl,hq,hzq⟩
 show At _ _ _ [Nq,Mp,Nb,Na,R] _
 refine aR U U (aB (s_1 (aC fun _ s_2=>aA (aH U U (op_lit bU Tryz.underlying162 ze3 sz3 (.cons U .nil) U U (by simp [Value.cells]) U U U (fun N8 a8 r8=>?_))))))
 simp only [flatV,List.flatMap_cons,List.flatMap_nil,Value.cells,List.append_nil,List.cons_append,List.nil_append]at r8
 have s8:=r8.rsl
 refine aG (aG (aG (aG (aL (aG (bM (.cons U (.cons U .nil)) (FJust_p (ks:= [4]) hq r8.rsl (by decide)) (F:= [N8,Mp,Nb,Na,R]) Tryz.func51 U U (.refl _) (by simp) U ?_ ?_))))))
 ·rintro _ _ ⟨rfl,rfl,hjm⟩
  show At _ _ _ [N8,Mp,Nb,Na,R] _
  refine aY ((bW (bH (cK (cP (L1:= [Nb]) (.refl _) aJ ?_)))))
  exact⟨2,Nb,_,rfl,rfl,wdE_ne4 hl hjm,Bb,cG hH⟩
 rintro _ _ ⟨rfl,rfl,hjm⟩
 show At _ _ _ [Nq,N8,Mp,Nb,Na,R] _
 obtain⟨t1,t2,t3,t4,rfl⟩:=four_of (List.mem_singleton.1 hjm);obtain⟨z1,z2,z3,z4,rfl⟩:=four_of hq.all
 refine aB (s_2 (aG (aL (aG (aG (aG (aG (At.drawnR [Nb,R] [12,14] [4,6,8] [0,1,2,4,6,8,3,5,7,9,10,11,12,13,14] (by kernel_rfl) (by kernel_rfl) (.cons _ (.cons _ (.cons _ (.cons _ (.refl _))))) (by repeat first|exact PanOK.body|apply PanOK.then|apply PanOK.inB) ?_))))))))
 refine aD (nxrf U U U) fl54_4 U U (aK (nxrf U U U) sc52 U Bb (gk_w hH) bI U (aP (nxrf U U U) U U (aP (nxrf U U U) U U (aP (nxrf U U U) U U (aP (nxrf U U U) U U (op_callR U (.cons U .nil) ((F64_p hq).liftB hNR) (F:= [N8,Mp,Na,Nb,R]) (Lst':= [Nb,R]) Tryz.func58 U U (.refl _) (by simp) U (.refl _) (.cons _ (.cons _ (.cons _ (.refl _)))) ?_ ?_))))))
 ·rintro _ _ ⟨e,rfl,rfl,he⟩
  show At _ _ _ [N8,Mp,Na,Nb,R] _
  refine bJ (bH (cK (cP (L1:= [Nb]) (.refl _) aJ ?_)))
  exact⟨e,Nb,_,rfl,rfl,by simp only [wdE,wdA,eb,hl,he],Bb,cG hH⟩
 rintro _ _ ⟨Nq,x1,rfl,rfl,e1,hq⟩
 show At _ _ _ [Nq,N8,Mp,Na,Nb,R] _
 refine op_callR U (.cons U .nil) ((F64_p hq).liftB hNR) (F:= [N8,Mp,Na,Nb,R]) (Lst':= [Nb,R]) Tryz.func58 U U (.refl _) (by simp) U (.refl _) (.cons _ (.cons _ (.cons _ (.refl _)))) ?_ ?_
 ·rintro _ _ ⟨e,rfl,rfl,he⟩
  show At _ _ _ [N8,Mp,Na,Nb,R] _
  refine bJ (bH (cK (cP (L1:= [Nb]) (.refl _) aJ ?_)))
  exact⟨e,Nb,_,rfl,rfl,by simp only [wdE,wdA,eb,hl,e1,he],Bb,cG hH⟩
 rintro _ _ ⟨Nq,x2,rfl,rfl,e2,hq⟩
 show At _ _ _ [Nq,N8,Mp,Na,Nb,R] _
 refine op_callR U (.cons U .nil) ((FAddr_p hq).liftB hNR) (F:= [N8,Mp,Na,Nb,R]) (Lst':= [Nb,R]) Tryz.func59 U U (.refl _) (by simp) U (.refl _) (.cons _ (.cons _ (.cons _ (.refl _)))) ?_ ?_
 ·rintro _ _ ⟨e,rfl,rfl,he⟩
  show At _ _ _ [N8,Mp,Na,Nb,R] _
  refine bJ (bH (cK (cP (L1:= [Nb]) (.refl _) aJ ?_)))
  exact⟨e,Nb,_,rfl,rfl,by simp only [wdE,wdA,eb,hl,e1,e2,he],Bb,cG hH⟩
 rintro _ _ ⟨Nq,x3,rfl,rfl,e3,l3,hq⟩
 show At _ _ _ [Nq,N8,Mp,Na,Nb,R] _
 refine op_callR U (.cons U .nil) ((F64_p hq).liftB hNR) (F:= [N8,Mp,Na,Nb,R]) (Lst':= [Nb,R]) Tryz.func58 U U (.refl _) (by simp) U (.refl _) (.cons _ (.cons _ (.cons _ (.refl _)))) ?_ ?_
 ·rintro _ _ ⟨e,rfl,rfl,he⟩
  show At _ _ _ [N8,Mp,Na,Nb,R] _
  refine bJ (bH (cK (cP (L1:= [Nb]) (.refl _) aJ ?_)))
  exact⟨e,Nb,_,rfl,rfl,by simp only [wdE,wdA,eb,hl,e1,e2,e3,he],Bb,cG hH⟩
 rintro _ _ ⟨Nq,x4,rfl,rfl,e4,hq⟩
 show At _ _ _ [Nq,N8,Mp,Na,Nb,R] _
 refine cM (out:=wdC x1 x2 x3 x4) (nxrf U U U) ze125 pl125 (.cons U (.cons U (.cons U (.cons U .nil)))) (fill_wd l3) U ?_
 refine op_lit (Nx.agree (nxrm rfl rfl rfl)) Tryz.underlying52 ze125 sz125 (.cons rfl .nil) rfl rfl (by(intro p hp;rw [List.mem_singleton.1 hp];exact wdC_len l3)) rfl rfl rfl (fun N21 a21 r21=>?_)
 simp only [flatV,List.flatMap_cons,List.flatMap_nil,Value.cells,List.append_nil,List.cons_append,List.nil_append]at r21
 have s21:=r21.rsl
 refine bC (bC (aM (bC (bC (bC (bC (At.moreR (Lst:= [Nb,R]) (Lst':= [N21,Nb,R]) (.cons _ (.refl _)) (.cons _ (.cons _ (.cons _ (.cons _ (.refl _))))) ?_)))))))
 have s21:RSl N21 23 a21 1 1 (wdsC [⟨x1,x2,x3,x4⟩]):=by
  have:=r21.rsl
  simp only [wdsC,List.flatMap_cons,List.flatMap_nil,List.append_nil]
  exact this
 refine op_append (nxrs U U U U) Tryz.underlying52 Tryz.underlying52 te125 U U r s21 (by simp) (wdsC_one _) (by omega) (by omega) sel3 U (fun N22 a22 p22 r22=>?_)
 have s22:=r22.rsl
 refine At.anyR (.refl _) ?_
 rw [wdsC,wdsC, ←List.flatMap_append]at r22
 change Row N22 _ 23 a22 (m+1) p22 (wdsC (ws++ [⟨x1,x2,x3,x4⟩]))at r22
 refine aD (nxrf U U U) fl54_4 U U ?_
 refine aF (nxrl U U U U) sz52 U U U U U Bb (by rw [cG hH];exact show 0+559+1≤560 by decide) sel5 (fun Nb Bb=>?_)
 rw [bk_w hH]at Bb
 refine At.rNil (At.norX (dropAt5 (bW (bJ (aN (aM (aM (aN (At.retNE (L1:= [Mp,Nb,N22]) U .nil U (.refl _) aJ (⟨Mp,Nb,N22,⟨x1,x2,x3,x4⟩,_,_,rfl,by simp only [wdE,wdA,eb,hl,e1,e2,e3,e4],hp,Bb,r22,fun y hy=>?_⟩))))))))))
 rcases List.mem_append.1 hy with hy|hy
 ·exact hk y hy
 ·rw [List.mem_singleton.1 hy];exact l3
end
def BlkKept (bb:Nat) (NO:Heaplet):Prop:= ∃cs,Blk NO bb 54 cs∧cs.length=560
def TxsV (NI:Heaplet) (bb:Nat) (H:List Value) (o:Value) (p:Bool) (w:Value) (ys:List IV) (l:List (List UInt8)) (NO:Heaplet):Prop:= ∃Nb Na Nk a c vs,[Nb,Na,Nk].Pairwise Apart∧NO=joinL [Nb,Na,Nk]∧Blk Nb bb 54 (blkP H (.slice a l.length c) o p w).flatten∧Row Na 22 1 a l.length c vs∧(∀u∈vs,u.oneCell'=true)∧TxsI NI Nk ys vs l
def OmsV (NI:Heaplet) (bb:Nat) (H:List Value) (u:Value) (p:Bool) (w:Value) (l:List HdM) (NO:Heaplet):Prop:= ∃Nb Na a c xs,[Nb,Na].Pairwise Apart∧NO=joinL [Nb,Na]∧Blk Nb bb 54 (blkP H u (.slice a l.length c) p w).flatten∧Row Na 44 556 a l.length c (omC xs)∧(∀x∈xs,OmI NI x)∧xs.map Prod.fst=l
def WdsV (bb:Nat) (H:List Value) (u o:Value) (p:Bool) (l:List WdM) (NO:Heaplet):Prop:= ∃Nb Na a c,[Nb,Na].Pairwise Apart∧NO=joinL [Nb,Na]∧Blk Nb bb 54 (blkP H u o p (.slice a l.length c)).flatten∧Row Na 125 23 a l.length c (wdsC l)∧ ∀x∈l,x.ad.length=20
section
variable {Np NI NO : Heaplet} {bp bb : Nat} {t : It} {ts : List It} {z : IV} {zs ys : List IV} {gs : List (List UInt8)} {hs : List HdM} {ws : List WdM} {H : List Value} {o w u : Value} {p : Bool}
theorem TxsV.kept (hH:H.length=556): ∀(ys:List IV) (l:List (List UInt8)) (NO:Heaplet),TxsV NI bb H o p w ys l NO→BlkKept bb NO:=fun _ _ _ h=>by
 obtain⟨Nb,Na,Nk,a,c,vs,_,rfl,B,_⟩:=h
 exact⟨_,B.le join2_left,cG hH⟩
theorem OmsV.kept (hH:H.length=556): ∀(ys:List IV) (l:List HdM) (NO:Heaplet),OmsV NI bb H u p w l NO→BlkKept bb NO:=fun _ _ _ h=>by
 obtain⟨Nb,Na,a,c,xs,_,rfl,B,_⟩:=h
 exact⟨_,B.le join2_left,cG hH⟩
theorem WdsV.kept (hH:H.length=556): ∀(ys:List IV) (l:List WdM) (NO:Heaplet),WdsV bb H u o p l NO→BlkKept bb NO:=fun _ _ _ h=>by
 obtain⟨Nb,Na,a,c,_,rfl,B,_⟩:=h
 exact⟨_,B.le join2_left,cG hH⟩
theorem FTxs1_p (hH:H.length=556) (h:PartsN Np NI bp (z::zs) (t::ts)) (hV:TxsV NI bb H o p w ys gs NO) (hm:gs.length<4294967296) (hF:t.form.length≤1099511627776):
 FnE Tryz.prog 54 ([Value.pointer (some ⟨bp,0,none⟩)]++ [Value.pointer (some ⟨bb,0,none⟩)]).toArray [Np,NO] [NI] (fun _ L=> ∃Np NO g,L= [Np,NO]∧rawE t=.ok g∧PartsN Np NI bp zs ts∧TxsV NI bb H o p w (ys++ [z]) (gs++ [g]) NO) (fun v L=> ∃(e:Nat) (NO:Heaplet),v=gaveV e∧L= [NO]∧rawE t=.error e∧BlkKept bb NO):=by
 obtain⟨Nb,Na,Nk,a,c,vs,hA,rfl,B,r,h1,hk⟩:=hV
 refine(FnE.packR hA (FTxs1_0 h hH B r h1 hk (by omega) hF) fun v L hp=>?_).mono (fun _ _ h=>h) fun v L hp=>?_
 ·obtain⟨Mp,Mb,Ma,Mk,g,v',a',c',rfl,he,hq,B',r',h1',hk'⟩:=hp
  refine⟨Mp,[Mb,Ma,Mk],rfl,fun hA'=>⟨Mp,_,g,rfl,he,hq,Mb,Ma,Mk,a',c',vs++ [v'],hA',rfl,?_,?_,fun u hu=>?_,hk'⟩⟩
  ·rw [List.length_append];exact B'
  ·rw [List.length_append];exact r'
  ·rcases List.mem_append.1 hu with hu|hu
   ·exact h1 u hu
   ·rw [List.mem_singleton.1 hu];exact h1'
 ·obtain⟨e,Mb,cs,h1,h2,h3,h4,h5⟩:=hp
  exact⟨e,Mb,h1,h2,h3,cs,h4,h5⟩
theorem FOms1_p (hH:H.length=556) (h:PartsN Np NI bp (z::zs) (t::ts)) (hV:OmsV NI bb H u p w hs NO) (hm:hs.length<4294967296):
 FnE Tryz.prog 56 ([Value.pointer (some ⟨bp,0,none⟩)]++ [Value.pointer (some ⟨bb,0,none⟩)]).toArray [Np,NO] [NI] (fun _ L=> ∃Np NO g,L= [Np,NO]∧hdE t=.ok g∧PartsN Np NI bp zs ts∧OmsV NI bb H u p w (hs++ [g]) NO) (fun v L=> ∃(e:Nat) (NO:Heaplet),v=gaveV e∧L= [NO]∧hdE t=.error e∧BlkKept bb NO):=by
 obtain⟨Nb,Na,a,c,xs,hA,rfl,B,r,hk,hx⟩:=hV
 refine(FnE.packR hA (FOms1_0 h hH B r hk hm) fun v L hp=>?_).mono (fun _ _ h=>h) fun v L hp=>?_
 ·obtain⟨Mp,Mb,Ma,x,a',c',rfl,he,hq,B',r',hk'⟩:=hp
  refine⟨Mp,[Mb,Ma],rfl,fun hA'=>⟨Mp,_,x.1,rfl,he,hq,Mb,Ma,a',c',xs++ [x],hA',rfl,?_,?_,hk',by simp [hx]⟩⟩
  ·rw [List.length_append];exact B'
  ·rw [List.length_append];exact r'
 ·obtain⟨e,Mb,cs,h1,h2,h3,h4,h5⟩:=hp
  exact⟨e,Mb,h1,h2,h3,cs,h4,h5⟩
theorem FWds1_p (hH:H.length=556) (h:PartsN Np NI bp (z::zs) (t::ts)) (hV:WdsV bb H u o p ws NO) (hm:ws.length<4294967296):
 FnE Tryz.prog 57 ([Value.pointer (some ⟨bp,0,none⟩)]++ [Value.pointer (some ⟨bb,0,none⟩)]).toArray [Np,NO] [NI] (fun _ L=> ∃Np NO g,L= [Np,NO]∧wdE t=.ok g∧PartsN Np NI bp zs ts∧WdsV bb H u o p (ws++ [g]) NO) (fun v L=> ∃(e:Nat) (NO:Heaplet),v=gaveV e∧L= [NO]∧wdE t=.error e∧BlkKept bb NO):=by
 obtain⟨Nb,Na,a,c,hA,rfl,B,r,hk⟩:=hV
 refine(FnE.packR hA (FWds1_0 h hH B r hk hm) fun v L hp=>?_).mono (fun _ _ h=>h) fun v L hp=>?_
 ·obtain⟨Mp,Mb,Ma,x,a',c',rfl,he,hq,B',r',hk'⟩:=hp
  refine⟨Mp,[Mb,Ma],rfl,fun hA'=>⟨Mp,_,x,rfl,he,hq,Mb,Ma,a',c',hA',rfl,?_,?_,hk'⟩⟩
  ·rw [List.length_append];exact B'
  ·rw [List.length_append];exact r'
 ·obtain⟨e,Mb,cs,h1,h2,h3,h4,h5⟩:=hp
  exact⟨e,Mb,h1,h2,h3,cs,h4,h5⟩
end
section
variable {bt be : Nat} {Nt Ne : Heaplet} {cs : List Value} {x : Value} {e : Int}
theorem FRecBlk (Bt:Blk Nt bt 54 cs) (hcs:cs.length=560) (Be:Blk Ne be 33 [x]):FnRec Tryz.prog 50 #[.pointer (some ⟨bt,0,none⟩),.pointer (some ⟨be,0,none⟩)] (gaveV e) [Nt,Ne] (fun L=> ∃Nt Ne,L= [Nt,Ne]∧Blk Nt bt 54 z54∧Blk Ne be 33 [.int .i64 e]):=by
 unfold gaveV
 refine FnRec.enter (vs:= [.pointer (some ⟨bt,0,none⟩),.pointer (some ⟨be,0,none⟩)]) Tryz.func50 U U U U U ?_
 intro E R
 change At _ _ E [Nt,Ne,R] _
 refine aC fun _ s_1=>aA (aH U U (op_neNilF aE (by kernel_rfl) U U (aB (s_1 (At.condT U (At.planS [R] (.take 0 (.take 1 (.fork 2 false (.take 3 (.fork 4 false (.fork 5 true .done .nofork) .nofork)) (.fork 4 false (.fork 2 false (.take 3 (.fork 5 true .done .nofork)) .nofork) .nofork)))) (by kernel_rfl) (by kernel_rfl) (.cons _ (.cons _ (.refl _))) (cM (out:=z54) (nxpf U U) ze54 pl54 .nil U U (aP (nxpf U U) U U (At.fork ?_ ?_)))))))))
 rotate_left
 ·refine At.fork ?_ ?_
  rotate_left
  ·exact At.pNo
  refine aF (nxpa U U) sz54 U U U U U Bt (by rw [z54_len,hcs];exact Nat.le_refl _) dB (fun Nt Bt=>?_)
  rw [bG (by rw [z54_len,hcs])]at Bt
  refine At.andS (.cons _ (.cons _ (.refl _))) (At.fork ?_ ?_)
  rotate_left
  ·exact At.pNo
  refine op_assert1 (Nx.float (nxpa U U)) (by kernel_rfl) U U (At.andS (.cons _ (.cons _ (.refl _))) (op_field (cs:= [.int .i64 e]) (v:=.int .i64 e) (fo:=0) (nxpf U U) (fun w=>field_gave e w) U U (At.fork ?_ ?_)))
  rotate_left
  ·exact At.pNo
  refine aF (nxpl U U) sz33 U U U U U Be (by simp) sel1 (fun Ne Be=>?_)
  simp only [setL,List.set]at Be
  refine At.pDone (aM (bO (aM (At.retNE (L1:= [Nt,Ne]) U .nil U (.refl _) aJ ?_))))
  exact⟨Nt,Ne,rfl,Bt,Be⟩
 refine op_assert1 (Nx.float (nxpa U U)) (by kernel_rfl) U U (At.andS (.cons _ (.cons _ (.refl _))) (op_field (cs:= [.int .i64 e]) (v:=.int .i64 e) (fo:=0) (nxpf U U) (fun w=>field_gave e w) U U (At.fork ?_ ?_)))
 rotate_left
 ·exact At.pNo
 refine aF (nxpa U U) sz54 U U U U U Bt (by rw [z54_len,hcs];exact Nat.le_refl _) dB (fun Nt Bt=>?_)
 rw [bG (by rw [z54_len,hcs])]at Bt
 refine At.andS (.cons _ (.cons _ (.refl _))) (At.fork ?_ ?_)
 rotate_left
 ·exact At.pNo
 refine aF (nxpl U U) sz33 U U U U U Be (by simp) sel1 (fun Ne Be=>?_)
 simp only [setL,List.set]at Be
 refine At.pDone (aM (bO (aM (At.retNE (L1:= [Nt,Ne]) U .nil U (.refl _) aJ ?_))))
 exact⟨Nt,Ne,rfl,Bt,Be⟩
theorem FRetBlk (a b:Value):FnRet Tryz.prog 50 #[a,b]:=by
 refine FnRet.enter (vs:= [a,b]) Tryz.func50 U U U U U ?_
 intro E R
 change At _ _ E [R] _
 refine aC fun _ s_1=>aA (aH U U (op_neNilT aE (by kernel_rfl) U U (aB (s_1 (dA U (aT (At.retNE (L1:= []) U .nil U (.refl _) aJ ?_)))))))
 exact U
end
def readBlkE (b:List UInt8):Except Nat BlkM:=eb (decodeF b) blockE
def BlkS (NI NT NK NO NW:Heaplet) (m:BlkM) (cs:List Value):Prop:= ∃v1 ta tc vs ys oa oc xs wa wc t zs zt,
 cs=(blkP (m.hd.cells v1) (.slice ta m.txs.length tc) (.slice oa m.oms.length oc) m.paid (.slice wa m.wds.length wc)).flatten∧
 m.hd.Ok∧okF m.hd.fi∧(∃zs,HdS zs NI m.hd v1)∧
 Row NT 22 1 ta m.txs.length tc vs∧(∀u∈vs,u.oneCell'=true)∧TxsI NI NK ys vs m.txs∧
 Row NO 44 556 oa m.oms.length oc (omC xs)∧(∀x∈xs,OmI NI x)∧xs.map Prod.fst=m.oms∧
 Row NW 125 23 wa m.wds.length wc (wdsC m.wds)∧(∀x∈m.wds,x.ad.length=20)∧(m.paid=false→m.wds= [])∧
 ItemO NI t zs∧(∃i:Nat,zs[i]? =some zt)∧RSl NI 3 zt.ai zt.ni zt.ci (cellsI ys)
def ReadBlkP (b:List UInt8) (v:Value) (L:List Heaplet):Prop:=
 (∃e:Nat,e≠0∧v=.tuple #[.agg z54.toArray,.int .i64 (e:Int)]∧L= []∧readBlkE b=.error e)∨
 (∃NI NT NK NO NW m cs,v=.tuple #[.agg cs.toArray,.int .i64 0]∧L= [NI,NT,NK,NO,NW]∧readBlkE b=.ok m∧BlkS NI NT NK NO NW m cs)
theorem wdE_ne {t:It} : ∀e,wdE t=.error e→e≠0:=by
 refine eb_ne listE_ne fun its=>?_
 unfold wdA
 split
 ·exact eb_ne n64E_ne fun _=>eb_ne n64E_ne fun _=>eb_ne fixE_ne fun _=>eb_ne n64E_ne fun _=>ok_ne
 ·exact er_ne (by decide)
theorem z_blk:z54=(blkP ((HdM.zero 0).cells (.slice none 0 0)) (.slice none 0 0) (.slice none 0 0) false (.slice none 0 0)).flatten:=by kernel_rfl
theorem hd0_len:((HdM.zero 0).cells (.slice none 0 0)).length=556:=HdM.len (zeros_ok 0) _
theorem one_of {α:Type} {l:List α} (h:l.length=1): ∃a,l= [a]:=by
 match l,h with
 | [a],_=>exact⟨a,rfl⟩
theorem three_or {α:Type} {l:List α} (h:l.length∈ [3,4]): ∃a b c r,l=a::b::c::r∧r.length≤1:=by
 simp only [List.mem_cons,List.not_mem_nil,or_false]at h
 match l,h with
 | [a,b,c],_=>exact⟨a,b,c,[],rfl,Nat.zero_le _⟩
 | [a,b,c,d],_=>exact⟨a,b,c,[d],rfl,Nat.le_refl _⟩
theorem three_iv {zs:List IV} {n:Nat} (h:zs.length=n+3): ∃a b c r,zs=a::b::c::r∧r.length=n:=by
 match zs,h with
 |a::b::c::r,h=>exact⟨a,b,c,r,rfl,by simpa using h⟩
theorem blockE_ne {t:It} {its:List It} (h:listE t=.ok its) (k:its.length∉ [3,4]):blockE t=.error 2:=by
 simp only [blockE,eb,h];rw [if_neg k]
theorem blockE_in {t:It} {its:List It} (h:listE t=.ok its) (k:its.length∈ [3,4]):blockE t=blockA its:=by
 simp only [blockE,eb,h];rw [if_pos k]
theorem blockE_er {t:It} {e:Nat} (h:listE t=.error e):blockE t=.error e:=by simp only [blockE,eb,h]
theorem readB_1 {b:List UInt8} {e:Nat} (h:decodeF b=.error e):readBlkE b=.error e:=by simp only [readBlkE,eb,h]
theorem readB_2 {b:List UInt8} {t:It} (h:decodeF b=.ok t):readBlkE b=blockE t:=by simp only [readBlkE,eb,h]
section
variable {N : Heaplet} {ao : Option Addr} {n cap : Nat} {b : List UInt8}
set_option maxHeartbeats 8000000 in
theorem FReadBlock (h:RSl N 1 ao n cap (u8s b)) (hn:n≤4294967295):Fn Tryz.prog 13 #[.slice ao n cap] [] [N] (ReadBlkP b):=by
 have hl:=z54_len
 have hl0:=z54_len
 have hlen:=h.len8
 refine Fn.enterD (vs:= [.slice ao n cap]) Tryz.func13 U U U ?_
 intro E R hR hE
 have h:=h.le (hR N (by simp))
 change At _ _ E [R] _
 refine aC fun _ s_1=>aA (bK bU ze54 U (fun N2 b2 B2=>?_))
 change Blk N2 b2 _ z54 at B2
 refine bK bU ze33 U (fun N3 b3 B3=>?_)
 change Blk N3 b3 _ [.int .i64 0]at B3
 refine aB (s_1 (aC fun _ s_2=>aA (op_mkF aE .nil (.cons U (.cons U .nil)) U (op_defer U hE (aB (s_2 (aC fun _ s_3=>aA (aH U U (bD bU (.cons U .nil) (Decode_o h (by omega)) Tryz.func32 U U (by simp) U ?_)))))))))
 rintro _ _ (⟨t,D,x,ht,rfl,rfl,hi,ho,hsz⟩|⟨e,ht,rfl,rfl,hne⟩)
 ·show At _ _ _ [D,N3,N2,R] _
  refine aH U U (aO aE U U U (aO aE U U U (bK bU ze91 U (fun N4 b4 B4=>?_))))
  change Blk N4 b4 _ [.bool false,.slice none 0 0,.slice none 0 0]at B4
  refine aF cL sz91 U U U U U B4 (by simp) dB (fun N4 B4=>?_)
  simp only [setL,List.set]at B4
  refine aF cL sz33 U U U U U B3 (by simp) sel2 (fun N3 B3=>?_)
  simp only [setL,List.set]at B3
  refine aB (s_3 (aC fun _ s_4=>aA (aK aE sc33 U B3 U bI U ?_)))
  refine bM (.cons U .nil) (FCheck_any 0) (F:= [N3,N4,D,N2,R]) Tryz.func30 U U (.refl _) (by simp) U ?_ ?_
  ·rintro _ _ ⟨rfl,rfl,hc⟩
   show At _ _ _ [N3,N4,D,N2,R] _
   refine aY ((aL (aN (aN (aN (aL (At.panD (F:= [N4,D,R]) hE (FRecBlk B2 hl B3) Tryz.func50 U U (.refl _) ?_)))))))
   rintro L_ ⟨N2,N3,rfl,B2,B3⟩
   show At _ _ _ [N2,N3,N4,D,R] _
   refine bW (bJ (bE (L1:= []) U (.cell U (bQ (ds:=_) ag54 B2 (bY (by first|exact hl0|exact cG hH)) (by first|exact hl0|exact cG hH) bI) (.cell U (res_scal sc33 B3 U mem1) .nil)) U (.cons _ (.cons _ (.refl _))) aJ ?_))
   first
    |exact absurd rfl hc
    |exact .inl ⟨_,hne,rfl,rfl,readB_1 ht⟩
  rintro _ _ ⟨rfl,rfl,_⟩
  show At _ _ _ [N3,N4,D,N2,R] _
  refine aB (s_4 (aC fun _ s_5=>aA (aV (ds:= [_,_,_]) aE ag91 U B4 U U mem1 U (bM (.cons U .nil) (FOpened_p hi) (F:= [N3,N4,D,N2,R]) Tryz.func33 U U (.refl _) (by simp) U ?_ ?_))))
  ·rintro _ _ ⟨e,rfl,rfl,he⟩
   show At _ _ _ [N3,N4,D,N2,R] _
   refine aY ((aL (aN (aN (aN (aL (At.panD (F:= [N4,D,R]) hE (FRecBlk B2 hl B3) Tryz.func50 U U (.refl _) ?_)))))))
   rintro L_ ⟨N2,N3,rfl,B2,B3⟩
   show At _ _ _ [N2,N3,N4,D,R] _
   refine bW (bJ (bE (L1:= []) U (.cell U (bQ (ds:=_) ag54 B2 (bY (by first|exact hl0|exact cG hH)) (by first|exact hl0|exact cG hH) bI) (.cell U (res_scal sc33 B3 U mem1) .nil)) U (.cons _ (.cons _ (.refl _))) aJ ?_))
   exact .inl ⟨_,listE_ne _ he,rfl,rfl,(readB_2 ht).trans (blockE_er he)⟩
  rintro _ _ ⟨Nq,bq,its,zs,rfl,rfl,he,hq,hzs⟩
  show At _ _ _ [Nq,N3,N4,D,N2,R] _
  refine aR U U (aB (s_5 (aC fun _ s_6=>aA (aH U U (op_lit bU Tryz.underlying162 ze3 sz3 (.cons U (.cons U .nil)) U U (by simp [Value.cells]) U U U (fun N17 a17 r17=>?_))))))
  simp only [flatV,List.flatMap_cons,List.flatMap_nil,Value.cells,List.append_nil,List.cons_append,List.nil_append]at r17
  have s17:=r17.rsl
  refine bC (bC (bC (bC (bC (aG (bC (bM (.cons U (.cons U .nil)) (FJust_p (ks:= [3,4]) hq r17.rsl (by decide)) (F:= [N17,N3,N4,D,N2,R]) Tryz.func51 U U (.refl _) (by simp) U ?_ ?_)))))))
  ·rintro _ _ ⟨rfl,rfl,hjm⟩
   show At _ _ _ [N17,N3,N4,D,N2,R] _
   refine aY ((aG (aL (aL (aN (aL (aG (At.panD (F:= [N17,N4,D,R]) hE (FRecBlk B2 hl B3) Tryz.func50 U U (.refl _) ?_))))))))
   rintro L_ ⟨N2,N3,rfl,B2,B3⟩
   show At _ _ _ [N2,N3,N17,N4,D,R] _
   refine dH (bW (bJ (bE (L1:= []) U (.cell U (bQ (ds:=_) ag54 B2 (bY (by first|exact hl0|exact cG hH)) (by first|exact hl0|exact cG hH) bI) (.cell U (res_scal sc33 B3 U mem1) .nil)) U (.cons _ (.cons _ (.refl _))) aJ ?_)))
   exact .inl ⟨2,by decide,rfl,rfl,(readB_2 ht).trans (blockE_ne he hjm)⟩
  rintro _ _ ⟨rfl,rfl,hjm⟩
  show At _ _ _ [Nq,N17,N3,N4,D,N2,R] _
  obtain⟨t0,t1,t2,r,rfl,hrl⟩:=three_or hjm;obtain⟨z0,z1,z2,zr,rfl,hzl⟩:=three_iv (n:=r.length) hq.all;have hin:=(readB_2 ht).trans (blockE_in he hjm);have hF:=its_le he (deco_le (by omega) ht);have hFt:t.form.length≤4294967295:=(by rw [(decodeF_back (by omega) ht).1];omega);have hF2: ∀y∈t0::t1::t2::r,y.form.length≤4294967295:=fun y hy=>el_le hFt he hy;rw [z_blk]at B2
  refine dF aE U U U (aD aE fl54_3 U U ?_)
  refine aF cL sz4 U U U U U B2 (by rw [cG hd0_len];exact show 0+558+1≤560 by decide) sel5 (fun N2 B2=>?_)
  erw [bk_p hd0_len]at B2;have hl:=cG (t:=.slice none 0 0) (o:=.slice none 0 0) (p:=decide (((t0::t1::t2::r).length:Int)=4)) (w:=.slice none 0 0) hd0_len
  refine aB (s_6 (aC fun _ s_7=>aA (aH U U (bC (bC (bC (bC (bC (aG (bC (cA cL (.cons U .nil) (FNext_p hq) (F:= [N2,N17,N3,N4,D,R]) Tryz.func52 U U aJ (by simp) U ?_)))))))))))
  rintro _ _ ⟨Nq,rfl,rfl,hq,hx⟩
  show At _ _ _ [Nq,N2,N17,N3,N4,D,R] _
  change At _ ((22,.agg #[.bool z0.l,.slice z0.ab z0.nb z0.cb,.slice z0.ai z0.ni z0.ci])::_) _ _ _
  refine bM (.cons U .nil) (FHeader_p hx) (F:= [Nq,N2,N17,N3,N4,D,R]) Tryz.func48 U U (.refl _) (by simp) U ?_ ?_
  ·rintro _ _ ⟨e,rfl,rfl,e_h⟩
   show At _ _ _ [Nq,N2,N17,N3,N4,D,R] _
   refine aY ((bC (bC (bC (aG (aL (bC (bC (At.panD (F:= [Nq,N17,N4,D,R]) hE (FRecBlk B2 hl B3) Tryz.func50 U U (.refl _) ?_)))))))))
   rintro L_ ⟨N2,N3,rfl,B2,B3⟩
   show At _ _ _ [N2,N3,Nq,N17,N4,D,R] _
   refine dropAt5 (dH (bW (bJ (bE (L1:= []) U (.cell U (bQ (ds:=_) ag54 B2 (bY (by first|exact hl0|exact cG hH)) (by first|exact hl0|exact cG hH) bI) (.cell U (res_scal sc33 B3 U mem1) .nil)) U (.cons _ (.cons _ (.refl _))) aJ ?_))))
   exact .inl ⟨_,hdE_ne _ e_h,rfl,rfl,hin.trans (by simp only [blockA,eb,e_h])⟩
  rintro _ _ ⟨hd,v1,zh,rfl,rfl,e_h,hok,hfi,hS,hzh⟩
  show At _ _ _ [Nq,N2,N17,N3,N4,D,R] _
  have hH:=HdM.len hok v1
  have hone:=HdM.one (h:=hd) hS.one
  refine aD aE fl54_0 U U ?_
  refine aF cL sz44 U U U hH hone B2 (by rw [cG hd0_len,hH];exact show 0+0+556≤560 by decide) sel1 (fun N2 B2=>?_)
  rw [bk_h hd0_len hH]at B2;have hl:=cG (t:=.slice none 0 0) (o:=.slice none 0 0) (p:=decide (((t0::t1::t2::r).length:Int)=4)) (w:=.slice none 0 0) hH
  refine aB (s_7 (aC fun _ s_8=>aA (aH U U (op_mkF aE .nil (.cons U .nil) U (cV (cV (bN (bN (bN (bN (bN (bN (bC (aZ (bN (At.pack (As:= [N2,nilH,nilH]) (fun hANO=>?_)))))))))))))))))
  obtain⟨NO,eNO⟩: ∃N,N=joinL [N2,nilH,nilH]:=⟨_,rfl⟩
  rw [←eNO]
  have hEe:=FEach_q (g:=rawE) (Inv:=TxsV D b2 (hd.cells v1) (.slice none 0 0) (decide (((t0::t1::t2::r).length:Int)=4)) (.slice none 0 0)) (PInv:=BlkKept b2) (f:=54) (caps:= [Value.pointer (some ⟨b2,0,none⟩)]) hq (NO:=NO) ⟨N2,nilH,nilH,none,0,[],hANO,eNO,B2,Row.nil _ _ _,fun u hu=>absurd hu List.not_mem_nil,TxsI.nil _⟩ (TxsV.kept hH) (K:=4294967295) (by decide) (fun its hi=>len_le (hF2 _ (by simp)) hi) (El:=fun y=>y.form.length≤1099511627776) (fun its hi y hy=>el_le (hF _ (by simp)) hi hy) Tryz.func54 rfl rfl fun Nq NO bq z zs ys t ts l h1 h2 _ h3 h4=>FTxs1_p hH h1 h2 (by omega) h4
  refine bC (bC (bC (bC (bC (aG (bC (bM (.cons U (.cons U .nil)) (hEe) (F:= [N17,N3,N4,D,R]) Tryz.func53 U U (.refl _) (by simp) U ?_ ?_)))))))
  ·rintro _ _ ⟨e,N2,rfl,rfl,e_1,⟨cs,B2,hl⟩⟩
   show At _ _ _ [N2,N17,N3,N4,D,R] _
   refine aY ((aG (aG (aG (aL (aG (aG (At.panD (F:= [N17,N4,D,R]) hE (FRecBlk B2 hl B3) Tryz.func50 U U (.refl _) ?_))))))))
   rintro L_ ⟨N2,N3,rfl,B2,B3⟩
   show At _ _ _ [N2,N3,N17,N4,D,R] _
   refine dH (bW (bJ (bE (L1:= []) U (.cell U (bQ (ds:=_) ag54 B2 (bY (by first|exact hl0|exact cG hH)) (by first|exact hl0|exact cG hH) bI) (.cell U (res_scal sc33 B3 U mem1) .nil)) U (.cons _ (.cons _ (.refl _))) aJ ?_)))
   exact .inl ⟨_,eachE_ne (fun _=>rawE_ne) _ e_1,rfl,rfl,hin.trans (by simp only [blockA,eb,e_h,e_1])⟩
  rintro _ _ ⟨Nq,NV,l1,ys1,rfl,rfl,e_1,hq,⟨N2,NT,NK,ta,tc,vs,hA,eNV,B2,rT,oT,kT⟩,hy1⟩
  show At _ _ _ [Nq,NV,N17,N3,N4,D,R] _
  refine aB (s_8 (aC fun _ s_9=>aA (bC (bC (bC (bC (bC (aG (bC ?_)))))))))
  try rw [eNV]
  refine At.unpack hA ?_
  show At _ _ _ [N2,NT,NK,Nq,N17,N3,N4,D,R] _
  refine aH U U (op_mkF aE .nil (.cons U .nil) U (cV (bX (bX (bX (bX (bX (bX (bX (bX (bN (bX (At.pack (As:= [N2,nilH]) (fun hANO=>?_))))))))))))))
  obtain⟨NO,eNO⟩: ∃N,N=joinL [N2,nilH]:=⟨_,rfl⟩
  rw [←eNO]
  have hEe:=FEach_q (g:=hdE) (Inv:=fun _=>OmsV D b2 (hd.cells v1) (.slice ta l1.length tc) (decide (((t0::t1::t2::r).length:Int)=4)) (.slice none 0 0)) (PInv:=BlkKept b2) (f:=56) (caps:= [Value.pointer (some ⟨b2,0,none⟩)]) hq (NO:=NO) ⟨N2,nilH,none,0,[],hANO,eNO,B2,Row.nil _ _ _,fun u hu=>absurd hu List.not_mem_nil,rfl⟩ (OmsV.kept hH) (K:=4294967295) (by decide) (fun its hi=>len_le (hF2 _ (by simp)) hi) (El:=fun y=>y.form.length≤1099511627776) (fun its hi y hy=>el_le (hF _ (by simp)) hi hy) Tryz.func56 rfl rfl fun Nq NO bq z zs ys t ts l h1 h2 _ h3 h4=>FOms1_p hH h1 h2 (by omega)
  refine bN (bN (bN (bN (bN (aZ (aZ (aZ (bN (bM (.cons U (.cons U .nil)) (hEe) (F:= [NT,NK,N17,N3,N4,D,R]) Tryz.func53 U U (.refl _) (by simp) U ?_ ?_)))))))))
  ·rintro _ _ ⟨e,N2,rfl,rfl,e_2,⟨cs,B2,hl⟩⟩
   show At _ _ _ [N2,NT,NK,N17,N3,N4,D,R] _
   refine aY ((aZ (aZ (aZ (bC (bC (bC (aZ (aZ (At.panD (F:= [NT,NK,N17,N4,D,R]) hE (FRecBlk B2 hl B3) Tryz.func50 U U (.refl _) ?_))))))))))
   rintro L_ ⟨N2,N3,rfl,B2,B3⟩
   show At _ _ _ [N2,N3,NT,NK,N17,N4,D,R] _
   refine dropAt6 (dropAt5 (dH (bW (bJ (bE (L1:= []) U (.cell U (bQ (ds:=_) ag54 B2 (bY (by first|exact hl0|exact cG hH)) (by first|exact hl0|exact cG hH) bI) (.cell U (res_scal sc33 B3 U mem1) .nil)) U (.cons _ (.cons _ (.refl _))) aJ ?_)))))
   exact .inl ⟨_,eachE_ne (fun _=>hdE_ne) _ e_2,rfl,rfl,hin.trans (by simp only [blockA,eb,e_h,e_1,e_2])⟩
  rintro _ _ ⟨Nq,NV,l2,ys2,rfl,rfl,e_2,hq,⟨N2,NaO,oa,oc,xs,hA,eNV,B2,rO,oO,kO⟩,hy2⟩
  show At _ _ _ [Nq,NV,NT,NK,N17,N3,N4,D,R] _
  refine aB (s_9 (aC fun _ s_10=>aC fun _ s_11=>aA (bN (bN (bN (bN (bN (bN (bN (aZ (bN ?_)))))))))))
  try rw [eNV]
  refine At.unpack hA ?_
  show At _ _ _ [N2,NaO,Nq,NT,NK,N17,N3,N4,D,R] _
  refine aD aE fl54_3 U U (aK aE sc4 U B2 (gk_p hH) bI U (aB (s_11 (aQ U (fun c32=>?_) (fun c32=>?_)))))
  ·refine c4 (d:=32) U c32 ?_
   obtain⟨t3,rfl⟩:=one_of (l:=r) (by simp only [List.length_cons]at c32;omega)
   obtain⟨z3,rfl⟩:=one_of (l:=zr) (by simp only [List.length_cons,List.length_nil]at hzl;omega)
   refine aA (aH U U (op_mkF aE .nil (.cons U .nil) U (cV (cC (cC (cC (cC (cC (cC (cC (cC (cC (bX (cC (At.pack (As:= [N2,nilH]) (fun hANO=>?_))))))))))))))))
   obtain⟨NO,eNO⟩: ∃N,N=joinL [N2,nilH]:=⟨_,rfl⟩
   rw [←eNO]
   have hEe:=FEach_q (g:=wdE) (Inv:=fun _=>WdsV b2 (hd.cells v1) (.slice ta l1.length tc) (.slice oa l2.length oc) (decide (((t0::t1::t2:: [t3]).length:Int)=4))) (PInv:=BlkKept b2) (f:=57) (caps:= [Value.pointer (some ⟨b2,0,none⟩)]) hq (NO:=NO) ⟨N2,nilH,none,0,hANO,eNO,B2,Row.nil _ _ _,fun u hu=>absurd hu List.not_mem_nil⟩ (WdsV.kept hH) (K:=4294967295) (by decide) (fun its hi=>len_le (hF2 _ (by simp)) hi) (El:=fun y=>y.form.length≤1099511627776) (fun its hi y hy=>el_le (hF _ (by simp)) hi hy) Tryz.func57 rfl rfl fun Nq NO bq z zs ys t ts l h1 h2 _ h3 h4=>FWds1_p hH h1 h2 (by omega)
   refine bX (bX (bX (bX (bX (bX (bX (bN (bN (bX (bM (.cons U (.cons U .nil)) (hEe) (F:= [NaO,NT,NK,N17,N3,N4,D,R]) Tryz.func53 U U (.refl _) (by simp) U ?_ ?_))))))))))
   ·rintro _ _ ⟨e,N2,rfl,rfl,e_3,⟨cs,B2,hl⟩⟩
    show At _ _ _ [N2,NaO,NT,NK,N17,N3,N4,D,R] _
    refine aY ((bN (bN (bN (aZ (aZ (aZ (aZ (bN (bN (At.panD (F:= [NaO,NT,NK,N17,N4,D,R]) hE (FRecBlk B2 hl B3) Tryz.func50 U U (.refl _) ?_)))))))))))
    rintro L_ ⟨N2,N3,rfl,B2,B3⟩
    show At _ _ _ [N2,N3,NaO,NT,NK,N17,N4,D,R] _
    refine dropAt7 (dropAt6 (dropAt5 (dH (bW (bJ (bE (L1:= []) U (.cell U (bQ (ds:=_) ag54 B2 (bY (by first|exact hl0|exact cG hH)) (by first|exact hl0|exact cG hH) bI) (.cell U (res_scal sc33 B3 U mem1) .nil)) U (.cons _ (.cons _ (.refl _))) aJ ?_))))))
    exact .inl ⟨_,eachE_ne (fun _=>wdE_ne) _ e_3,rfl,rfl,hin.trans (by simp only [blockA,blockR,eb,e_h,e_1,e_2,e_3])⟩
   rintro _ _ ⟨Nq,NV,l3,ys3,rfl,rfl,e_3,hq,⟨N2,NW,wa,wc,hA,eNV,B2,rW,oW⟩,hy3⟩
   show At _ _ _ [Nq,NV,NaO,NT,NK,N17,N3,N4,D,R] _
   refine aB (s_10 (aC fun _ s_12=>aA (bX (bX (bX (bX (bX (bX (bX (bX (bN (bX ?_))))))))))))
   try rw [eNV]
   refine At.unpack hA ?_
   show At _ _ _ [N2,NW,Nq,NaO,NT,NK,N17,N3,N4,D,R] _
   refine aV (ds:=_) aE ag54 U B2 (by exact bY (cG hH)) (by exact cG hH) bI U ?_
   refine aF cL sz54 U U U (cG hH) (blk_one hone U U U) B2 (by rw [cG hH];exact Nat.le_refl _) dB (fun N2 B2=>?_)
   rw [bG (by rw [cG hH])]at B2
   refine aF cL sz33 U U U U U B3 (by simp) sel7 (fun N3 B3=>?_)
   simp only [setL,List.set]at B3
   refine aB (s_12 (a0 ((At.retD hE (FRetBlk _ _) Tryz.func50 U U (dropAt8 (dropAt7 (bW (aZ (aN (aL (bC (bC (aZ (bC (aZ (bE (L1:= [D,NT,NK,NaO,NW]) U (.cell U (bQ (ds:=_) ag54 B2 (bY (by first|exact hl0|exact cG hH)) (by first|exact hl0|exact cG hH) bI) (.cell U (res_scal sc33 B3 U mem1) .nil)) U (.cons _ (.cons _ (.refl _))) aJ ?_))))))))))))))))
   exact .inr ⟨D,NT,NK,NaO,NW,⟨hd,l1,l2,true,l3⟩,_,rfl,rfl,hin.trans (by simp only [blockA,blockR,eb,e_h,e_1,e_2,e_3]),v1,ta,tc,vs,ys1,oa,oc,xs,wa,wc,t,_,z1,rfl,hok,hfi,⟨zh,hS⟩,rT,oT,kT,rO,oO,kO,rW,oW,(fun h=>by cases h),⟨x,hi,ho,hzs⟩,⟨1,rfl⟩,hy1⟩
  refine cT (d:=32) U c32 ?_
  obtain rfl:r= []:=List.length_eq_zero_iff.1 (by simp only [List.length_cons]at c32;omega)
  refine aT (aI (s_10 (aC fun _ s_13=>aA (aV (ds:=_) aE ag54 U B2 (by exact bY (cG hH)) (by exact cG hH) bI U ?_))))
  refine aF cL sz54 U U U (cG hH) (blk_one hone U U U) B2 (by rw [cG hH];exact Nat.le_refl _) dB (fun N2 B2=>?_)
  rw [bG (by rw [cG hH])]at B2
  refine aF cL sz33 U U U U U B3 (by simp) sel6 (fun N3 B3=>?_)
  simp only [setL,List.set]at B3
  refine aB (s_13 (a0 ((At.retD hE (FRetBlk _ _) Tryz.func50 U U (cV (dropAt8 (dropAt7 (dH (aZ (bO (aL (bC (bC (aZ (bC (aZ (bE (L1:= [D,NT,NK,NaO,nilH]) U (.cell U (bQ (ds:=_) ag54 B2 (bY (by first|exact hl0|exact cG hH)) (by first|exact hl0|exact cG hH) bI) (.cell U (res_scal sc33 B3 U mem1) .nil)) U (.cons _ (.cons _ (.refl _))) aJ ?_)))))))))))))))))
  exact .inr ⟨D,NT,NK,NaO,nilH,⟨hd,l1,l2,false,[]⟩,_,rfl,rfl,hin.trans (by simp only [blockA,blockR,eb,e_h,e_1,e_2]),v1,ta,tc,vs,ys1,oa,oc,xs,none,0,t,_,z1,rfl,hok,hfi,⟨zh,hS⟩,rT,oT,kT,rO,oO,kO,Row.nil _ _ _,(fun u hu=>absurd hu List.not_mem_nil),(fun _=>rfl),⟨x,hi,ho,hzs⟩,⟨1,rfl⟩,hy1⟩
 show At _ _ _ [N3,N2,R] _
 refine aH U U (aO aE U U U (aO aE U U U (bK bU ze91 U (fun N4 b4 B4=>?_))))
 change Blk N4 b4 _ [.bool false,.slice none 0 0,.slice none 0 0]at B4
 refine aF cL sz91 U U U U U B4 (by simp) dB (fun N4 B4=>?_)
 simp only [setL,List.set]at B4
 refine aF cL sz33 U U U U U B3 (by simp) sel1 (fun N3 B3=>?_)
 simp only [setL,List.set]at B3
 refine aB (s_3 (aC fun _ s_14=>aA (aK aE sc33 U B3 U bI U ?_)))
 refine bM (.cons U .nil) (FCheck_e (by omega)) (F:= [N3,N4,N2,R]) Tryz.func30 U U (.refl _) (by simp) U ?_ ?_
 ·rintro _ _ ⟨rfl,rfl⟩
  show At _ _ _ [N3,N4,N2,R] _
  refine aY ((aN (aM (aM (aN (At.panD (F:= [N4,R]) hE (FRecBlk B2 hl B3) Tryz.func50 U U (.refl _) ?_))))))
  rintro L_ ⟨N2,N3,rfl,B2,B3⟩
  show At _ _ _ [N2,N3,N4,R] _
  refine bJ (bE (L1:= []) U (.cell U (bQ (ds:=_) ag54 B2 (bY (by first|exact hl0|exact cG hH)) (by first|exact hl0|exact cG hH) bI) (.cell U (res_scal sc33 B3 U mem1) .nil)) U (.cons _ (.cons _ (.refl _))) aJ ?_)
  first
   |exact absurd rfl hc
   |exact .inl ⟨_,hne,rfl,rfl,readB_1 ht⟩
 intro _ _ h_;exact h_.elim
end
def accIt (g:AccM):It:=itL [itS g.addr,itL (g.keys.map itS)]
section
variable {N : Heaplet} {ao : Option Addr} {n cap : Nat} {gs : List AccM} {xs : List AV}
theorem AccsN.cells (h:AccsN N gs xs): ∀x∈xs,x.cells.length=21:=fun x hx=>by
 obtain⟨i,hi,rfl⟩:=List.mem_iff_getElem.1 hx
 obtain⟨g,y,h1,h2,h3⟩:=h.at (i:=i) (by rw [←h.1];exact hi)
 rw [List.getElem?_eq_getElem hi]at h2
 cases h2
 exact AV.cells_len (by rw [h3.1];exact h3.2.1)
theorem AV.key_at {x:AV} (h:x.addr.length=20):x.cells[0+20]? =some (.slice x.ka x.kn x.kc):=by
 rw [AV.cells,List.getElem?_append_right (by rw [bL];omega),bL,h];rfl
end
section
variable {P : Program} {n : Nat} {l : List (Nat × Value)} {E : World} {L Ls : List Heaplet} {X Y : Act → World → Prop} {d : Nat} {t t' ty e : TypeId} {x y : Operand}
theorem op_neW8 {a b:List UInt8} {k:Nat} {pos:_} {aft:_} {g:_} (s:NxF P n l E L Ls ⟨some d,.binOp .neq t x y t',ty,pos,aft,g⟩ X Y) (ht:aelt P t=some (k,e,1)) (he:P.underlying e=some (.int .u8)) (hg:P.eqGuardType P.depth t=false) (hx:ev l x=some (.agg (u8s a).toArray)) (hy:ev l y=some (.agg (u8s b).toArray)) (ha:a.length=k) (hb:b.length=k) (hn:Nat.ble (d+1) n=true) (h:At n ((d,.bool (decide (a≠b)))::l) E L Y):At n l E L X:=by
 obtain⟨hu,i,hi,hsz⟩:=aelt_spec ht
 exact op_bin s hx hy (fun w=>eqGuard_agg hg w) (fun w=>by
  rw [run_neq_struct,run_equalIn_bytes8 w 9998 t e k hu he (fun w=>by rw [run_sizeOf hi,hsz]) a b ha hb]
  simp only [Result.andThen_ok,show(!(a==b))=decide (a≠b)from by rw [Bool.eq_iff_iff];simp]) hn h
end
section
variable {m : TxM} {d a b : Value}
theorem TxM.lens (h:m.Ok):(txP m.ki m.ch m.nn m.pr m.tp m.ga m.ma m.to m.va d a m.bf b m.od m.r m.s).map List.length=txLens:=txP_lens h.to
theorem gx_ki (h:m.Ok):(m.cells d a b)[0+0]? =some (.int .i64 m.ki):=part_val (TxM.lens h) (j:=0) rfl rfl
theorem gx_ch (h:m.Ok):(m.cells d a b)[0+1]? =some (.int .u64 (m.ch:Int)):=part_val (TxM.lens h) (j:=1) rfl rfl
theorem gx_nn (h:m.Ok):(m.cells d a b)[0+2]? =some (.int .u64 (m.nn:Int)):=part_val (TxM.lens h) (j:=2) rfl rfl
theorem gx_ga (h:m.Ok):(m.cells d a b)[0+11]? =some (.int .u64 (m.ga:Int)):=part_val (TxM.lens h) (j:=5) rfl rfl
theorem gx_mk (h:m.Ok):(m.cells d a b)[0+12]? =some (.bool m.ma):=part_val (TxM.lens h) (j:=6) rfl rfl
theorem gx_d (h:m.Ok):(m.cells d a b)[0+37]? =some (d):=part_val (TxM.lens h) (j:=9) rfl rfl
theorem gx_a (h:m.Ok):(m.cells d a b)[0+38]? =some (a):=part_val (TxM.lens h) (j:=10) rfl rfl
theorem gx_b (h:m.Ok):(m.cells d a b)[0+43]? =some (b):=part_val (TxM.lens h) (j:=12) rfl rfl
theorem gx_od (h:m.Ok):(m.cells d a b)[0+44]? =some (.bool m.od):=part_val (TxM.lens h) (j:=13) rfl rfl
theorem gx_pr (h:m.Ok):((m.cells d a b).drop (0+3)).take 4=u64s (wl m.pr):=part_get (TxM.lens h) (j:=3) rfl rfl (by rw [u64s_len,length_wl])
theorem gx_tp (h:m.Ok):((m.cells d a b).drop (0+7)).take 4=u64s (wl m.tp):=part_get (TxM.lens h) (j:=4) rfl rfl (by rw [u64s_len,length_wl])
theorem gx_va (h:m.Ok):((m.cells d a b).drop (0+33)).take 4=u64s (wl m.va):=part_get (TxM.lens h) (j:=8) rfl rfl (by rw [u64s_len,length_wl])
theorem gx_bf (h:m.Ok):((m.cells d a b).drop (0+39)).take 4=u64s (wl m.bf):=part_get (TxM.lens h) (j:=11) rfl rfl (by rw [u64s_len,length_wl])
theorem gx_r (h:m.Ok):((m.cells d a b).drop (0+45)).take 4=u64s (wl m.r):=part_get (TxM.lens h) (j:=14) rfl rfl (by rw [u64s_len,length_wl])
theorem gx_s (h:m.Ok):((m.cells d a b).drop (0+49)).take 4=u64s (wl m.s):=part_get (TxM.lens h) (j:=15) rfl rfl (by rw [u64s_len,length_wl])
theorem gx_to (h:m.Ok):((m.cells d a b).drop (0+13)).take 20=u8s m.to:=part_get (TxM.lens h) (j:=7) rfl rfl (by rw [bL,h.to])
end
theorem len_w4 (x:Nat):(u64s (wl x)).length=4:=by rw [u64s_len,length_wl]
def oddN (o:Bool):Nat:=if o then 1 else 0
def vM (m:TxM):Nat:=if 0<m.ki then oddN m.od else if m.ch=0 then 27+oddN m.od else 35+oddN m.od+2*m.ch
section
variable {m : TxM} {d a b : Value}
def fitsM (m:TxM):Prop:=0≤m.ki∧m.ki≤3∧(m.ma=true→m.ki≠3∧m.to=zero20)∧(m.ki<2→m.tp=0)∧(m.ki<3→m.bf=0∧m.bb.length=0)∧(m.ki=0→m.ac.length=0)
instance (m:TxM):Decidable (fitsM m):=by unfold fitsM;infer_instance
section
variable {m : TxM}
theorem n1 (h:m.ki<0∨3<m.ki): ¬fitsM m:=fun q=>by have:=q.1;have:=q.2.1;omega
theorem n2 (h:m.ma=true) (k:m.ki=3): ¬fitsM m:=fun q=>(q.2.2.1 h).1 k
theorem n4 (h:m.ki<2) (k:wl m.tp≠wl 0): ¬fitsM m:=fun q=>k (congrArg wl (q.2.2.2.1 h))
theorem n6 (h:m.ki<3) (k:0<m.bb.length): ¬fitsM m:=fun q=>by have:=(q.2.2.2.2.1 h).2;omega
theorem n7 (h:m.ki=0) (k:0<m.ac.length): ¬fitsM m:=fun q=>by have:=q.2.2.2.2.2 h;omega
end
section
variable {N : Heaplet} {da aa ba : Option Addr} {dc ac bc : Nat}
end
end
def numI (x:Nat):It:=itS (bytesOf x)
def toM (m:TxM):List UInt8:=if m.ma then []else m.to
def uA (m:TxM):List It:=if 0<m.ki then [numI m.ch]else []
def uB (m:TxM):List It:=uA m++ [numI m.nn]
def uC (m:TxM):List It:=uB m++if 1<m.ki then [numI m.tp]else []
def uD (m:TxM):List It:=uC m++ [numI m.pr,numI m.ga,itS (toM m),numI m.va,itS m.da]
def uE (m:TxM):List It:=uD m++if 0<m.ki then [itL (m.ac.map accIt)]else []
def uIts (m:TxM):List It:=uE m++if m.ki=3 then [numI m.bf,itL (m.bb.map itS)]else []
def TxR (N:Heaplet) (m:TxM) (d a b:Value):Prop:= ∃da dc aa cc ba bc axs,
 d=.slice da m.da.length dc∧RSl N 1 da m.da.length dc (u8s m.da)∧
 a=.slice aa m.ac.length cc∧RSl N 21 aa m.ac.length cc (accC axs)∧AccsN N m.ac axs∧
 b=.slice ba m.bb.length bc∧RSl N 32 ba m.bb.length bc (hashC m.bb)
structure TxM.Sz (m:TxM):Prop where
 da:m.da.length≤1073741824
 ac:m.ac.length≤1048576
 ks: ∀g∈m.ac,g.keys.length≤1048576
 bb:m.bb.length≤1048576
def ItsR (NB:Heaplet→Prop) (its:List It) (v:Value) (L:List Heaplet):Prop:= ∃Nl NJ a c xs,v=.slice a its.length c∧L= [Nl,NJ]∧Row Nl 91 3 a its.length c (cellsI xs)∧ ∀K:Heaplet,NJ.le K→NB K→ItsN K its xs
theorem ItsN.app {K:Heaplet} : ∀ {ts us:List It} {xs ys:List IV},ItsN K ts xs→ItsN K us ys→ItsN K (ts++us) (xs++ys)
 | [],us,xs,ys,h,k=>by
  have h:xs= []:=h
  subst h;exact k
 |t::ts,us,xs,ys,h,k=>by
  obtain⟨x,r,rfl,h1,h2⟩:=h
  exact ItsN_cons h1 (ItsN.app h2 k)
theorem ItsN.one {K:Heaplet} {its:List It} {xs:List IV} {t:It} {x:IV} (h:ItsN K its xs) (k:ItN K t x):ItsN K (its++ [t]) (xs++ [x]):=h.snoc k
section
variable {N : Heaplet} {m : TxM} {d a b : Value}
end
def OwnP (bs:List UInt8) (v:Value) (L:List Heaplet):Prop:= ∃M p c,v=.slice p bs.length c∧L= [M]∧Row M 5 1 p bs.length c (u8s bs)
def wIts (m:TxM):List It:=uIts m++ [numI (vM m),numI m.r,numI m.s]
def txB (m:TxM):List UInt8:=kindB m.ki++(itL (wIts m)).form
section
variable {N : Heaplet} {m : TxM} {d a b : Value} {its : List It} {ao : Option Addr} {n cap : Nat}
end
section
variable {N : Heaplet} {m : TxM} {d a b : Value}
end
def first8 (g:List UInt8):Nat:=(g.getD 0 0).toNat
def insE (g:List UInt8):Option It:=
 if g.length=0∨first8 g=0∨(3<first8 g∧first8 g<192)then none
 else if first8 g≤3 then some (itS g)
 else match decodeF g with
  |.ok t=>some t
  |.error _=>none
def InsP (N:Heaplet) (g:List UInt8) (v:Value) (L:List Heaplet):Prop:=
 (∃t J x,insE g=some t∧v=.tuple #[IV.val x,.bool true]∧L= [J]∧ ∀K:Heaplet,J.le K→N.le K→ItN K t x)∨
 (insE g=none∧v=.tuple #[.agg #[.bool false,.slice none 0 0,.slice none 0 0],.bool false]∧L= [])
section
variable {N : Heaplet} {g : List UInt8} {ao : Option Addr} {n cap : Nat}
end
end Go.Proofs.YtjfagifjajielaaGreat
