/- Several texts in one: see the remarks ahead of each part. No condition but those told there. -/
import Derived.Test.YtjfagifjajielaaGreatX1
import Derived.Test.YtjfagifjajielaaGreatX22
import Derived.Test.YtjfagifjajielaaGreatX14
set_option linter.unusedSimpArgs false
set_option linter.unusedVariables false
namespace Go.Proofs.YtjfagifjajielaaGreat
open Go Go.RowKit
set_option maxRecDepth 100000
def blkP (H:List Value) (t o:Value) (p:Bool) (w:Value):List (List Value):= [H,[t],[o],[.bool p],[w]]
def blkLens:List Nat:= [556,1,1,1,1]
section
variable {H H' : List Value} {t o w v : Value} {p q : Bool}
theorem blk_lens (h:H.length=556):(blkP H t o p w).map List.length=blkLens:=by
 simp only [blkP,List.map_cons,List.map_nil,h];rfl
theorem blk_len (h:H.length=556):(blkP H t o p w).flatten.length=560:=by
 rw [flatten_len,blk_lens h];rfl
theorem blk_one (hH:H.all (·.oneCell')=true) (ht:t.oneCell'=true) (ho:o.oneCell'=true) (hw:w.oneCell'=true):(blkP H t o p w).flatten.all (·.oneCell')=true:=by
 refine part_all fun x hp u hu=>?_
 simp only [blkP,List.mem_cons,List.not_mem_nil,or_false]at hp
 rcases hp with rfl|rfl|rfl|rfl|rfl
 ·exact List.all_eq_true.1 hH u hu
 all_goals (obtain rfl:=List.mem_singleton.1 hu;first|exact ht|exact ho|exact hw|rfl)
end
structure TxsI (NI Nk:Heaplet) (ys:List IV) (vs:List Value) (gs:List (List UInt8)):Prop where
 ly:ys.length=gs.length
 lv:vs.length=gs.length
 bag: ∃vE gE,Bag 5 Nk vE gE∧vE.length=gs.length∧gE.length=gs.length∧
  ∀(i:Nat) (z:IV) (v:Value) (g:List UInt8) (ve:Value) (ge:List UInt8),ys[i]? =some z→vs[i]? =some v→gs[i]? =some g→vE[i]? =some ve→gE[i]? =some ge→
   (z.l=false∧v=slB z∧z.nb=g.length∧RSl NI 1 z.ab z.nb z.cb (u8s g)∧ve=.slice none 0 0∧ge= [])∨(z.l=true∧ve=v∧ge=g)
theorem snoc_lt {α:Type} {l:List α} {x y:α} {i n:Nat} (hl:l.length=n) (hi:i<n) (h:(l++ [x])[i]? =some y):l[i]? =some y:=by
 rwa [List.getElem?_append_left (by omega)]at h
theorem snoc_eq {α:Type} {l:List α} {x y:α} {i n:Nat} (hl:l.length=n) (hi: ¬i<n) (h:(l++ [x])[i]? =some y):x=y:=by
 rw [List.getElem?_append_right (by omega)]at h
 have:i- l.length=0:=by
  obtain⟨h3,_⟩:=List.getElem?_eq_some_iff.1 h
  simp at h3;omega
 rw [this]at h;simpa using h
theorem RawAt.sl {NI NE:Heaplet} {z:IV} {v:Value} {g:List UInt8} (h:RawAt NI NE z v g): ∃p c,v=.slice p g.length c:=by
 rcases h with ⟨_,h2,h3,_⟩|⟨_,p,c,h,_⟩
 ·exact⟨z.ab,z.cb,by rw [h2,slB,h3]⟩
 ·exact⟨p,c,h⟩
theorem TxsI.nil (NI:Heaplet):TxsI NI nilH [] [] []:=⟨rfl,rfl,[],[],Bag.nil _ _,rfl,rfl,fun i z v g ve ge h=>by simp at h⟩
section
variable {NI Nk NE : Heaplet} {ys : List IV} {vs : List Value} {gs : List (List UInt8)} {z : IV} {v : Value} {g : List UInt8}
theorem TxsI.snoc (h:TxsI NI Nk ys vs gs) (hr:RawAt NI NE z v g) (ha:Apart NE Nk):TxsI NI (join2 NE Nk) (ys++ [z]) (vs++ [v]) (gs++ [g]):=by
 obtain⟨ly,lv,vE,gE,hb,l1,l2,hi⟩:=h
 refine⟨by simp [ly],by simp [lv],?_⟩
 have old: ∀ {i:Nat} {z' z:IV} {v' v:Value} {g' g:List UInt8} {ve' ve:Value} {ge' ge:List UInt8},i<gs.length→(ys++ [z'])[i]? =some z→(vs++ [v'])[i]? =some v→(gs++ [g'])[i]? =some g→(vE++ [ve'])[i]? =some ve→(gE++ [ge'])[i]? =some ge→_:=fun {i _ z _ v _ g _ ve _ ge} q k1 k2 k3 k4 k5=>hi i z v g ve ge (snoc_lt ly q k1) (snoc_lt lv q k2) (snoc_lt rfl q k3) (snoc_lt l1 q k4) (snoc_lt l2 q k5)
 rcases hr with ⟨r1,r2,r3,r4,r5⟩|⟨r1,p,c,r2,r3⟩
 ·refine⟨vE++ [.slice none 0 0],gE++ [[]],hb.snoc (x:= []) (p:=none) (c:=0) (Row.nil NE _ _) ha,by simp [l1],by simp [l2],fun i z v g ve ge k1 k2 k3 k4 k5=>?_⟩
  by_cases q:i<gs.length
  ·exact old q k1 k2 k3 k4 k5
  ·rw [←snoc_eq ly q k1, ←snoc_eq lv q k2, ←snoc_eq rfl q k3, ←snoc_eq l1 q k4, ←snoc_eq l2 q k5]
   exact .inl ⟨r1,r2,r3,r4,rfl,rfl⟩
 ·subst r2
  refine⟨vE++ [.slice p g.length c],gE++ [g],hb.snoc r3 ha,by simp [l1],by simp [l2],fun i z v g ve ge k1 k2 k3 k4 k5=>?_⟩
  by_cases q:i<gs.length
  ·exact old q k1 k2 k3 k4 k5
  ·rw [←snoc_eq ly q k1, ←snoc_eq lv q k2, ←snoc_eq rfl q k3, ←snoc_eq l1 q k4, ←snoc_eq l2 q k5]
   exact .inr ⟨r1,rfl,rfl⟩
theorem TxsI.at (h:TxsI NI Nk ys vs gs) {i:Nat} {g:List UInt8} (hg:gs[i]? =some g): ∃p c,vs[i]? =some (.slice p g.length c)∧(RSl NI 1 p g.length c (u8s g)∨RSl Nk 1 p g.length c (u8s g)):=by
 obtain⟨ly,lv,vE,gE,hb,l1,l2,hi⟩:=h
 obtain⟨hl,_⟩:=List.getElem?_eq_some_iff.1 hg
 have e1:ys[i]? =some ys[i]:=List.getElem?_eq_getElem (by omega)
 have e2:vs[i]? =some vs[i]:=List.getElem?_eq_getElem (by omega)
 have e3:vE[i]? =some vE[i]:=List.getElem?_eq_getElem (by omega)
 have e4:gE[i]? =some gE[i]:=List.getElem?_eq_getElem (by omega)
 rcases hi i _ _ _ _ _ e1 e2 hg e3 e4 with ⟨_,h2,h3,h4,_⟩|⟨_,h2,h3⟩
 ·refine⟨_,_,e2.trans (congrArg some (h2.trans ?_)),.inl (h3▸h4)⟩
  rw [slB,h3]
 ·obtain⟨p,c,k1,k2⟩:=hb.row i _ (e4.trans (congrArg some h3))
  rw [e3,h2]at k1
  exact⟨p,c,e2.trans k1,.inr k2.rsl⟩
end
section
variable {Np NI Nb Na Nk : Heaplet} {bp bb m c : Nat} {a : Option Addr} {t : It} {ts : List It} {z : IV} {zs ys : List IV} {vs : List Value} {gs : List (List UInt8)} {H : List Value} {o w : Value} {p : Bool}
end
def omC (xs:List (HdM×Value)):List Value:=xs.flatMap fun x=>x.1.cells x.2
def OmI (NI:Heaplet) (x:HdM×Value):Prop:=x.1.Ok∧okF x.1.fi∧ ∃zs,HdS zs NI x.1 x.2
theorem HdS.one {zs:List IV} {NI:Heaplet} {h:HdM} {v:Value} (k:HdS zs NI h v):v.oneCell'=true:=by
 obtain⟨_,_,rfl,_⟩:=k;rfl
def WdM.cells (x:WdM):List Value:=wdC x.ix x.va x.ad x.am
def wdsC (xs:List WdM):List Value:=xs.flatMap WdM.cells
def wdP (i v:UInt64) (a:List UInt8) (m:UInt64):List (List Value):= [[.int .u64 (i.toNat:Int)],[.int .u64 (v.toNat:Int)],u8s a,[.int .u64 (m.toNat:Int)]]
section
variable {Np NI Nb Na : Heaplet} {bp bb m c : Nat} {a : Option Addr} {t : It} {ts : List It} {z : IV} {zs : List IV} {xs : List (HdM × Value)} {ws : List WdM} {H : List Value} {o w u : Value} {p : Bool}
end
def BlkKept (bb:Nat) (NO:Heaplet):Prop:= ∃cs,Blk NO bb 54 cs∧cs.length=560
def TxsV (NI:Heaplet) (bb:Nat) (H:List Value) (o:Value) (p:Bool) (w:Value) (ys:List IV) (l:List (List UInt8)) (NO:Heaplet):Prop:= ∃Nb Na Nk a c vs,[Nb,Na,Nk].Pairwise Apart∧NO=joinL [Nb,Na,Nk]∧Blk Nb bb 54 (blkP H (.slice a l.length c) o p w).flatten∧Row Na 22 1 a l.length c vs∧(∀u∈vs,u.oneCell'=true)∧TxsI NI Nk ys vs l
def OmsV (NI:Heaplet) (bb:Nat) (H:List Value) (u:Value) (p:Bool) (w:Value) (l:List HdM) (NO:Heaplet):Prop:= ∃Nb Na a c xs,[Nb,Na].Pairwise Apart∧NO=joinL [Nb,Na]∧Blk Nb bb 54 (blkP H u (.slice a l.length c) p w).flatten∧Row Na 44 556 a l.length c (omC xs)∧(∀x∈xs,OmI NI x)∧xs.map Prod.fst=l
def WdsV (bb:Nat) (H:List Value) (u o:Value) (p:Bool) (l:List WdM) (NO:Heaplet):Prop:= ∃Nb Na a c,[Nb,Na].Pairwise Apart∧NO=joinL [Nb,Na]∧Blk Nb bb 54 (blkP H u o p (.slice a l.length c)).flatten∧Row Na 125 23 a l.length c (wdsC l)∧ ∀x∈l,x.ad.length=20
section
variable {Np NI NO : Heaplet} {bp bb : Nat} {t : It} {ts : List It} {z : IV} {zs ys : List IV} {gs : List (List UInt8)} {hs : List HdM} {ws : List WdM} {H : List Value} {o w u : Value} {p : Bool}
theorem TxsV.kept (hH:H.length=556): ∀(ys:List IV) (l:List (List UInt8)) (NO:Heaplet),TxsV NI bb H o p w ys l NO→BlkKept bb NO:=fun _ _ _ h=>by
 obtain⟨Nb,Na,Nk,a,c,vs,_,rfl,B,_⟩:=h
 exact⟨_,B.le join2_left,blk_len hH⟩
theorem OmsV.kept (hH:H.length=556): ∀(ys:List IV) (l:List HdM) (NO:Heaplet),OmsV NI bb H u p w l NO→BlkKept bb NO:=fun _ _ _ h=>by
 obtain⟨Nb,Na,a,c,xs,_,rfl,B,_⟩:=h
 exact⟨_,B.le join2_left,blk_len hH⟩
theorem WdsV.kept (hH:H.length=556): ∀(ys:List IV) (l:List WdM) (NO:Heaplet),WdsV bb H u o p l NO→BlkKept bb NO:=fun _ _ _ h=>by
 obtain⟨Nb,Na,a,c,_,rfl,B,_⟩:=h
 exact⟨_,B.le join2_left,blk_len hH⟩
end
section
variable {bt be : Nat} {Nt Ne : Heaplet} {cs : List Value} {x : Value} {e : Int}
end
def readBlkE (b:List UInt8):Except Nat BlkM:=eb (decodeF b) blockE
def BlkS (NI NT NK NO NW:Heaplet) (m:BlkM) (cs:List Value):Prop:= ∃v1 ta tc vs ys oa oc xs wa wc t zs zt,
 cs=(blkP (m.hd.cells v1) (.slice ta m.txs.length tc) (.slice oa m.oms.length oc) m.paid (.slice wa m.wds.length wc)).flatten∧
 m.hd.Ok∧okF m.hd.fi∧(∃zs,HdS zs NI m.hd v1)∧
 Row NT 22 1 ta m.txs.length tc vs∧(∀u∈vs,u.oneCell'=true)∧TxsI NI NK ys vs m.txs∧
 Row NO 44 556 oa m.oms.length oc (omC xs)∧(∀x∈xs,OmI NI x)∧xs.map Prod.fst=m.oms∧
 Row NW 125 23 wa m.wds.length wc (wdsC m.wds)∧(∀x∈m.wds,x.ad.length=20)∧(m.paid=false→m.wds= [])∧
 ItemO NI t zs∧(∃i:Nat,zs[i]? =some zt)∧RSl NI 3 zt.ai zt.ni zt.ci (cellsI ys)
def ReadBlkP (b:List UInt8) (v:Value) (L:List Heaplet):Prop:=
 (∃e:Nat,e≠0∧v=.tuple #[.agg z54.toArray,.int .i64 (e:Int)]∧L= []∧readBlkE b=.error e)∨
 (∃NI NT NK NO NW m cs,v=.tuple #[.agg cs.toArray,.int .i64 0]∧L= [NI,NT,NK,NO,NW]∧readBlkE b=.ok m∧BlkS NI NT NK NO NW m cs)
section
variable {N : Heaplet} {ao : Option Addr} {n cap : Nat} {b : List UInt8}
end
def accIt (g:AccM):It:=itL [itS g.addr,itL (g.keys.map itS)]
section
variable {N : Heaplet} {ao : Option Addr} {n cap : Nat} {gs : List AccM} {xs : List AV}
theorem AccsN.cells (h:AccsN N gs xs): ∀x∈xs,x.cells.length=21:=fun x hx=>by
 obtain⟨i,hi,rfl⟩:=List.mem_iff_getElem.1 hx
 obtain⟨g,y,h1,h2,h3⟩:=h.at (i:=i) (by rw [←h.1];exact hi)
 rw [List.getElem?_eq_getElem hi]at h2
 cases h2
 exact AV.cells_len (by rw [h3.1];exact h3.2.1)
end
section
variable {P : Program} {n : Nat} {l : List (Nat × Value)} {E : World} {L Ls : List Heaplet} {X Y : Act → World → Prop} {d : Nat} {t t' ty e : TypeId} {x y : Operand}
theorem op_neW8 {a b:List UInt8} {k:Nat} {pos:_} {aft:_} {g:_} (s:NxF P n l E L Ls ⟨some d,.binOp .neq t x y t',ty,pos,aft,g⟩ X Y) (ht:aelt P t=some (k,e,1)) (he:P.underlying e=some (.int .u8)) (hg:P.eqGuardType P.depth t=false) (hx:ev l x=some (.agg (u8s a).toArray)) (hy:ev l y=some (.agg (u8s b).toArray)) (ha:a.length=k) (hb:b.length=k) (hn:Nat.ble (d+1) n=true) (h:At n ((d,.bool (decide (a≠b)))::l) E L Y):At n l E L X:=by
 obtain⟨hu,i,hi,hsz⟩:=aelt_spec ht
 exact op_bin s hx hy (fun w=>eqGuard_agg hg w) (fun w=>by
  rw [run_neq_struct,run_equalIn_bytes8 w 9998 t e k hu he (fun w=>by rw [run_sizeOf hi,hsz]) a b ha hb]
  simp only [Result.andThen_ok,show(!(a==b))=decide (a≠b)from by rw [Bool.eq_iff_iff];simp]) hn h
end
section
variable {m : TxM} {d a b : Value}
theorem TxM.lens (h:m.Ok):(txP m.ki m.ch m.nn m.pr m.tp m.ga m.ma m.to m.va d a m.bf b m.od m.r m.s).map List.length=txLens:=txP_lens h.to
end
def oddN (o:Bool):Nat:=if o then 1 else 0
def vM (m:TxM):Nat:=if 0<m.ki then oddN m.od else if m.ch=0 then 27+oddN m.od else 35+oddN m.od+2*m.ch
section
variable {m : TxM} {d a b : Value}
def fitsM (m:TxM):Prop:=0≤m.ki∧m.ki≤3∧(m.ma=true→m.ki≠3∧m.to=zero20)∧(m.ki<2→m.tp=0)∧(m.ki<3→m.bf=0∧m.bb.length=0)∧(m.ki=0→m.ac.length=0)
instance (m:TxM):Decidable (fitsM m):=by unfold fitsM;infer_instance
section
variable {m : TxM}
theorem n1 (h:m.ki<0∨3<m.ki): ¬fitsM m:=fun q=>by have:=q.1;have:=q.2.1;omega
theorem n2 (h:m.ma=true) (k:m.ki=3): ¬fitsM m:=fun q=>(q.2.2.1 h).1 k
theorem n3 (h:m.ma=true) (k:m.to≠zero20): ¬fitsM m:=fun q=>k (q.2.2.1 h).2
theorem n4 (h:m.ki<2) (k:wl m.tp≠wl 0): ¬fitsM m:=fun q=>k (congrArg wl (q.2.2.2.1 h))
theorem n5 (h:m.ki<3) (k:wl m.bf≠wl 0): ¬fitsM m:=fun q=>k (congrArg wl (q.2.2.2.2.1 h).1)
theorem n6 (h:m.ki<3) (k:0<m.bb.length): ¬fitsM m:=fun q=>by have:=(q.2.2.2.2.1 h).2;omega
theorem n7 (h:m.ki=0) (k:0<m.ac.length): ¬fitsM m:=fun q=>by have:=q.2.2.2.2.2 h;omega
end
section
variable {N : Heaplet} {da aa ba : Option Addr} {dc ac bc : Nat}
end
end
def numI (x:Nat):It:=itS (bytesOf x)
def toM (m:TxM):List UInt8:=if m.ma then []else m.to
def uA (m:TxM):List It:=if 0<m.ki then [numI m.ch]else []
def uB (m:TxM):List It:=uA m++ [numI m.nn]
def uC (m:TxM):List It:=uB m++if 1<m.ki then [numI m.tp]else []
def uD (m:TxM):List It:=uC m++ [numI m.pr,numI m.ga,itS (toM m),numI m.va,itS m.da]
def uE (m:TxM):List It:=uD m++if 0<m.ki then [itL (m.ac.map accIt)]else []
def uIts (m:TxM):List It:=uE m++if m.ki=3 then [numI m.bf,itL (m.bb.map itS)]else []
def TxR (N:Heaplet) (m:TxM) (d a b:Value):Prop:= ∃da dc aa cc ba bc axs,
 d=.slice da m.da.length dc∧RSl N 1 da m.da.length dc (u8s m.da)∧
 a=.slice aa m.ac.length cc∧RSl N 21 aa m.ac.length cc (accC axs)∧AccsN N m.ac axs∧
 b=.slice ba m.bb.length bc∧RSl N 32 ba m.bb.length bc (hashC m.bb)
structure TxM.Sz (m:TxM):Prop where
 da:m.da.length≤1073741824
 ac:m.ac.length≤1048576
 ks: ∀g∈m.ac,g.keys.length≤1048576
 bb:m.bb.length≤1048576
def ItsR (NB:Heaplet→Prop) (its:List It) (v:Value) (L:List Heaplet):Prop:= ∃Nl NJ a c xs,v=.slice a its.length c∧L= [Nl,NJ]∧Row Nl 91 3 a its.length c (cellsI xs)∧ ∀K:Heaplet,NJ.le K→NB K→ItsN K its xs
theorem ItsN.app {K:Heaplet} : ∀ {ts us:List It} {xs ys:List IV},ItsN K ts xs→ItsN K us ys→ItsN K (ts++us) (xs++ys)
 | [],us,xs,ys,h,k=>by
  have h:xs= []:=h
  subst h;exact k
 |t::ts,us,xs,ys,h,k=>by
  obtain⟨x,r,rfl,h1,h2⟩:=h
  exact cO h1 (ItsN.app h2 k)
theorem ItsN.one {K:Heaplet} {its:List It} {xs:List IV} {t:It} {x:IV} (h:ItsN K its xs) (k:ItN K t x):ItsN K (its++ [t]) (xs++ [x]):=h.snoc k
section
variable {N : Heaplet} {m : TxM} {d a b : Value}
end
def OwnP (bs:List UInt8) (v:Value) (L:List Heaplet):Prop:= ∃M p c,v=.slice p bs.length c∧L= [M]∧Row M 5 1 p bs.length c (u8s bs)
def wIts (m:TxM):List It:=uIts m++ [numI (vM m),numI m.r,numI m.s]
def txB (m:TxM):List UInt8:=kindB m.ki++(itL (wIts m)).form
section
variable {N : Heaplet} {m : TxM} {d a b : Value} {its : List It} {ao : Option Addr} {n cap : Nat}
end
section
variable {N : Heaplet} {m : TxM} {d a b : Value}
end
def first8 (g:List UInt8):Nat:=(g.getD 0 0).toNat
def insE (g:List UInt8):Option It:=
 if g.length=0∨first8 g=0∨(3<first8 g∧first8 g<192)then none
 else if first8 g≤3 then some (itS g)
 else match decodeF g with
  |.ok t=>some t
  |.error _=>none
def InsP (N:Heaplet) (g:List UInt8) (v:Value) (L:List Heaplet):Prop:=
 (∃t J x,insE g=some t∧v=.tuple #[IV.val x,.bool true]∧L= [J]∧ ∀K:Heaplet,J.le K→N.le K→ItN K t x)∨
 (insE g=none∧v=.tuple #[.agg #[.bool false,.slice none 0 0,.slice none 0 0],.bool false]∧L= [])
section
variable {N : Heaplet} {g : List UInt8} {ao : Option Addr} {n cap : Nat}
end
end Go.Proofs.YtjfagifjajielaaGreat
