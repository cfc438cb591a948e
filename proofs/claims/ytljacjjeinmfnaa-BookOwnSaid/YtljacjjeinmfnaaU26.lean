/- Several texts in one: see the remarks ahead of each part. No condition but those told there. -/
import Derived.Test.YtljacjjeinmfnaaU23
import Derived.Test.YtljacjjeinmfnaaU25
import Derived.Test.YtljacjjeinmfnaaU11
set_option linter.unusedSimpArgs false
set_option linter.unusedVariables false
/- Layer 14: what ReadTx, ReadHeader, ReadBlock tell is the caller's own. No condition but that bytes are not longer than a machine holds. -/
namespace Go.Proofs.Ytljacjjeinmfnaa
open Go Go.RowKit
theorem RSl.inj {N:Heaplet} {size:Nat} {ao:Option Addr} {n c1 c2:Nat} {xs ys:List Value} (h:RSl N size ao n c1 xs) (k:RSl N size ao n c2 ys):xs=ys:=by
 have hl:xs.length=ys.length:=h.1.trans k.1.symm
 refine List.ext_getElem hl fun j h1 h2=>?_
 obtain⟨b,o,e,c⟩:=h.get (List.getElem?_eq_getElem h1)
 obtain⟨b',o',e',c'⟩:=k.get (List.getElem?_eq_getElem h2)
 rw [e]at e'
 simp only [Option.some.injEq,Addr.mk.injEq,and_true]at e'
 obtain⟨rfl,rfl⟩:=e'
 exact Option.some.inj (c.symm.trans c')
theorem cellsI_inj: ∀ {xs ys:List IV},cellsI xs=cellsI ys→xs=ys
 | [],[],_=>rfl
 | [],y::ys,h=>by have:=congrArg List.length h;simp [length_cellsI]at this
 |x::xs,[],h=>by have:=congrArg List.length h;simp [length_cellsI]at this
 |x::xs,y::ys,h=>by
  have h':x.cells++cellsI xs=y.cells++cellsI ys:=h
  obtain⟨h1,h2⟩:=List.append_inj h' rfl
  rw [cellsI_inj h2]
  obtain⟨a1,a2,a3,a4,a5,a6,a7⟩:=x
  obtain⟨b1,b2,b3,b4,b5,b6,b7⟩:=y
  simp only [IV.cells,List.cons.injEq,Value.bool.injEq,Value.slice.injEq,and_true]at h1
  obtain⟨rfl,⟨rfl,rfl,rfl⟩,rfl,rfl,rfl⟩:=h1
  rfl
theorem DepBs.get {M:Heaplet} : ∀ {ts:List It} {xs:List IV} {i:Nat} {x:IV},DepBs M ts xs→xs[i]? =some x→ ∃t,ts[i]? =some t∧DepB M t x
 | [],xs,i,x,h,hx=>by
  simp only [DepBs]at h
  subst h;simp at hx
 |t::ts,xs,i,x,h,hx=>by
  simp only [DepBs]at h
  obtain⟨y,r,rfl,h1,h2⟩:=h
  cases i with
  |zero=>simp only [List.getElem?_cons_zero,Option.some.injEq]at hx⊢;exact⟨t,rfl,hx▸h1⟩
  |succ i=>simp only [List.getElem?_cons_succ]at hx⊢;exact DepBs.get h2 hx
theorem DepB.bag {M:Heaplet} {t:It} {x:IV} {zs:List IV} {c:Nat} (h:DepB M t x) (k:RSl M 3 x.ai x.ni c (cellsI zs)): ∃its:List It,Bag 5 M (zs.map slB) (its.map It.bytes)∧DepBs M its zs:=by
 cases t with
 |mk l bs its=>
  simp only [DepB]at h
  obtain⟨xs,h1,h2,h3⟩:=h
  obtain rfl:=cellsI_inj (h1.inj k)
  exact⟨its,h2,h3⟩
theorem ItemO.bag {NI:Heaplet} {t:It} {zs:List IV} (h:ItemO NI t zs): ∃its:List It,Bag 5 NI (zs.map slB) (its.map It.bytes)∧DepBs NI its zs:=by
 obtain⟨x,_,h2,h3⟩:=h
 exact h2.1.bag h3
theorem bag_row {e:TypeId} {N:Heaplet} {zs:List IV} {xs:List (List UInt8)} {i:Nat} {z:IV} (h:Bag e N (zs.map slB) xs) (hz:zs[i]? =some z): ∃l,Row N e 1 z.ab z.nb z.cb (u8s l):=by
 have hv:(zs.map slB)[i]? =some (slB z):=by rw [List.getElem?_map,hz];rfl
 obtain⟨x,hx⟩: ∃x,xs[i]? =some x:=⟨_,List.getElem?_eq_getElem (by rw [←h.len];exact(List.getElem?_eq_some_iff.1 hv).1)⟩
 obtain⟨p,c,h1,h2⟩:=h.row i x hx
 rw [hv]at h1
 simp only [slB,Option.some.injEq,Value.slice.injEq]at h1
 obtain⟨e1,e2,e3⟩:=h1
 exact⟨x,by rw [e1,e2,e3];exact h2⟩
theorem bag_own {e:TypeId} {N:Heaplet} {zs:List IV} {xs:List (List UInt8)} {p:Option Addr} {n c:Nat} (h:Bag e N (zs.map slB) xs) (hz: ∃(i:Nat) (z:IV),zs[i]? =some z∧(.slice p n c:Value)=slB z): ∃l,Row N e 1 p n c (u8s l):=by
 obtain⟨i,z,h1,h2⟩:=hz
 simp only [slB,Value.slice.injEq]at h2
 obtain⟨rfl,rfl,rfl⟩:=h2
 exact bag_row h h1
/-- All transactions of a block that was read lie in blocks of their own. -/
theorem TxsI.own {NI Nk:Heaplet} {ys:List IV} {vs:List Value} {gs bs:List (List UInt8)} (h:TxsI NI Nk ys vs gs) (hb:Bag 5 NI (ys.map slB) bs) (ha:Apart NI Nk):Bag 5 (joinL [NI,Nk]) vs gs:=by
 have e:joinL [NI,Nk]=join2 NI Nk:=by simp only [joinL,join_nil]
 rw [e]
 obtain⟨ly,lv,vE,gE,hE,l1,l2,hi⟩:=h
 have cl: ∀(i:Nat) (g:List UInt8),gs[i]? =some g→ ∃p c,vs[i]? =some (.slice p g.length c)∧(((ys.map slB)[i]? =vs[i]? ∧Row NI 5 1 p g.length c (u8s g))∨(vE[i]? =vs[i]? ∧Row Nk 5 1 p g.length c (u8s g))):=fun i g hg=>by
  obtain⟨hl,_⟩:=List.getElem?_eq_some_iff.1 hg
  have e1:ys[i]? =some ys[i]:=List.getElem?_eq_getElem (by omega)
  have e2:vs[i]? =some vs[i]:=List.getElem?_eq_getElem (by omega)
  have e3:vE[i]? =some vE[i]:=List.getElem?_eq_getElem (by omega)
  have e4:gE[i]? =some gE[i]:=List.getElem?_eq_getElem (by omega)
  rcases hi i _ _ _ _ _ e1 e2 hg e3 e4 with ⟨_,h2,h3,h4,_⟩|⟨_,h2,h3⟩
  ·obtain⟨l,hr⟩:=bag_row hb e1
   have hlg:=hr.rsl.inj (ys:=u8s g) (c2:=ys[i].cb) h4
   refine⟨_,_,e2.trans (congrArg some (h2.trans (by rw [slB,h3]))),.inl ⟨by rw [List.getElem?_map,e1,e2,h2];rfl,?_⟩⟩
   rw [hlg,h3]at hr
   exact hr
  ·obtain⟨p,c,k1,k2⟩:=hE.row i _ (e4.trans (congrArg some h3))
   rw [e3,h2]at k1
   exact⟨p,c,e2.trans k1,.inr ⟨by rw [e3,h2,e2],k2⟩⟩
 refine⟨lv,fun i g hg=>?_,fun i j p q n m c d hij hp hq=>?_⟩
 ·obtain⟨p,c,h1,h2⟩:=cl i g hg
  refine⟨p,c,h1,?_⟩
  rcases h2 with ⟨_,h2⟩|⟨_,h2⟩
  ·exact h2.le join2_left
  ·exact h2.le (join2_right ha)
 ·have gt: ∀(i:Nat) (v:Value),vs[i]? =some v→ ∃g,gs[i]? =some g:=fun i v hv=>⟨_,List.getElem?_eq_getElem (by rw [←lv];exact(List.getElem?_eq_some_iff.1 hv).1)⟩
  obtain⟨g1,hg1⟩:=gt i _ hp
  obtain⟨g2,hg2⟩:=gt j _ hq
  obtain⟨p1,c1,k1,k2⟩:=cl i g1 hg1
  obtain⟨p2,c2,k3,k4⟩:=cl j g2 hg2
  rw [hp]at k1 k2
  rw [hq]at k3 k4
  simp only [Option.some.injEq,Value.slice.injEq]at k1 k3
  obtain⟨rfl,rfl,rfl⟩:=k1
  obtain⟨rfl,rfl,rfl⟩:=k3
  rcases k2 with ⟨a1,a2⟩|⟨a1,a2⟩
  ·rcases k4 with ⟨a3,a4⟩|⟨a3,a4⟩
   ·exact hb.apart i j _ _ _ _ _ _ hij a1 a3
   ·rcases a2.block with ⟨r,_⟩|⟨b1,o1,r1,r2⟩
    ·exact .inl r
    ·rcases a4.block with ⟨s,_⟩|⟨b2,o2,s1,s2⟩
     ·right;rw [r1,s];intro k;cases k
     ·right;rw [r1,s1];intro k
      cases k
      rcases ha b1 with k|k
      ·rw [k]at r2;cases r2
      ·rw [k]at s2;cases s2
  ·rcases k4 with ⟨a3,a4⟩|⟨a3,a4⟩
   ·rcases a2.block with ⟨r,_⟩|⟨b1,o1,r1,r2⟩
    ·exact .inl r
    ·rcases a4.block with ⟨s,_⟩|⟨b2,o2,s1,s2⟩
     ·right;rw [r1,s];intro k;cases k
     ·right;rw [r1,s1];intro k
      cases k
      rcases ha b1 with k|k
      ·rw [k]at s2;cases s2
      ·rw [k]at r2;cases r2
   ·exact hE.apart i j _ _ _ _ _ _ hij a1 a3
theorem da_len (m:TxM):m.da.length≤(itL (wIts m)).form.length:=by
 have hda:itS m.da∈uIts m:=by
  unfold uIts uE uD
  exact List.mem_append_left _ (List.mem_append_left _ (List.mem_append_right _ (by simp)))
 exact Nat.le_trans (form_S m.da) (mem_L (List.mem_append_left _ hda))
/-- What ReadTx and ReadHeader tell: cells, of which one is a slice of the caller's own. -/
def TellP (K o:Nat) (v:Value) (L:List Heaplet):Prop:= ∃M p m c l, ∃cs:List Value, ∃e:Int,v=.tuple #[.agg cs.toArray,.int .i64 e]∧L= [M]∧cs.length=K∧cs.all (·.oneCell')=true∧cs[0+o]? =some (.slice p m c)∧Row M 5 1 p m c (u8s l)∧m≤1099511627776
section
variable {N : Heaplet} {ao : Option Addr} {n cap : Nat} {b : List UInt8}
theorem ReadTx_o (h:RSl N 1 ao n cap (u8s b)) (hn:n≤1099511627776):Fn Try.prog 27 #[.slice ao n cap] [] [N] (TellP 53 37):=by
 intro E w R hw hr
 refine(FReadTx h hn E w R hw hr).mono ?_
 rintro e w' ⟨v,L,rfl,hP,hh⟩
 rcases hP with ⟨e,_,rfl,rfl,_⟩|⟨NI,J,m,d,x,y,t,zs,rfl,rfl,hm,hok,hS,hI⟩
 ·exact⟨_,[nilH],rfl,⟨nilH,none,0,0,[],_,_,rfl,rfl,z58_len,z_tx1,by rw [z_tx];exact part_val (txP_lens (by decide)) (j:=9) rfl rfl,Row.nil _ _ _,Nat.zero_le _⟩,hh.nilP⟩
 ·have hl:=h.len8
  have hb:=(tx_back (by omega) hm).2.2.2
  obtain⟨w1,w2,w3⟩:=hS.one3
  obtain⟨da,dc,aa,cc,ba,bc,axs,rfl,S1,S2,_⟩:=hS
  obtain⟨its,hB,_⟩:=hI.bag
  obtain⟨l,hr⟩:=bag_own hB S2
  refine⟨_,[NI],rfl,⟨NI,da,m.da.length,dc,l,_,_,rfl,rfl,TxM.cells_len hok _ _ _,TxM.one w1 w2 w3,gx_d hok,hr,?_⟩,hh.drop (.cons_cons _ (.cons _ (.refl _)))⟩
  have h1:=da_len m
  omega
theorem ReadHeader_o (h:RSl N 1 ao n cap (u8s b)) (hn:n≤1099511627776):Fn Try.prog 28 #[.slice ao n cap] [] [N] (TellP 556 445):=by
 intro E w R hw hr
 refine(FReadHeader h hn E w R hw hr).mono ?_
 rintro e w' ⟨v,L,rfl,hP,hh⟩
 rcases hP with ⟨e,_,rfl,rfl,_⟩|⟨NI,m,v1,t,zs,rfl,rfl,hm,hok,hfi,hS,hI⟩
 ·exact⟨_,[nilH],rfl,⟨nilH,none,0,0,[],_,_,rfl,rfl,z76_len,z_hd1,by kernel_rfl,Row.nil _ _ _,Nat.zero_le _⟩,hh.nilP⟩
 ·have hl:=h.len8
  have hb:=hd_ex_len hfi
  rw [hd_back (by omega) hm]at hb
  obtain⟨ea,ec,rfl,S1,S2⟩:=hS
  obtain⟨its,hB,_⟩:=hI.bag
  obtain⟨l,hr⟩:=bag_own hB S2
  exact⟨_,[NI],rfl,⟨NI,ea,m.ex.length,ec,l,_,_,rfl,rfl,HdM.len hok _,HdM.one rfl,part_val (HdM.lens hok _) (j:=13) rfl rfl,hr,by omega⟩,hh⟩
/-- What ReadBlock tells: cells, of which one is the list of the transactions' bytes, the caller's own. -/
def TellT (K o:Nat) (v:Value) (L:List Heaplet):Prop:= ∃NT NS p c vs gs, ∃cs:List Value, ∃e:Int,v=.tuple #[.agg cs.toArray,.int .i64 e]∧L= [NT,NS]∧cs.length=K∧cs.all (·.oneCell')=true∧cs[0+o]? =some (.slice p gs.length c)∧Row NT 27 1 p gs.length c vs∧(∀u∈vs,u.oneCell'=true)∧Bag 5 NS vs gs∧ ∀g∈gs,g.length≤1099511627776
theorem ReadBlock_o (h:RSl N 1 ao n cap (u8s b)) (hn:n≤8000):Fn Try.prog 29 #[.slice ao n cap] [] [N] (TellT 560 556):=by
 intro E w R hw hr
 refine(FReadBlock h (by omega) E w R hw hr).mono ?_
 rintro e w' ⟨v,L,rfl,hP,hh⟩
 rcases hP with ⟨e,_,rfl,rfl,_⟩|⟨NI,NT,NK,NO,NW,m,cs,rfl,rfl,hm,hS⟩
 ·exact⟨_,[nilH,nilH],rfl,⟨nilH,nilH,none,0,[],[],_,_,rfl,rfl,z82_len,z_bk1,by rw [z_blk];exact gk_t hd0_len,Row.nil _ _ _,fun u hu=>absurd hu List.not_mem_nil,Bag.nil _ _,fun u hu=>absurd hu List.not_mem_nil⟩,hh.nilP.nilP⟩
 ·have hl:=h.len8
  have hz:=readSz hm (by omega)
  obtain⟨hcl,hc1⟩:=hS.len
  obtain⟨v1,ta,tc,vs,ys,oa,oc,xs,wa,wc,t,zs,zt,rfl,k1,k2,k3,k4,k5,k6,k7,k8,k9,k10,k11,k12,k13,⟨i,k14⟩,k15⟩:=hS
  obtain⟨its,_,hB⟩:=k13.bag
  obtain⟨t2,_,hB2⟩:=hB.get k14
  obtain⟨its2,hB3,_⟩:=hB2.bag k15
  have hap:Apart NI NK:=by
   have:=hh.sep
   simp only [List.cons_append,List.nil_append,List.pairwise_cons,List.mem_cons,List.not_mem_nil,or_false]at this
   exact this.1 NK (.inr (.inl rfl))
  refine⟨_,[NT,joinL [NI,NK]],rfl,⟨NT,joinL [NI,NK],ta,tc,vs,m.txs,_,_,rfl,rfl,hcl,hc1,gk_t (HdM.len k1 _),k4,k5,k6.own hB3 hap,hz.tl⟩,?_⟩
  have h1:Hp E ([NI,NK]++ [NT,R]) w':=(hh.drop (L':= [NI,NT,NK,R]) (.cons_cons _ (.cons_cons _ (.cons_cons _ (.cons _ (.cons _ (.refl _))))))).perm (.cons _ (.swap _ _ _))
  exact h1.packL.perm (.swap _ _ _)
end
end Go.Proofs.Ytljacjjeinmfnaa
/- Layer 14: 'quarrylaw14.BookOwn' answers true. No condition. -/
namespace Go.Proofs.Ytljacjjeinmfnaa
open Go Go.RowKit
set_option maxRecDepth 100000
section
variable {N : Heaplet} {m : TxM} {d a b : Value}
theorem TxR.data {M K:Heaplet} {p:Option Addr} {c:Nat} (h:TxR N m d a b) (s:RSl M 1 p m.da.length c (u8s m.da)) (h1:N.le K) (h2:M.le K):TxR K m (.slice p m.da.length c) a b:=by
 obtain⟨da,dc,aa,cc,ba,bc,axs,rfl,h3,rfl,h4,h5,rfl,h6⟩:=h
 exact⟨p,c,aa,cc,ba,bc,axs,rfl,s.le h2,rfl,h4.le h1,h5.le h1,rfl,h6.le h1⟩
theorem TxR.dat {N:Heaplet} (h:TxR N m d a b): ∃p c,d=.slice p m.da.length c∧RSl N 1 p m.da.length c (u8s m.da):=by
 obtain⟨da,dc,aa,cc,ba,bc,axs,rfl,h3,_⟩:=h
 exact⟨da,dc,rfl,h3⟩
/-- What WriteTx gives is the caller's own. -/
def WOwn (v:Value) (L:List Heaplet):Prop:= ∃M p n c l, ∃e:Int,v=.tuple #[.slice p n c,.int .i64 e]∧L= [M]∧Row M 5 1 p n c (u8s l)∧n≤1099511627776
theorem FWriteTx_o (h:m.Ok) (hz:fitsM m→m.Sz) (hT:TxR N m d a b) (hl:(itL (wIts m)).form.length≤300000):Fn Try.prog 24 #[.agg (m.cells d a b).toArray] [] [N] WOwn:=by
 intro E w R hw hr
 refine(FWriteTx h hz hT (Nat.le_trans hl (by decide)) E w R hw hr).mono ?_
 rintro e w' ⟨v,L,rfl,hP,hh⟩
 rcases hP with ⟨M,p,c,_,rfl,rfl,r⟩|⟨_,rfl,rfl⟩
 ·exact⟨_,[M],rfl,⟨M,p,_,c,_,_,rfl,rfl,r,Nat.le_trans (txB_len hl) (by decide)⟩,hh⟩
 ·exact⟨_,[nilH],rfl,⟨nilH,none,0,0,[],_,rfl,rfl,Row.nil _ _ _,Nat.zero_le _⟩,hh.nilP⟩
theorem bag_cons {e:TypeId} {N:Heaplet} {vs:List Value} {xs:List (List UInt8)} {j:Nat} (h:Bag e N (vs.drop j) xs) (hj:j<vs.length): ∃p n c,vs[j]? =some (.slice p n c)∧Bag e N (.slice p n c::vs.drop (j+1)) xs:=by
 have e0:vs.drop j=vs[j]::vs.drop (j+1):=List.drop_eq_getElem_cons hj
 rw [e0]at h
 obtain⟨x,hx⟩: ∃x,xs[0]? =some x:=⟨_,List.getElem?_eq_getElem (by rw [←h.len];simp;omega)⟩
 obtain⟨p,c,h1,_⟩:=h.row 0 x hx
 simp only [List.getElem?_cons_zero,Option.some.injEq]at h1
 rw [h1]at h
 exact⟨p,_,c,(List.getElem?_eq_getElem hj).trans (congrArg some h1),h⟩
set_option maxHeartbeats 16000000 in
theorem BookOwn_f {ao:Option Addr} {n cap:Nat} {l:List UInt8} (h:m.Ok) (hT:TxR N m d a b) (hr:RSl N 1 ao n cap (u8s l)):Fn Try.prog 6 #[.agg (m.cells d a b).toArray,.slice ao n cap] [] [N] (fun v L=>v=.bool true∧L= []):=by
 have hln:=fun d a b=>TxM.cells_len (m:=m) h d a b
 have hk:=cut_ok h
 obtain⟨c1,c2,c3,c4⟩:=cut_sz m
 obtain⟨q,hq⟩: ∃q,cutM m=q:=⟨_,rfl⟩
 have hTw: ∀ {K:Heaplet} {d a b:Value},TxR K q d a b→Fn Try.prog 22 #[.agg (q.cells d a b).toArray] [] [K] (fun v L=> ∃J d a b,v=.agg (q.cells d a b).toArray∧L= [J]∧TxR J q d a b):=fun hR=>by
  have:=FTwin_b (hq▸hk) hR
  have e:cutM q=q:=by rw [←hq,cut_cut]
  rwa [e]at this
 have hT0:=FTwin_b h hT
 rw [hq]at hk c1 c2 c3 c4 hT0
 have hlq:=fun d a b=>TxM.cells_len (m:=q) hk d a b
 obtain⟨o1,o2,o3⟩:=hT.one
 obtain⟨lc,hlc⟩: ∃lc,l.take 3000=lc:=⟨_,rfl⟩
 have hll:lc.length≤3000:=by rw [←hlc,List.length_take];omega
 refine Fn.enter (vs:= [.agg (m.cells d a b).toArray,.slice ao n cap]) Try.func6 rfl rfl rfl ?_
 intro E R hR
 have hNR:=hR N (by simp)
 change At _ _ E [R] _
 refine At.seq fun _ s_1=>At.region (op_box (aV rfl) rfl rfl rfl (fun N2 b2 B2=>aE (aC rfl) rfl rfl (aA (aB (s_1 (At.seq fun _ s_2=>At.region (aL (ds:=m.cells d a b) (aC rfl) ag58 rfl B2 (by exact tk_all (hln _ _ _)) (by exact hln _ _ _) aN rfl ?_)))))))
 refine aR (aV rfl) (.cons rfl .nil) (hT0.liftB hNR) Try.func22 rfl rfl (by simp) rfl ?_
 rintro v20 L20 ⟨J20,d1,a1,b1,rfl,rfl,hR1⟩
 change At _ _ _ [J20,N2,R] _
 obtain⟨p1,p2,p3⟩:=hR1.one
 refine aU (aV rfl) ze58 rfl (fun N5 b5 B5=>?_)
 change Blk N5 b5 _ z58 at B5
 refine aG (nxl rfl) sz58 rfl rfl rfl (hlq _ _ _) (TxM.one p1 p2 p3) B5 (by rw [hlq,z58_len];exact Nat.le_refl _) sel0 (fun N5 B5=>?_)
 rw [bD (by rw [hlq,z58_len])]at B5
 refine aA (aB (s_2 (At.seq fun _ s_3=>At.region (op_build (out:= [.slice none 0 0,.slice none 0 0]) (aC rfl) ze63 pl63 .nil rfl rfl (op_box (aV rfl) rfl rfl rfl (fun N22 b22 B22=>aE (aC rfl) rfl rfl (aA (aB (s_3 (At.seq fun _ s_4=>At.region (op_build (out:= [.slice none 0 0,.slice none 0 0,.slice none 0 0,.slice none 0 0,.int .i64 0]) (aC rfl) ze66 pl66 .nil rfl rfl (op_box (aV rfl) rfl rfl rfl (fun N24 b24 B24=>aE (aC rfl) rfl rfl (aA (aB (s_4 (At.seq fun _ s_5=>At.seq fun _ s_6=>At.region (aE (aC rfl) rfl rfl (aA ?_)))))))))))))))))))
 refine aB (s_6 (At.block ?_))
 have hL0:=Loan.start B22
 have hB0:=Book.start B24
 obtain⟨pd,cd,rfl,hd1⟩:=hR1.dat
 refine At.empty (At.empty (At.sub (L':= [nilH,nilH,N24,N22,N5,J20,R]) (.cons_cons _ (.cons_cons _ (.cons_cons _ (.cons_cons _ (.cons_cons _ (.cons_cons _ (.cons _ (.cons_cons _ (.slnil))))))))) (At.perm bR (At.perm bZ (At.perm aW (At.perm aW (At.perm bJ (At.perm bR (At.perm bR (At.loop (fun fr_ hp_ ms_=> ∃(i:Nat) (NL NI NB NJ:Heaplet),fr_= [(1,.slice ao n cap),(5,.pointer (some ⟨b5,0,none⟩)),(6,.pointer (some ⟨b22,0,none⟩)),(7,.pointer (some ⟨b24,0,none⟩)),(8,.int .i64 (i:Int))]∧hp_= [N5,J20,NL,NI,NB,NJ,R]∧2- i=ms_∧(i≤2)∧(Loan b22 NL NI (4*i))∧(Book b24 NB NJ)) ?_ (.refl _) ⟨0,N22,nilH,N24,nilH,rfl,rfl,rfl,by omega,hL0,hB0⟩ ?_))))))))))
 ·exact .cons (by first|exact bE rfl (by omega)|rfl) (.cons (by first|exact bE rfl (by omega)|rfl) (.cons (by first|exact bE rfl (by omega)|rfl) (.cons (by first|exact bE rfl (by omega)|rfl) (.cons (by first|exact bE rfl (by omega)|rfl) .nil))))
 rintro _ _ _ ⟨i,NL,NI,NB,NJ,rfl,rfl,rfl,hi,hL,hB⟩
 refine At.seq fun _ s_7=>At.seq fun _ s_8=>At.region (aD (aC rfl) rfl rfl (op_lss (aC rfl) rfl rfl rfl (aA (aB (s_8 (aP rfl (fun c26=>?_) (fun c26=>?_)))))))
 ·refine At.knowT (d:=26) rfl c26 (At.skip (aB (s_7 (At.seq fun _ s_9=>At.block (At.seq fun _ s_10=>At.region (aL (ds:=q.cells (.slice pd q.da.length cd) a1 b1) (aC rfl) ag58 rfl B5 (by exact tk_all (hlq _ _ _)) (by exact hlq _ _ _) aN rfl ?_))))))
  refine aR (aV rfl) (.cons rfl .nil) (hTw hR1) Try.func22 rfl rfl (by simp) rfl ?_
  rintro v30 L30 ⟨J30,d2,a2,b2,rfl,rfl,hR2⟩
  change At _ _ _ [J30,N5,J20,NL,NI,NB,NJ,R] _
  obtain⟨w1,w2,w3⟩:=hR2.one
  refine aU (aV rfl) ze58 rfl (fun N9 b9 B9=>?_)
  change Blk N9 b9 _ z58 at B9
  refine aG (nxl rfl) sz58 rfl rfl rfl (hlq _ _ _) (TxM.one w1 w2 w3) B9 (by rw [hlq,z58_len];exact Nat.le_refl _) sel0 (fun N9 B9=>?_)
  rw [bD (by rw [hlq,z58_len])]at B9
  refine aA (aB (s_10 (At.seq fun _ s_11=>At.region (aD (aC rfl) rfl rfl (aF (aC rfl) fl58_9 rfl rfl (aH (aC rfl) sc27 rfl B5 (gx_d hk) bV rfl (At.perm sel8 (At.perm sel8 (At.perm sel8 (At.perm bR (At.perm bR (At.perm bR (At.perm bR (At.perm sel8 (At.perm sel8 (op_call (nxl rfl) (.cons rfl (.cons rfl .nil)) (LoanBytes_f hL hd1 (by omega) (by omega)) (F:= [N9,J30,N5,J20,NB,NJ,R]) Try.func23 rfl rfl (.refl _) (by simp) rfl ?_))))))))))))))))
  rintro v34 L34 ⟨NL,NI,p34,c34,rfl,rfl,hL,le34,s34⟩
  change At _ _ _ [NL,NI,N9,J30,N5,J20,NB,NJ,R] _
  skip
  refine aF (aC rfl) fl58_9 rfl rfl ?_
  refine aG (nxl rfl) sz27 rfl rfl rfl rfl rfl B9 (by rw [hlq];exact show 0+37+1≤53 by decide) aX (fun N9 B9=>?_)
  rw [st_d hk]at B9
  refine aA (aB (s_11 (At.seq fun _ s_12=>At.region (aL (ds:=q.cells (.slice p34 q.da.length c34) a2 b2) (aC rfl) ag58 rfl B9 (by exact tk_all (hlq _ _ _)) (by exact hlq _ _ _) aN rfl ?_))))
  refine aR (aV rfl) (.cons rfl .nil) (Fn.overJ (Ns:= [NI,J30]) fun K hK=>FWriteTx_o hk (fun hf=>sz_of (B:=300000) (by decide) hf (wIts_form hk hR2.ac c1 c2 c3 c4)) (hR2.data s34 (hK _ (by simp)) (hK _ (by simp))) (wIts_form hk hR2.ac c1 c2 c3 c4)) Try.func24 rfl rfl (by simp) rfl ?_
  rintro v38 L38 ⟨M38,p38,n38,c38,l38,e38,rfl,rfl,r38,hn38⟩
  change At _ _ _ [M38,N9,NL,NI,J30,N5,J20,NB,NJ,R] _
  refine aD (aC rfl) rfl rfl (aM (aC rfl) rfl rfl rfl (aM (aC rfl) rfl rfl rfl (aE (aC rfl) rfl rfl (aE (aC rfl) rfl rfl (aA (aB (s_12 (At.seq fun _ s_13=>At.region (aD (aC rfl) rfl rfl (aD (aC rfl) rfl rfl (At.perm sel9 (At.perm sel7 (At.perm sel7 (At.perm sel7 (At.perm sel7 (At.perm sel7 (At.perm sel7 (At.perm sel7 (At.perm sel9 (At.perm sel9 ?_))))))))))))))))))))
  refine op_call (nxl rfl) (.cons rfl (.cons rfl .nil)) (BookBytes_f hB r38 hn38) (F:= [N9,NL,NI,J30,N5,J20,R]) Try.func25 rfl rfl (.refl _) (by simp) rfl ?_
  rintro v43 L43 ⟨rfl,NB,NJ,rfl,hB⟩
  change At _ _ _ [NB,NJ,N9,NL,NI,J30,N5,J20,R] _
  skip
  refine aA (aB (s_13 (At.seq fun _ s_14=>At.seq fun _ s_15=>At.region (aL (ds:=q.cells (.slice p34 q.da.length c34) a2 b2) (aC rfl) ag58 rfl B9 (by exact tk_all (hlq _ _ _)) (by exact hlq _ _ _) bV rfl ?_))))
  refine aL (ds:=q.cells (.slice pd q.da.length cd) a1 b1) (aC rfl) ag58 rfl B5 (by exact tk_all (hlq _ _ _)) (by exact hlq _ _ _) mem6 rfl ?_
  refine aR (aV rfl) (.cons rfl (.cons rfl .nil)) (Fn.overJ (Ns:= [NI,J30,J20]) fun K hK=>(FSame_b hk (hR2.data s34 (hK J30 (by simp)) (hK NI (by simp))) (hR1.le (hK J20 (by simp)))).dup) Try.func26 rfl rfl (by simp) rfl ?_
  rintro v46 L46 ⟨rfl,rfl⟩
  change At _ _ _ [NB,NJ,N9,NL,NI,J30,N5,J20,R] _
  refine op_not (aC rfl) rfl rfl (aA (aB (s_15 (At.condF rfl (At.skip (aB (s_14 (At.seq fun _ s_16=>At.region (aD (aC rfl) rfl rfl (aD (aC rfl) rfl rfl (aR (aV rfl) (.cons rfl (.cons rfl .nil)) ((KTwin_f hr 3000 3000 rfl (by decide)).liftB hNR) Try.func8 rfl rfl (by simp) rfl ?_)))))))))))
  rintro v51 L51 ⟨N51,p51,c51,rfl,rfl,r51⟩
  change At _ _ _ [N51,NB,NJ,N9,NL,NI,J30,N5,J20,R] _
  rw [hlc]at r51⊢
  refine At.perm sel9 (At.perm sel9 (At.perm sel9 (At.perm sel9 (At.perm sel7 (At.perm sel7 (At.perm sel7 (At.perm sel7 (At.perm sel9 (At.perm sel9 (op_call (nxl rfl) (.cons rfl (.cons rfl .nil)) (LoanBytes_f hL r51.rsl (by omega) (by omega)) (F:= [N51,NB,NJ,N9,J30,N5,J20,R]) Try.func23 rfl rfl (.refl _) (by simp) rfl ?_))))))))))
  rintro v52 L52 ⟨NL,NI,p52,c52,rfl,rfl,hL,le52,s52⟩
  change At _ _ _ [NL,NI,N51,NB,NJ,N9,J30,N5,J20,R] _
  skip
  refine aR (aV rfl) (.cons rfl .nil) (ReadTx_o s52 (by omega)) Try.func27 rfl rfl (by simp) rfl ?_
  rintro v53 L53 ⟨M53,p53,m53,c53,l53,cs53,e53,rfl,rfl,hl53,h153,hc53,r53,hm53⟩
  change At _ _ _ [M53,NL,NI,N51,NB,NJ,N9,J30,N5,J20,R] _
  refine aD (aC rfl) rfl rfl (aM (aC rfl) rfl rfl rfl (aM (aC rfl) rfl rfl rfl (aU (aV rfl) ze58 rfl (fun N12 b12 B12=>?_))))
  change Blk N12 b12 _ z58 at B12
  refine aG (nxl rfl) sz58 rfl rfl rfl hl53 h153 B12 (by rw [hl53,z58_len];exact Nat.le_refl _) sel0 (fun N12 B12=>?_)
  rw [bD (by rw [hl53,z58_len])]at B12
  refine aE (aC rfl) rfl rfl (aA (aB (s_16 (At.seq fun _ s_17=>At.region (aD (aC rfl) rfl rfl (aF (aC rfl) fl58_9 rfl rfl (aH (aC rfl) sc27 rfl B12 (hc53) aN rfl (At.perm sel11 (At.perm sel11 (At.perm sel11 (At.perm sel11 (At.perm sel11 (At.perm sel9 (At.perm sel9 (At.perm sel9 (At.perm sel8 (At.perm sel9 (At.perm sel11 (At.perm sel11 (op_call (nxl rfl) (.cons rfl (.cons rfl .nil)) (BookBytes_f hB r53 hm53) (F:= [N12,NL,NI,N51,N9,J30,N5,J20,R]) Try.func25 rfl rfl (.refl _) (by simp) rfl ?_))))))))))))))))))))
  rintro v59 L59 ⟨rfl,NB,NJ,rfl,hB⟩
  change At _ _ _ [NB,NJ,N12,NL,NI,N51,N9,J30,N5,J20,R] _
  skip
  refine aA (aB (s_17 (At.seq fun _ s_18=>At.region (aD (aC rfl) rfl rfl (aD (aC rfl) rfl rfl (aR (aV rfl) (.cons rfl (.cons rfl .nil)) ((KTwin_f hr 3000 3000 rfl (by decide)).liftB hNR) Try.func8 rfl rfl (by simp) rfl ?_))))))
  rintro v63 L63 ⟨N63,p63,c63,rfl,rfl,r63⟩
  change At _ _ _ [N63,NB,NJ,N12,NL,NI,N51,N9,J30,N5,J20,R] _
  rw [hlc]at r63⊢
  refine At.perm sel11 (At.perm sel11 (At.perm sel11 (At.perm sel11 (At.perm sel11 (At.perm sel11 (At.perm sel9 (At.perm sel9 (At.perm sel9 (At.perm sel9 (At.perm sel11 (At.perm sel11 (op_call (nxl rfl) (.cons rfl (.cons rfl .nil)) (LoanBytes_f hL r63.rsl (by omega) (by omega)) (F:= [N63,NB,NJ,N12,N51,N9,J30,N5,J20,R]) Try.func23 rfl rfl (.refl _) (by simp) rfl ?_))))))))))))
  rintro v64 L64 ⟨NL,NI,p64,c64,rfl,rfl,hL,le64,s64⟩
  change At _ _ _ [NL,NI,N63,NB,NJ,N12,N51,N9,J30,N5,J20,R] _
  skip
  refine aR (aV rfl) (.cons rfl .nil) (ReadHeader_o s64 (by omega)) Try.func28 rfl rfl (by simp) rfl ?_
  rintro v65 L65 ⟨M65,p65,m65,c65,l65,cs65,e65,rfl,rfl,hl65,h165,hc65,r65,hm65⟩
  change At _ _ _ [M65,NL,NI,N63,NB,NJ,N12,N51,N9,J30,N5,J20,R] _
  refine aD (aC rfl) rfl rfl (aM (aC rfl) rfl rfl rfl (aM (aC rfl) rfl rfl rfl (aU (aV rfl) ze76 rfl (fun N14 b14 B14=>?_))))
  change Blk N14 b14 _ z76 at B14
  refine aG (nxl rfl) sz76 rfl rfl rfl hl65 h165 B14 (by rw [hl65,z76_len];exact Nat.le_refl _) sel0 (fun N14 B14=>?_)
  rw [bD (by rw [hl65,z76_len])]at B14
  refine aE (aC rfl) rfl rfl (aA (aB (s_18 (At.seq fun _ s_19=>At.region (aD (aC rfl) rfl rfl (aF (aC rfl) fl76_13 rfl rfl (aH (aC rfl) sc27 rfl B14 (hc65) aN rfl (At.perm sel13 (At.perm sel13 (At.perm sel13 (At.perm sel13 (At.perm sel13 (At.perm sel13 (At.perm sel13 (At.perm sel11 (At.perm sel11 (At.perm sel11 (At.perm sel10 (At.perm sel11 (At.perm sel13 ?_))))))))))))))))))))
  refine At.perm sel13 (op_call (nxl rfl) (.cons rfl (.cons rfl .nil)) (BookBytes_f hB r65 hm65) (F:= [N14,NL,NI,N63,N12,N51,N9,J30,N5,J20,R]) Try.func25 rfl rfl (.refl _) (by simp) rfl ?_)
  rintro v71 L71 ⟨rfl,NB,NJ,rfl,hB⟩
  change At _ _ _ [NB,NJ,N14,NL,NI,N63,N12,N51,N9,J30,N5,J20,R] _
  skip
  refine aA (aB (s_19 (At.seq fun _ s_20=>At.region (aD (aC rfl) rfl rfl (aD (aC rfl) rfl rfl (aR (aV rfl) (.cons rfl (.cons rfl .nil)) ((KTwin_f hr 3000 3000 rfl (by decide)).liftB hNR) Try.func8 rfl rfl (by simp) rfl ?_))))))
  rintro v75 L75 ⟨N75,p75,c75,rfl,rfl,r75⟩
  change At _ _ _ [N75,NB,NJ,N14,NL,NI,N63,N12,N51,N9,J30,N5,J20,R] _
  rw [hlc]at r75⊢
  refine At.perm sel13 (At.perm sel13 (At.perm sel13 (At.perm sel13 (At.perm sel13 (At.perm sel13 (At.perm sel13 (At.perm sel13 (At.perm sel11 (At.perm sel11 (At.perm sel11 (At.perm sel11 (At.perm sel13 (At.perm sel13 (op_call (nxl rfl) (.cons rfl (.cons rfl .nil)) (LoanBytes_f hL r75.rsl (by omega) (by omega)) (F:= [N75,NB,NJ,N14,N63,N12,N51,N9,J30,N5,J20,R]) Try.func23 rfl rfl (.refl _) (by simp) rfl ?_))))))))))))))
  rintro v76 L76 ⟨NL,NI,p76,c76,rfl,rfl,hL,le76,s76⟩
  change At _ _ _ [NL,NI,N75,NB,NJ,N14,N63,N12,N51,N9,J30,N5,J20,R] _
  skip
  refine aR (aV rfl) (.cons rfl .nil) (ReadBlock_o s76 (by omega)) Try.func29 rfl rfl (by simp) rfl ?_
  rintro v77 L77 ⟨NT,NS,p77,c77,vs,gs,cs77,e77,rfl,rfl,hl77,h177,hc77,rT,hone,hS,hgl⟩
  change At _ _ _ [NT,NS,NL,NI,N75,NB,NJ,N14,N63,N12,N51,N9,J30,N5,J20,R] _
  refine aD (aC rfl) rfl rfl (aM (aC rfl) rfl rfl rfl (aM (aC rfl) rfl rfl rfl (aU (aV rfl) ze82 rfl (fun N16 b16 B16=>?_))))
  change Blk N16 b16 _ z82 at B16
  refine aG (nxl rfl) sz82 rfl rfl rfl hl77 h177 B16 (by rw [hl77,z82_len];exact Nat.le_refl _) sel0 (fun N16 B16=>?_)
  rw [bD (by rw [hl77,z82_len])]at B16
  refine aE (aC rfl) rfl rfl (aA (aB (s_20 (At.seq fun _ s_21=>At.region (aE (aC rfl) rfl rfl (aA (aB (s_21 (At.block ?_)))))))))
  have sT:=rT.rsl
  have hvl:=hS.len
  have hgc:=sT.cap63
  refine At.sub (L':= [N16,NT,NS,NL,NI,NB,NJ,N5,J20,R]) (.cons_cons _ (.cons_cons _ (.cons_cons _ (.cons_cons _ (.cons_cons _ (.cons _ (.cons_cons _ (.cons_cons _ (.cons _ (.cons _ (.cons _ (.cons _ (.cons _ (.cons _ (.cons_cons _ (.cons_cons _ (.cons_cons _ (.slnil)))))))))))))))))) (At.perm sel9 (At.perm sel7 (At.perm sel7 (At.perm sel7 (At.perm sel7 (At.perm sel9 (At.perm sel8 (At.perm sel8 (At.perm sel8 (At.perm sel9 (At.loop (fun fr_ hp_ ms_=> ∃(j:Nat) (NB NJ NS:Heaplet) (qs:List (List UInt8)),fr_= [(1,.slice ao n cap),(5,.pointer (some ⟨b5,0,none⟩)),(6,.pointer (some ⟨b22,0,none⟩)),(7,.pointer (some ⟨b24,0,none⟩)),(8,.int .i64 (i:Int)),(16,.pointer (some ⟨b16,0,none⟩)),(18,.int .i64 (j:Int))]∧hp_= [N5,N16,NT,NS,J20,NL,NI,NB,NJ,R]∧gs.length- j=ms_∧(j≤gs.length)∧(Book b24 NB NJ)∧(Bag 5 NS (vs.drop j) qs)∧(∀u∈qs,u.length≤1099511627776)) ?_ (.refl _) ⟨0,NB,NJ,NS,gs,rfl,rfl,rfl,by omega,hB,by simpa using hS,hgl⟩ ?_)))))))))))
  ·exact .cons (by first|exact bE rfl (by omega)|rfl) (.cons (by first|exact bE rfl (by omega)|rfl) (.cons (by first|exact bE rfl (by omega)|rfl) (.cons (by first|exact bE rfl (by omega)|rfl) (.cons (by first|exact bE rfl (by omega)|rfl) (.cons (by first|exact bE rfl (by omega)|rfl) (.cons (by first|exact bE rfl (by omega)|rfl) .nil))))))
  rintro _ _ _ ⟨j,NB,NJ,NS,qs,rfl,rfl,rfl,hj,hB,hS,hqs⟩
  refine At.seq fun _ s_22=>At.seq fun _ s_23=>At.region (aD (aC rfl) rfl rfl (aF (aC rfl) fl82_1 rfl rfl (aH (aC rfl) sc61 rfl B16 (hc77) bC rfl (bP (aC rfl) se61 rfl rfl (op_lss (aC rfl) rfl rfl rfl (aA (aB (s_23 (aP rfl (fun c84=>?_) (fun c84=>?_))))))))))
  ·refine At.knowT (d:=84) rfl c84 ?_
   obtain⟨pj,nj,cj,hvj,hS2⟩:=bag_cons hS (by omega)
   refine At.skip (aB (s_22 (At.seq fun _ s_24=>At.block (At.perm sel9 (At.perm sel9 (At.perm sel9 (At.perm sel9 (At.perm sel9 (At.perm sel9 (At.perm sel8 (At.perm sel8 (At.perm sel8 (At.perm sel9 (At.pop hS2 (fun NP NS q0 qs' hqe rP hS'=>At.region (aD (aC rfl) rfl rfl (aF (aC rfl) fl82_1 rfl rfl (aH (aC rfl) sc61 rfl B16 (hc77) mem3 rfl (aD (aC rfl) rfl rfl (op_idx1 (aC rfl) se61 rfl rfl sT (show _=(((j:Nat)):Int)from by omega) (by omega) rfl ?_))))))))))))))))))))
   refine bS (aC rfl) sc27 rfl sT (by first|exact get8 (by omega)|exact get64 (by omega)|exact get32 (by omega)|exact hvj) (by first|exact aN|exact bC|exact bV|exact mem3|exact mem4|exact mem5|exact mem6|exact mem7|exact mem8|exact mem9|exact mem10) rfl ?_
   refine At.perm sel10 (At.perm sel8 (At.perm sel8 (At.perm sel8 (At.perm sel8 (At.perm sel8 (At.perm sel8 (At.perm sel8 (At.perm sel8 (At.perm sel10 (At.perm sel10 ?_))))))))))
   refine op_call (nxl rfl) (.cons rfl (.cons rfl .nil)) (BookBytes_f hB rP (by have:=hqs q0 (by rw [hqe];exact List.mem_cons_self ..);have:=rP.rsl.len8;omega)) (F:= [NS,N5,N16,NT,J20,NL,NI,R]) Try.func25 rfl rfl (.refl _) (by simp) rfl ?_
   rintro v93 L93 ⟨rfl,NB,NJ,rfl,hB⟩
   change At _ _ _ [NB,NJ,NS,N5,N16,NT,J20,NL,NI,R] _
   skip
   refine aA (bB (aB (s_24 (At.region (aD (aC rfl) rfl rfl (bI (aC rfl) rfl rfl (by omega) (by omega) rfl (aE (aC rfl) rfl rfl (aA (aB (At.perm sel9 (At.perm aX (At.perm aX (At.perm sel9 (At.perm sel9 (At.perm sel9 (At.perm bR (At.perm sel9 (At.perm sel9 (At.perm sel9 ?_)))))))))))))))))))
   refine At.back ?_ (.refl _) ⟨j+1,NB,NJ,NS,qs',rfl,rfl,rfl,by omega,hB,hS',fun u hu=>hqs u (by rw [hqe];exact List.mem_cons_of_mem _ hu)⟩ ?_
   ·exact .cons (by first|exact bE rfl (by omega)|rfl) (.cons (by first|exact bE rfl (by omega)|rfl) (.cons (by first|exact bE rfl (by omega)|rfl) (.cons (by first|exact bE rfl (by omega)|rfl) (.cons (by first|exact bE rfl (by omega)|rfl) (.cons (by first|exact bE rfl (by omega)|rfl) (.cons (by first|exact bE rfl (by omega)|rfl) .nil))))))
   ·omega
  refine At.knowF (d:=84) rfl c84 (At.exit (aO (aO (At.inHit (bB (aB (s_9 (At.region (aD (aC rfl) rfl rfl (bI (aC rfl) rfl rfl (by omega) (by omega) rfl (aE (aC rfl) rfl rfl (aA (aB (At.sub (L':= [N5,J20,NL,NI,NB,NJ,R]) (.cons_cons _ (.cons _ (.cons _ (.cons _ (.cons_cons _ (.cons_cons _ (.cons_cons _ (.cons_cons _ (.cons_cons _ (.cons_cons _ (.slnil))))))))))) (At.back ?_ (.refl _) ⟨i+1,NL,NI,NB,NJ,rfl,rfl,rfl,by omega,hL.mono (by omega),hB⟩ ?_)))))))))))))))
  ·exact .cons (by first|exact bE rfl (by omega)|rfl) (.cons (by first|exact bE rfl (by omega)|rfl) (.cons (by first|exact bE rfl (by omega)|rfl) (.cons (by first|exact bE rfl (by omega)|rfl) (.cons (by first|exact bE rfl (by omega)|rfl) .nil))))
  ·omega
 refine At.knowF (d:=26) rfl c26 (At.exit (aO (aO (At.inHit (aB (s_5 (At.seq fun _ s_25=>At.region (aD (aC rfl) rfl rfl (At.perm bR (At.perm bR (At.perm bR (At.perm bJ (At.perm bJ (At.perm bR (At.perm bR (op_call (nxl rfl) (.cons rfl .nil) (LoanBack_f hL) (F:= [N5,J20,NB,NJ,R]) Try.func30 rfl rfl (.refl _) (by simp) rfl ?_))))))))))))))))
 rintro v95 L95 ⟨rfl,rfl⟩
 change At _ _ _ [N5,J20,NB,NJ,R] _
 skip
 refine aD (aC rfl) rfl rfl (aD (aS rfl rfl rfl rfl) rfl rfl (At.perm bJ (At.perm aX (At.perm aX (At.perm bJ (At.perm bJ (op_call (nxg rfl rfl rfl rfl) (.cons rfl .nil) (BookClose_f hB) (F:= [N5,J20,R]) Try.func31 rfl rfl (.refl _) (by simp) rfl ?_)))))))
 rintro v98 L98 ⟨rfl,rfl⟩
 change At _ _ _ [N5,J20,R] _
 skip
 refine bW (aC rfl) rfl rfl rfl (aD (aC rfl) rfl rfl (aR (nxga rfl rfl rfl rfl) .nil (BWakes_f) Try.func13 rfl rfl (by simp) rfl ?_))
 rintro v101 L101 ⟨rfl,rfl⟩
 change At _ _ _ [N5,J20,R] _
 refine bW (aC rfl) rfl rfl rfl (aE (aC rfl) rfl rfl (aA (aB (s_25 (At.ret ((At.sub (L':= [R]) (.cons _ (.cons _ (.cons_cons _ (.slnil)))) (aZ (L1:= []) rfl (.tmp rfl .nil) (.refl _) (.refl _) ?_))))))))
 exact⟨rfl,rfl⟩
end
end Go.Proofs.Ytljacjjeinmfnaa
