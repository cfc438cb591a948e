/- Several texts in one: see the remarks ahead of each part. No condition but those told there. -/
import Derived.Test.YtjfagifjajielaaGreatX1
import Derived.Test.YtjfagifjajielaaGreatX27
import Derived.Test.YtjfagifjajielaaGreatX25
import Derived.Test.YtjfagifjajielaaGreatXBSa
import Derived.Test.YtjfagifjajielaaGreatX14
set_option linter.unusedSimpArgs false
set_option linter.unusedVariables false
namespace Go.Proofs.YtjfagifjajielaaGreat
open Go Go.RowKit
set_option maxRecDepth 100000
theorem TxS.r {zs:List IV} {NI J K:Heaplet} {m:TxM} {d a b:Value} (h:TxS zs NI J m d a b) (h1:NI.le K) (h2:J.le K):TxR K m d a b:=by
 obtain⟨da,dc,aa,cc,ba,bc,axs,e1,e2,_,e3,e4,e5,e6,e7⟩:=h
 exact⟨da,dc,aa,cc,ba,bc,axs,e1,e2.le h1,e3,e4.le h2,e5.le h2,e6,e7.le h2⟩
theorem TxR.le {N M:Heaplet} {m:TxM} {d a b:Value} (h:TxR N m d a b) (hl:N.le M):TxR M m d a b:=by
 obtain⟨da,dc,aa,cc,ba,bc,axs,e1,e2,e3,e4,e5,e6,e7⟩:=h
 exact⟨da,dc,aa,cc,ba,bc,axs,e1,e2.le hl,e3,e4.le hl,e5.le hl,e6,e7.le hl⟩
theorem TxR.ac {N:Heaplet} {m:TxM} {d a b:Value} (h:TxR N m d a b):AcOk m:=fun g hg=>by
 obtain⟨da,dc,aa,cc,ba,bc,axs,e1,e2,e3,e4,e5,e6,e7⟩:=h
 obtain⟨i,hi,rfl⟩:=List.mem_iff_getElem.1 hg
 obtain⟨g',x,h1,h2,h3⟩:=e5.at hi
 rw [List.getElem?_eq_getElem hi]at h1
 obtain rfl:=Option.some.inj h1
 exact⟨h3.2.1,h3.2.2.2.2⟩
theorem cut_cut (m:TxM):cutM (cutM m)=cutM m:=by
 have h: ∀g:AccM,g.cut.cut=g.cut:=fun g=>by simp [AccM.cut,List.take_take]
 have e:cutA (cutA m.ac)=cutA m.ac:=by
  rw [cutA,cutA, ←List.map_take,List.take_take,List.map_map]
  exact List.map_congr_left fun g _=>h g
 simp only [cutM,e,List.take_take,Nat.min_self]
theorem BlkS.r {NI NT NK NO NW K:Heaplet} {m:BlkM} {cs:List Value} (h:BlkS NI NT NK NO NW m cs) (h1:NI.le K) (h2:NT.le K) (h3:NK.le K) (h4:NO.le K) (h5:NW.le K):BlkR K m cs∧okF m.hd.fi∧ ∀x∈m.oms,okF x.fi:=by
 obtain⟨v1,ta,tc,vs,ys,oa,oc,xs,wa,wc,t,zs,zt,e,k1,k2,⟨zs',ea,ec,k3,k4,_⟩,k5,_,k6,k7,k8,k9,k10,k11,_⟩:=h
 refine⟨⟨v1,ta,tc,vs,oa,oc,xs,wa,wc,e,⟨k1,ea,ec,k3,k4.le h1⟩,k5.rsl.le h2,⟨k6.lv,fun i g hg=>?_⟩,k7.rsl.le h4,fun x hx=>?_,k9,k10.rsl.le h5,k11⟩,k2,fun x hx=>?_⟩
 ·obtain⟨p,c,q1,q2⟩:=k6.at hg
  exact⟨p,c,q1,q2.elim (fun q=>q.le h1) (fun q=>q.le h3)⟩
 ·obtain⟨q1,_,zs,ea,ec,q3,q4,_⟩:=k8 x hx
  exact⟨q1,ea,ec,q3,q4.le h1⟩
 ·rw [←k9]at hx
  obtain⟨y,hy,rfl⟩:=List.mem_map.1 hx
  exact(k8 y hy).2.1
theorem Fn.one {P:Program} {f:FuncId} {args:Array Value} {L0 Lr:List Heaplet} {Post:Value→List Heaplet→Prop} (h:Fn P f args L0 Lr Post):Fn P f args L0 Lr (fun v L=> ∃M L',L= [M]∧Post v L'∧ ∀N∈L',N.le M):=fun E w R hw hr=>by
 refine(h E w R hw hr).mono ?_
 rintro e w' ⟨v,L1,rfl,hP,hh⟩
 exact⟨v,[joinL L1],rfl,⟨joinL L1,L1,rfl,hP,fun N hN=>le_joinL (List.pairwise_append.1 hh.sep).1 hN⟩,hh.packL⟩
def RdW {α:Type} (r:Except Nat α) (z:α) (e:Nat) (m:α):Prop:=(r=.ok m∧e=0)∨(r=.error e∧e≠0∧m=z)
theorem RdW.same {α:Type} {r:Except Nat α} {z:α} {e e':Nat} {m m':α} (h:RdW r z e m) (k:RdW r z e' m'):e=e'∧m=m':=by
 rcases h with ⟨h1,h2⟩|⟨h1,h2,h3⟩
 ·rcases k with ⟨k1,k2⟩|⟨k1,k2,k3⟩
  ·rw [h1]at k1;cases k1;exact⟨h2.trans k2.symm,rfl⟩
  ·rw [h1]at k1;cases k1
 ·rcases k with ⟨k1,k2⟩|⟨k1,k2,k3⟩
  ·rw [h1]at k1;cases k1
  ·rw [h1]at k1;cases k1;exact⟨rfl,h3.trans k3.symm⟩
def txZ:TxM:=⟨0,0,0,0,0,0,false,zero20,0,[],[],0,[],false,0,0⟩
def bkZ:BlkM:=⟨HdM.zero 0,[],[],false,[]⟩
theorem txZ_cells:z32=txZ.cells (.slice none 0 0) (.slice none 0 0) (.slice none 0 0):=z_tx
theorem txZ_ok:txZ.Ok:=⟨by decide,by decide,by decide,by decide,by decide,List.length_replicate ..,by decide,by decide,fun _ h=>absurd h List.not_mem_nil,by decide,by decide⟩
theorem txZ_r (M:Heaplet):TxR M txZ (.slice none 0 0) (.slice none 0 0) (.slice none 0 0):=⟨none,0,none,0,none,0,[],rfl,RSl.nil _ _,rfl,RSl.nil _ _,AccsN.nil,rfl,RSl.nil _ _⟩
theorem hdZ_in (M:Heaplet):HdIn M (HdM.zero 0) (.slice none 0 0):=⟨zeros_ok 0,none,0,rfl,RSl.nil _ _⟩
theorem bkZ_r (M:Heaplet):BlkR M bkZ z54:=⟨.slice none 0 0,none,0,[],none,0,[],none,0,z_blk,hdZ_in M,RSl.nil _ _,Bags.nil M,RSl.nil _ _,fun _ h=>absurd h List.not_mem_nil,rfl,RSl.nil _ _,fun _ h=>absurd h List.not_mem_nil⟩
def TxG (b:List UInt8) (v:Value) (L:List Heaplet):Prop:= ∃M, ∃e:Nat, ∃m d x y,v=.tuple #[.agg (TxM.cells m d x y).toArray,.int .i64 (e:Int)]∧L= [M]∧RdW (readTxE b) txZ e m∧m.Ok∧TxR M m d x y
def HdG (b:List UInt8) (v:Value) (L:List Heaplet):Prop:= ∃M, ∃e:Nat, ∃m v1,v=.tuple #[.agg (HdM.cells m v1).toArray,.int .i64 (e:Int)]∧L= [M]∧RdW (readHdE b) (HdM.zero 0) e m∧HdIn M m v1
def BkG (b:List UInt8) (v:Value) (L:List Heaplet):Prop:= ∃M, ∃e:Nat, ∃m cs,v=.tuple #[.agg (cs:List Value).toArray,.int .i64 (e:Int)]∧L= [M]∧RdW (readBlkE b) bkZ e m∧BlkR M m cs
theorem TxR.one' {N:Heaplet} {m:TxM} {d a b:Value} (h:TxR N m d a b):d.oneCell'=true∧a.oneCell'=true∧b.oneCell'=true:=by
 obtain⟨da,dc,aa,cc,ba,bc,axs,rfl,_,rfl,_,_,rfl,_⟩:=h
 exact⟨rfl,rfl,rfl⟩
theorem HdIn.one {N:Heaplet} {m:HdM} {v:Value} (h:HdIn N m v):(m.cells v).length=556∧(m.cells v).all (·.oneCell')=true:=by
 obtain⟨k,ea,ec,rfl,_⟩:=h
 exact⟨HdM.len k _,HdM.one rfl⟩
theorem TxR.len1 {N:Heaplet} {m:TxM} {d a b:Value} (k:m.Ok) (h:TxR N m d a b):(m.cells d a b).length=53∧(m.cells d a b).all (·.oneCell')=true:=by
 obtain⟨o1,o2,o3⟩:=h.one'
 exact⟨TxM.cells_len k _ _ _,TxM.one o1 o2 o3⟩
section
variable {N : Heaplet} {ao : Option Addr} {n cap : Nat} {b : List UInt8}
theorem FReadTx_g (h:RSl N 1 ao n cap (u8s b)) (hn:n≤1099511627776):Fn Tryz.prog 7 #[.slice ao n cap] [] [N] (TxG b):=(FReadTx h hn).one.mono fun v L ⟨M,L',e1,hp,hl⟩=>by
 rcases hp with ⟨e,h1,h2,rfl,h4⟩|⟨NI,J,m,d,x,y,t,zs,h1,rfl,h3,h4,h5,_⟩
 ·exact⟨M,e,txZ,_,_,_,by rw [h2,txZ_cells],e1,.inr ⟨h4,h1,rfl⟩,txZ_ok,txZ_r M⟩
 ·exact⟨M,0,m,d,x,y,h1,e1,.inl ⟨h3,rfl⟩,h4,h5.r (hl _ (by simp)) (hl _ (by simp))⟩
theorem RReadTx_g (h:RSl N 1 ao n cap (u8s b)) (hn:n≤1099511627776):Fn Tryz.prog 8 #[.slice ao n cap] [] [N] (TxG b):=(RReadTx h hn).mono fun v L hp=>by
 rcases hp with ⟨M,m,d,x,y,h1,h2,h3,h4,h5⟩|⟨e,h1,h2,h3,h4⟩
 ·exact⟨M,0,m,d,x,y,h2,h3,.inl ⟨h1,rfl⟩,h4,h5⟩
 ·exact⟨nilH,e,txZ,_,_,_,by rw [h2,txZ_cells],h4,.inr ⟨h1,h3,rfl⟩,txZ_ok,txZ_r _⟩
theorem FReadHd_g (h:RSl N 1 ao n cap (u8s b)) (hn:n≤1099511627776):Fn Tryz.prog 10 #[.slice ao n cap] [] [N] (HdG b):=(FReadHeader h hn).one.mono fun v L ⟨M,L',e1,hp,hl⟩=>by
 rcases hp with ⟨e,h1,h2,rfl,h4⟩|⟨NI,m,v1,t,zs,h1,rfl,h3,h4,h5,⟨ea,ec,q1,q2,_⟩,_⟩
 ·exact⟨M,e,HdM.zero 0,_,by rw [h2,z_hd],e1,.inr ⟨h4,h1,rfl⟩,hdZ_in M⟩
 ·exact⟨M,0,m,v1,h1,e1,.inl ⟨h3,rfl⟩,h4,ea,ec,q1,q2.le (hl _ (by simp))⟩
theorem RReadHd_g (h:RSl N 1 ao n cap (u8s b)) (hn:n≤1099511627776):Fn Tryz.prog 11 #[.slice ao n cap] [] [N] (HdG b):=(RReadHeader h hn).mono fun v L hp=>by
 rcases hp with ⟨M,m,v1,h1,h2,h3,h4,_,ea,ec,q1,q2⟩|⟨e,h1,h2,h3,h4⟩
 ·exact⟨M,0,m,v1,h2,h3,.inl ⟨h1,rfl⟩,h4,ea,ec,q1,q2⟩
 ·exact⟨nilH,e,HdM.zero 0,_,by rw [h2,z_hd],h4,.inr ⟨h1,h3,rfl⟩,hdZ_in _⟩
theorem FReadBk_g (h:RSl N 1 ao n cap (u8s b)) (hn:n≤4294967295):Fn Tryz.prog 13 #[.slice ao n cap] [] [N] (BkG b):=(FReadBlock h hn).one.mono fun v L ⟨M,L',e1,hp,hl⟩=>by
 rcases hp with ⟨e,h1,h2,rfl,h4⟩|⟨NI,NT,NK,NO,NW,m,cs,h1,rfl,h3,h4⟩
 ·exact⟨M,e,bkZ,_,h2,e1,.inr ⟨h4,h1,rfl⟩,bkZ_r M⟩
 ·exact⟨M,0,m,cs,h1,e1,.inl ⟨h3,rfl⟩,(h4.r (hl _ (by simp)) (hl _ (by simp)) (hl _ (by simp)) (hl _ (by simp)) (hl _ (by simp))).1⟩
theorem RReadBk_g (h:RSl N 1 ao n cap (u8s b)) (hn:n≤4294967295):Fn Tryz.prog 14 #[.slice ao n cap] [] [N] (BkG b):=(RReadBlock h hn).mono fun v L hp=>by
 rcases hp with ⟨M,m,cs,h1,h2,h3,h4,_⟩|⟨e,h1,h2,h3,h4⟩
 ·exact⟨M,0,m,cs,h2,h3,.inl ⟨h1,rfl⟩,h4⟩
 ·exact⟨nilH,e,bkZ,_,h2,h4,.inr ⟨h1,h3,rfl⟩,bkZ_r _⟩
set_option maxHeartbeats 8000000 in
theorem BookRead_f (hr:RSl N 1 ao n cap (u8s b)):Fn Tryz.prog 3 #[.slice ao n cap] [] [N] (fun v L=>v=.bool true∧L= []):=by
 obtain⟨lc,hlc⟩: ∃lc,b.take 8000=lc:=⟨_,rfl⟩
 have hll:lc.length≤8000:=by rw [←hlc,List.length_take];omega
 have hct:lc.take 8000=lc:=List.take_of_length_le hll
 refine Fn.enter (vs:= [.slice ao n cap]) Tryz.func3 U U U ?_
 intro E R hR
 have hNR:=hR N (by simp)
 change At _ _ E [R] _
 refine aC fun _ s_1=>aA (aR U U (aB (s_1 (aC fun _ s_2=>aA (aH U U (bD bU (.cons U (.cons U .nil)) ((KTwin_f hr 8000 8000 U (by decide)).liftB hNR) Tryz.func6 U U (by simp) U ?_))))))
 rintro _ _ ⟨NC,pc,cc,rfl,rfl,rc⟩
 show At _ _ _ [NC,R] _
 rw [hlc]at rc⊢;have sc:=rc.rsl
 refine aR U U (aB (s_2 (aC fun _ s_3=>aA (aH U U (bD bU (.cons U (.cons U .nil)) (KTwin_f rc.rsl 8000 8000 U (by decide)) Tryz.func6 U U (by simp) U ?_)))))
 rintro _ _ ⟨N16,p16,c16,rfl,rfl,r16⟩
 show At _ _ _ [N16,NC,R] _
 rw [hct]at r16⊢
 refine bD bU (.cons U .nil) (FReadTx_g r16.rsl (by omega)) Tryz.func7 U U (by simp) U ?_
 rintro _ _ ⟨M17,e1,m1,d1,x1,y1,rfl,rfl,w1,k1,R1⟩
 show At _ _ _ [M17,N16,NC,R] _
 obtain⟨l1,o1⟩:=R1.len1 k1
 refine aH U U (aO aE U U U (aO aE U U U (bK bU ze32 U (fun N4 b4 B4=>?_))))
 change Blk N4 b4 _ z32 at B4
 refine aF cL sz32 U U U l1 o1 B4 (by rw [l1,cQ];exact Nat.le_refl _) dB (fun N4 B4=>?_)
 rw [bG (by rw [l1,cQ])]at B4
 refine aR U U (aB (s_3 (aC fun _ s_4=>aA (aH U U (bD bU (.cons U (.cons U .nil)) (KTwin_f rc.rsl 8000 8000 U (by decide)) Tryz.func6 U U (by simp) U ?_)))))
 rintro _ _ ⟨N22,p22,c22,rfl,rfl,r22⟩
 show At _ _ _ [N22,N4,M17,N16,NC,R] _
 rw [hct]at r22⊢
 refine bD bU (.cons U .nil) (RReadTx_g r22.rsl (by omega)) Tryz.func8 U U (by simp) U ?_
 rintro _ _ ⟨M23,e2,m2,d2,x2,y2,rfl,rfl,w2,_,R2⟩
 show At _ _ _ [M23,N22,N4,M17,N16,NC,R] _
 obtain⟨rfl,rfl⟩:=w1.same w2;obtain⟨l2,o2⟩:=R2.len1 k1
 refine aH U U (aO aE U U U (aO aE U U U (bK bU ze32 U (fun N6 b6 B6=>?_))))
 change Blk N6 b6 _ z32 at B6
 refine aF cL sz32 U U U l2 o2 B6 (by rw [l2,cQ];exact Nat.le_refl _) dB (fun N6 B6=>?_)
 rw [bG (by rw [l2,cQ])]at B6
 refine aR U U (aB (s_4 (aC fun _ s_5=>aC fun _ s_6=>aA (aH U U (aH U U (dG aE U U U (aH U U (cB (d:=29) U (fun g29=>?_) (fun g29=>?_)))))))))
 ·exact absurd U g29
 refine aV (ds:=m1.cells d1 x1 y1) (bF U U U U) ag32 U B4 (by exact bY l1) (by exact l1) mem3 U ?_
 refine aV (ds:=m1.cells d2 x2 y2) (bF U U U U) ag32 U B6 (by exact bY l2) (by exact l2) bI U ?_
 refine bD (nxga U U U U) (.cons U (.cons U .nil)) (FSame_b k1 R1 R2) Tryz.func9 U U (by simp) U ?_
 rintro _ _ ⟨rfl,rfl⟩
 show At _ _ _ [N6,M23,N22,N4,M17,N16,NC,R] _
 refine op_not (bF U U U U) U U (cE aE U U U (aB (s_6 (dA U (aT (aI (s_5 (aC fun _ s_7=>aA (aH U U (bD bU (.cons U (.cons U .nil)) (KTwin_f rc.rsl 8000 8000 U (by decide)) Tryz.func6 U U (by simp) U ?_))))))))))
 rintro _ _ ⟨N37,p37,c37,rfl,rfl,r37⟩
 show At _ _ _ [N37,N6,M23,N22,N4,M17,N16,NC,R] _
 rw [hct]at r37⊢
 refine bD bU (.cons U .nil) (FReadHd_g r37.rsl (by omega)) Tryz.func10 U U (by simp) U ?_
 rintro _ _ ⟨M38,f1,h1,v1,rfl,rfl,u1,i1⟩
 show At _ _ _ [M38,N37,N6,M23,N22,N4,M17,N16,NC,R] _
 obtain⟨l3,o3⟩:=i1.one
 refine aH U U (aO aE U U U (aO aE U U U (bK bU ze44 U (fun N8 b8 B8=>?_))))
 change Blk N8 b8 _ z44 at B8
 refine aF cL sz44 U U U l3 o3 B8 (by rw [l3,cY];exact Nat.le_refl _) dB (fun N8 B8=>?_)
 rw [bG (by rw [l3,cY])]at B8
 refine aR U U (aB (s_7 (aC fun _ s_8=>aA (aH U U (bD bU (.cons U (.cons U .nil)) (KTwin_f rc.rsl 8000 8000 U (by decide)) Tryz.func6 U U (by simp) U ?_)))))
 rintro _ _ ⟨N43,p43,c43,rfl,rfl,r43⟩
 show At _ _ _ [N43,N8,M38,N37,N6,M23,N22,N4,M17,N16,NC,R] _
 rw [hct]at r43⊢
 refine bD bU (.cons U .nil) (RReadHd_g r43.rsl (by omega)) Tryz.func11 U U (by simp) U ?_
 rintro _ _ ⟨M44,f2,h2,v2,rfl,rfl,u2,i2⟩
 show At _ _ _ [M44,N43,N8,M38,N37,N6,M23,N22,N4,M17,N16,NC,R] _
 obtain⟨rfl,rfl⟩:=u1.same u2;obtain⟨l4,o4⟩:=i2.one
 refine aH U U (aO aE U U U (aO aE U U U (bK bU ze44 U (fun N9 b9 B9=>?_))))
 change Blk N9 b9 _ z44 at B9
 refine aF cL sz44 U U U l4 o4 B9 (by rw [l4,cY];exact Nat.le_refl _) dB (fun N9 B9=>?_)
 rw [bG (by rw [l4,cY])]at B9
 refine aR U U (aB (s_8 (aC fun _ s_9=>aC fun _ s_10=>aA (aH U U (aH U U (dG aE U U U (aH U U (cB (d:=50) U (fun g50=>?_) (fun g50=>?_)))))))))
 ·exact absurd U g50
 refine aV (ds:=h1.cells v1) (bF U U U U) ag44 U B8 (by exact bY l3) (by exact l3) mem3 U ?_
 refine aV (ds:=h1.cells v2) (bF U U U U) ag44 U B9 (by exact bY l4) (by exact l4) bI U ?_
 refine bD (nxga U U U U) (.cons U (.cons U .nil)) (FSameHeader_b i1 i2) Tryz.func12 U U (by simp) U ?_
 rintro _ _ ⟨rfl,rfl⟩
 show At _ _ _ [N9,M44,N43,N8,M38,N37,N6,M23,N22,N4,M17,N16,NC,R] _
 refine op_not (bF U U U U) U U (cE aE U U U (aB (s_10 (dA U (aT (aI (s_9 (aC fun _ s_11=>aA (aH U U (bD bU (.cons U (.cons U .nil)) (KTwin_f rc.rsl 8000 8000 U (by decide)) Tryz.func6 U U (by simp) U ?_))))))))))
 rintro _ _ ⟨N58,p58,c58,rfl,rfl,r58⟩
 show At _ _ _ [N58,N9,M44,N43,N8,M38,N37,N6,M23,N22,N4,M17,N16,NC,R] _
 rw [hct]at r58⊢
 refine bD bU (.cons U .nil) (FReadBk_g r58.rsl (by omega)) Tryz.func13 U U (by simp) U ?_
 rintro _ _ ⟨M59,g1,bk1,cs1,rfl,rfl,t1,q1⟩
 show At _ _ _ [M59,N58,N9,M44,N43,N8,M38,N37,N6,M23,N22,N4,M17,N16,NC,R] _
 obtain⟨l5,o5⟩:=q1.one
 refine aH U U (aO aE U U U (aO aE U U U (bK bU ze54 U (fun N10 b10 B10=>?_))))
 change Blk N10 b10 _ z54 at B10
 refine aF cL sz54 U U U l5 o5 B10 (by rw [l5,z54_len];exact Nat.le_refl _) dB (fun N10 B10=>?_)
 rw [bG (by rw [l5,z54_len])]at B10
 refine aR U U (aB (s_11 (aC fun _ s_12=>aA (aH U U (bD bU (.cons U (.cons U .nil)) (KTwin_f rc.rsl 8000 8000 U (by decide)) Tryz.func6 U U (by simp) U ?_)))))
 rintro _ _ ⟨N64,p64,c64,rfl,rfl,r64⟩
 show At _ _ _ [N64,N10,M59,N58,N9,M44,N43,N8,M38,N37,N6,M23,N22,N4,M17,N16,NC,R] _
 rw [hct]at r64⊢
 refine bD bU (.cons U .nil) (RReadBk_g r64.rsl (by omega)) Tryz.func14 U U (by simp) U ?_
 rintro _ _ ⟨M65,g2,bk2,cs2,rfl,rfl,t2,q2⟩
 show At _ _ _ [M65,N64,N10,M59,N58,N9,M44,N43,N8,M38,N37,N6,M23,N22,N4,M17,N16,NC,R] _
 obtain⟨rfl,rfl⟩:=t1.same t2;obtain⟨l6,o6⟩:=q2.one
 refine aH U U (aO aE U U U (aO aE U U U (bK bU ze54 U (fun N11 b11 B11=>?_))))
 change Blk N11 b11 _ z54 at B11
 refine aF cL sz54 U U U l6 o6 B11 (by rw [l6,z54_len];exact Nat.le_refl _) dB (fun N11 B11=>?_)
 rw [bG (by rw [l6,z54_len])]at B11
 refine aR U U (aB (s_12 (aC fun _ s_13=>aA (aH U U (aH U U (dF aE U U U (aH U U (cB (d:=71) U (fun g71=>?_) (fun g71=>?_)))))))))
 rotate_left
 ·exact absurd U g71
 refine aV (ds:=cs1) (bF U U U U) ag54 U B10 (by exact bY l5) (by exact l5) mem3 U ?_
 refine aV (ds:=cs2) (bF U U U U) ag54 U B11 (by exact bY l6) (by exact l6) bI U ?_
 refine bD (nxga U U U U) (.cons U (.cons U .nil)) (FSameBlock_b q1 q2) Tryz.func15 U U (by simp) U ?_
 rintro _ _ ⟨rfl,rfl⟩
 show At _ _ _ [N11,M65,N64,N10,M59,N58,N9,M44,N43,N8,M38,N37,N6,M23,N22,N4,M17,N16,NC,R] _
 refine cH aE U U U (aH U U (bD (nxga U U U U) .nil (BWakes_f) Tryz.func16 U U (by simp) U ?_))
 rintro _ _ ⟨rfl,rfl⟩
 show At _ _ _ [N11,M65,N64,N10,M59,N58,N9,M44,N43,N8,M38,N37,N6,M23,N22,N4,M17,N16,NC,R] _
 refine cH aE U U U (aR U U (aB (s_13 (a0 ((dropAt18 (dropAt17 (dropAt16 (dropAt15 (dropAt14 (dropAt13 (dropAt12 (dropAt11 (dropAt10 (dropAt9 (dropAt8 (dropAt7 (dropAt6 (dropAt5 (dH (bW (bJ (bH (cK (cI (L1:= []) U (.tmp U .nil) (.refl _) aJ ?_)))))))))))))))))))))))))
 exact⟨rfl,rfl⟩
end
end Go.Proofs.YtjfagifjajielaaGreat
