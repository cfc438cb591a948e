/- Several texts in one: see the remarks ahead of each part. No condition but those told there. -/
import Derived.Test.YtljacjjeinmfnaaU22
import Derived.Test.YtljacjjeinmfnaaU11
import Derived.Test.YtljacjjeinmfnaaU3
import Derived.WalkKit
import Derived.ProofKit
import Derived.OpenShut
import Derived.Below
import Derived.ChangeSame
import Derived.WideKeyArgs
import Derived.Deep.Slices
import Derived.Test.YtljacjjeinmfnaaU4
import Derived.Deep.Strs
set_option linter.unusedSimpArgs false
set_option linter.unusedVariables false
/- Layer 14: 'quarrylaw14.BookBack' answers true. No condition. -/
namespace Go.Proofs.Ytljacjjeinmfnaa
open Go Go.RowKit
set_option maxRecDepth 100000
theorem Fn.dup {P:Program} {f:FuncId} {args:Array Value} {K:Heaplet} {Post:Value→List Heaplet→Prop} (h:Fn P f args [] [K,K] Post):Fn P f args [] [K] Post:=fun E w R hw hr=>h E w R hw fun M hM=>hr M (by simp only [List.mem_cons,List.not_mem_nil,or_false]at hM;rcases hM with rfl|rfl<;>simp)
section
variable {N : Heaplet} {m : TxM} {d a b : Value}
/-- What WriteTx gives. -/
def WTxP (m:TxM) (v:Value) (L:List Heaplet):Prop:=
 (∃M p c,fitsM m∧v=.tuple #[.slice p (txB m).length c,.int .i64 0]∧L= [M]∧Row M 5 1 p (txB m).length c (u8s (txB m)))∨
 (¬fitsM m∧v=.tuple #[.slice none 0 0,.int .i64 1]∧L= [])
theorem FWriteTx (h:m.Ok) (hz:fitsM m→m.Sz) (hT:TxR N m d a b) (hl:(itL (wIts m)).form.length≤1099511627770):Fn Try.prog 24 #[.agg (m.cells d a b).toArray] [] [N] (WTxP m):=by
 by_cases hf:fitsM m
 ·exact(FWriteTx_ok h (hz hf) hT hf hl).mono fun v L ⟨M,p,c,h1,h2,h3⟩=>.inl ⟨M,p,c,hf,h1,h2,h3⟩
 ·exact(FWriteTx_bad h hT hf).mono fun v L ⟨h1,h2⟩=>.inr ⟨hf,h1,h2⟩
theorem TxS.one3 {zs:List IV} {NI J:Heaplet} (h:TxS zs NI J m d a b):d.oneCell'=true∧a.oneCell'=true∧b.oneCell'=true:=by
 obtain⟨da,dc,aa,cc,ba,bc,axs,rfl,_,_,rfl,_,_,rfl,_⟩:=h
 exact⟨rfl,rfl,rfl⟩
theorem FReadTx_t {N:Heaplet} {ao:Option Addr} {n cap:Nat} {b:List UInt8} {m:TxM} (h:RSl N 1 ao n cap (u8s b)) (hn:n≤1099511627776) (hm:readTxE b=.ok m):Fn Try.prog 27 #[.slice ao n cap] [] [N] (fun v L=> ∃NI J d x y,v=.tuple #[.agg (m.cells d x y).toArray,.int .i64 0]∧L= [NI,J]∧(d.oneCell'=true∧x.oneCell'=true∧y.oneCell'=true)∧ ∀K:Heaplet,NI.le K→J.le K→TxR K m d x y):=
 (FReadTx h hn).mono fun v L hp=>by
  rcases hp with ⟨e,_,_,_,h4⟩|⟨NI,J,m',d,x,y,t,zs,rfl,rfl,h3,_,h5,_⟩
  ·rw [hm]at h4;cases h4
  ·rw [hm]at h3
   obtain rfl:=Except.ok.inj h3
   exact⟨NI,J,d,x,y,rfl,rfl,h5.one3,fun K k1 k2=>h5.r k1 k2⟩
theorem FWriteBlock_t {N:Heaplet} {m:BlkM} {cs:List Value} {bs:List UInt8} (hR':BlkR N m cs) (hz:m.Sz) (hl: ∀its,insAll m.txs=some its→(blkIt m its).form.length≤1099511627776) (hw:wBlk m=some bs):Fn Try.prog 33 #[.agg cs.toArray] [] [N] (fun v L=> ∃M p c,v=.tuple #[.slice p bs.length c,.int .i64 0]∧L= [M]∧RSl M 1 p bs.length c (u8s bs)):=
 (FWriteBlock hR' hz hl).mono fun v L hp=>by
  rcases hp with ⟨bs',M,p,c,h1,rfl,rfl,r⟩|⟨h1,_⟩
  ·rw [hw]at h1
   obtain rfl:=Option.some.inj h1
   exact⟨M,p,c,rfl,rfl,r.rsl⟩
  ·rw [hw]at h1;cases h1
theorem BlkS.len {NI NT NK NO NW:Heaplet} {m:BlkM} {cs:List Value} (h:BlkS NI NT NK NO NW m cs):cs.length=560∧cs.all (·.oneCell')=true:=by
 obtain⟨v1,ta,tc,vs,ys,oa,oc,xs,wa,wc,t,zs,zt,rfl,k1,k2,⟨zs',k3⟩,_⟩:=h
 exact⟨blk_len (HdM.len k1 _),blk_one (HdM.one k3.one) rfl rfl rfl⟩
theorem z_tx1:z58.all (·.oneCell')=true:=by decide+kernel
theorem z_hd1:z76.all (·.oneCell')=true:=by decide+kernel
theorem z_bk1:z82.all (·.oneCell')=true:=by decide+kernel
theorem TxR.one (h:TxR N m d a b):d.oneCell'=true∧a.oneCell'=true∧b.oneCell'=true:=by
 obtain⟨da,dc,aa,cc,ba,bc,axs,rfl,_,rfl,_,_,rfl,_⟩:=h
 exact⟨rfl,rfl,rfl⟩
theorem cut_sz (m:TxM):(cutM m).da.length≤800∧(cutM m).ac.length≤12∧(∀g∈(cutM m).ac,g.keys.length≤12)∧(cutM m).bb.length≤12:=by
 refine⟨by simp only [cutM,List.length_take];omega,by simp only [cutM,cutA,List.length_map,List.length_take];omega,fun g hg=>?_,by simp only [cutM,List.length_take];omega⟩
 obtain⟨x,_,rfl⟩:=List.mem_map.1 hg
 simp only [AccM.cut,List.length_take];omega
theorem txB_len {m:TxM} {B:Nat} (h:(itL (wIts m)).form.length≤B):(txB m).length≤B+1:=by
 rw [txB,List.length_append]
 have:(kindB m.ki).length≤1:=by
  unfold kindB
  split
  ·exact Nat.le_refl _
  ·exact Nat.zero_le _
 omega
theorem readSz {b:List UInt8} {m:BlkM} (h:readBlkE b=.ok m) (hb:b.length≤8000):m.Sz:=by
 obtain⟨t,ht,h⟩:=bQ h
 exact blkSz (B:=8000) (by decide) (by rw [(decodeF_back (by omega) ht).1];exact hb) h
theorem BlkS.ok {NI NT NK NO NW:Heaplet} {m:BlkM} {cs:List Value} (h:BlkS NI NT NK NO NW m cs):okF m.hd.fi∧ ∀x∈m.oms,okF x.fi:=by
 obtain⟨v1,ta,tc,vs,ys,oa,oc,xs,wa,wc,t,zs,zt,e,k1,k2,_,k5,_,k6,k7,k8,k9,_⟩:=h
 refine⟨k2,fun x hx=>?_⟩
 rw [←k9]at hx
 obtain⟨y,hy,rfl⟩:=List.mem_map.1 hx
 exact(k8 y hy).2.1
set_option maxHeartbeats 16000000 in
theorem BookBack_f {ao:Option Addr} {n cap:Nat} {l:List UInt8} (h:m.Ok) (hT:TxR N m d a b) (hr:RSl N 1 ao n cap (u8s l)):Fn Try.prog 7 #[.agg (m.cells d a b).toArray,.slice ao n cap] [] [N] (fun v L=>v=.bool true∧L= []):=by
 have hln:=fun d a b=>TxM.cells_len (m:=m) h d a b
 have hk:=cut_ok h
 obtain⟨c1,c2,c3,c4⟩:=cut_sz m
 obtain⟨q,hq⟩: ∃q,cutM m=q:=⟨_,rfl⟩
 have hTw: ∀ {K:Heaplet} {d a b:Value},TxR K q d a b→Fn Try.prog 22 #[.agg (q.cells d a b).toArray] [] [K] (fun v L=> ∃J d a b,v=.agg (q.cells d a b).toArray∧L= [J]∧TxR J q d a b):=fun hR=>by
  have:=FTwin_b (hq▸hk) hR
  have e:cutM q=q:=by rw [←hq,cut_cut]
  rwa [e]at this
 have hT0:=FTwin_b h hT
 rw [hq]at hk c1 c2 c3 c4 hT0
 have hlq:=fun d a b=>TxM.cells_len (m:=q) hk d a b
 obtain⟨o1,o2,o3⟩:=hT.one
 obtain⟨lc,hlc⟩: ∃lc,l.take 8000=lc:=⟨_,rfl⟩
 have hll:lc.length≤8000:=by rw [←hlc,List.length_take];omega
 have hct:lc.take 8000=lc:=List.take_of_length_le hll
 refine Fn.enter (vs:= [.agg (m.cells d a b).toArray,.slice ao n cap]) Try.func7 rfl rfl rfl ?_
 intro E R hR
 have hNR:=hR N (by simp)
 change At _ _ E [R] _
 refine At.seq fun _ s_1=>At.region (op_box (aV rfl) rfl rfl rfl (fun N2 b2 B2=>aE (aC rfl) rfl rfl (aA (aB (s_1 (At.seq fun _ s_2=>At.region (aJ (ds:=m.cells d a b) (aC rfl) ag58 rfl B2 (by exact tk_all (hln _ _ _)) (by exact hln _ _ _) aO rfl ?_)))))))
 refine aL (aV rfl) (.cons rfl .nil) (hT0.liftB hNR) Try.func22 rfl rfl (by simp) rfl ?_
 rintro v21 L21 ⟨J21,d1,a1,b1,rfl,rfl,hR1⟩
 change At _ _ _ [J21,N2,R] _
 obtain⟨p1,p2,p3⟩:=hR1.one
 refine aR (aV rfl) ze58 rfl (fun N5 b5 B5=>?_)
 change Blk N5 b5 _ z58 at B5
 refine aG (nxl rfl) sz58 rfl rfl rfl (hlq _ _ _) (TxM.one p1 p2 p3) B5 (by rw [hlq,z58_len];exact Nat.le_refl _) sel0 (fun N5 B5=>?_)
 rw [aW (by rw [hlq,z58_len])]at B5
 refine aA (aB (s_2 (At.seq fun _ s_3=>At.meet (fun fr_ hp_=> ∃(e25:Int) (pw:Option Addr) (bw cw:Nat) (MB:Heaplet),fr_= [(1,.slice ao n cap),(5,.pointer (some ⟨b5,0,none⟩)),(6,.slice pw bw cw),(7,.int .i64 e25)]∧hp_= [MB,N5,J21,R]∧(e25≠0∨(fitsM q∧bw=(txB q).length∧Row MB 5 1 pw bw cw (u8s (txB q))))) ?_ (fun K3_ jk_3=>?_))))
 rotate_left
 ·skip
  refine At.region (aJ (ds:=q.cells d1 a1 b1) (aC rfl) ag58 rfl B5 (by exact tk_all (hlq _ _ _)) (by exact hlq _ _ _) aO rfl ?_)
  refine aL (aV rfl) (.cons rfl .nil) (hTw hR1) Try.func22 rfl rfl (by simp) rfl ?_
  rintro v24 L24 ⟨J24,d2,a2,b2,rfl,rfl,hR2⟩
  change At _ _ _ [J24,N5,J21,N2,R] _
  refine aL (aV rfl) (.cons rfl .nil) (FWriteTx hk (fun hf=>sz_of (B:=300000) (by decide) hf (wIts_form hk hR2.ac c1 c2 c3 c4)) hR2 (Nat.le_trans (wIts_form hk hR2.ac c1 c2 c3 c4) (by decide))) Try.func24 rfl rfl (by simp) rfl ?_
  rintro v25 L25 (⟨M25,pw,cw,hfit,rfl,rfl,rw25⟩|⟨hfit,rfl,rfl⟩)
  ·change At _ _ _ [M25,J24,N5,J21,N2,R] _
   refine aD (aC rfl) rfl rfl (aI (aC rfl) rfl rfl rfl (aI (aC rfl) rfl rfl rfl (aE (aC rfl) rfl rfl (aE (aC rfl) rfl rfl (aA (At.sub (L':= [M25,N5,J21,R]) (.cons_cons _ (.cons _ (.cons_cons _ (.cons_cons _ (.cons _ (.cons_cons _ (.slnil))))))) (aB (jk_3 ?_ (.refl _) ⟨0,pw,_,cw,M25,rfl,rfl,.inr ⟨hfit,rfl,rw25⟩⟩))))))))
   exact .cons (by first|exact bI rfl (by omega)|rfl) (.cons (by first|exact bI rfl (by omega)|rfl) (.cons (by first|exact bI rfl (by omega)|rfl) (.cons (by first|exact bI rfl (by omega)|rfl) .nil)))
  change At _ _ _ [J24,N5,J21,N2,R] _
  refine aD (aC rfl) rfl rfl (aI (aC rfl) rfl rfl rfl (aI (aC rfl) rfl rfl rfl (aE (aC rfl) rfl rfl (aE (aC rfl) rfl rfl (aA (At.empty (At.sub (L':= [nilH,N5,J21,R]) (.cons_cons _ (.cons _ (.cons_cons _ (.cons_cons _ (.cons _ (.cons_cons _ (.slnil))))))) (aB (jk_3 ?_ (.refl _) ⟨1,none,0,0,nilH,rfl,rfl,.inl (by decide)⟩)))))))))
  exact .cons (by first|exact bI rfl (by omega)|rfl) (.cons (by first|exact bI rfl (by omega)|rfl) (.cons (by first|exact bI rfl (by omega)|rfl) (.cons (by first|exact bI rfl (by omega)|rfl) .nil)))
 rintro _ _ ⟨e25,pw,bw,cw,MB,rfl,rfl,hor⟩
 refine s_3 (At.seq fun _ s_4=>At.meet (fun fr_ hp_=>fr_= [(1,.slice ao n cap)]∧hp_= [R]∧(True)) ?_ (fun K4_ jk_4=>?_))
 rotate_left
 ·skip
  refine At.seq fun _ s_5=>At.region (aD (aC rfl) rfl rfl (op_eql (aC rfl) rfl rfl rfl (aA (aB (s_5 (aN rfl (fun c29=>?_) (fun c29=>?_)))))))
  ·refine At.knowT (d:=29) rfl c29 ?_
   obtain⟨hfit,rfl,rw25⟩:=hor.resolve_left (not_not_intro c29)
   refine At.seq fun _ s_6=>At.region (aD (aC rfl) rfl rfl (aL (aV rfl) (.cons rfl .nil) (FReadTx_t rw25.rsl (Nat.le_trans (txB_len (wIts_form hk hR1.ac c1 c2 c3 c4)) (by decide)) (tx_there hk hfit hR1.ac (Nat.lt_of_le_of_lt (wIts_form hk hR1.ac c1 c2 c3 c4) (by decide)))) Try.func27 rfl rfl (by simp) rfl ?_))
   rintro v32 L32 ⟨NI,JI,d3,a3,b3,rfl,rfl,⟨w1,w2,w3⟩,hR3⟩
   change At _ _ _ [NI,JI,MB,N5,J21,R] _
   refine aD (aC rfl) rfl rfl (aI (aC rfl) rfl rfl rfl (aI (aC rfl) rfl rfl rfl (aR (aV rfl) ze58 rfl (fun N8 b8 B8=>?_))))
   change Blk N8 b8 _ z58 at B8
   refine aG (nxl rfl) sz58 rfl rfl rfl (hlq _ _ _) (TxM.one w1 w2 w3) B8 (by rw [hlq,z58_len];exact Nat.le_refl _) sel0 (fun N8 B8=>?_)
   rw [aW (by rw [hlq,z58_len])]at B8
   refine aE (aC rfl) rfl rfl (aA (aB (s_6 (At.seq fun _ s_7=>At.region (aD (aC rfl) rfl rfl (op_neq (aC rfl) rfl rfl rfl (aD (aC rfl) rfl rfl (bS (d:=37) rfl (fun g37=>?_) (fun g37=>?_)))))))))
   ·exact absurd rfl g37
   refine aJ (ds:=q.cells d1 a1 b1) (aZ rfl rfl rfl rfl) ag58 rfl B5 (by exact tk_all (hlq _ _ _)) (by exact hlq _ _ _) mem4 rfl ?_
   refine aJ (ds:=q.cells d3 a3 b3) (aZ rfl rfl rfl rfl) ag58 rfl B8 (by exact tk_all (hlq _ _ _)) (by exact hlq _ _ _) aO rfl ?_
   refine aL (nxga rfl rfl rfl rfl) (.cons rfl (.cons rfl .nil)) (Fn.overJ (Ns:= [J21,NI,JI]) fun K hK=>(FSame_b hk (hR1.le (hK _ (by simp))) (hR3 K (hK _ (by simp)) (hK _ (by simp)))).dup) Try.func26 rfl rfl (by simp) rfl ?_
   rintro v40 L40 ⟨rfl,rfl⟩
   change At _ _ _ [N8,NI,JI,MB,N5,J21,R] _
   refine op_not (aZ rfl rfl rfl rfl) rfl rfl (bO (aC rfl) rfl rfl rfl (aA (aB (s_7 (At.condF rfl (At.skip (At.sub (L':= [R]) (.cons _ (.cons _ (.cons _ (.cons _ (.cons _ (.cons _ (.cons_cons _ (.slnil)))))))) (aB (jk_4 ?_ (.refl _) ⟨rfl,rfl,trivial⟩)))))))))
   exact .cons (by first|exact bI rfl (by omega)|rfl) .nil
  refine bX (d:=29) rfl c29 (At.skip (At.sub (L':= [R]) (.cons _ (.cons _ (.cons _ (.cons_cons _ (.slnil))))) (aB (jk_4 ?_ (.refl _) ⟨rfl,rfl,trivial⟩))))
  exact .cons (by first|exact bI rfl (by omega)|rfl) .nil
 rintro _ _ ⟨rfl,rfl,ht⟩
 refine s_4 (At.seq fun _ s_8=>At.region (aD (aC rfl) rfl rfl (aL (aV rfl) (.cons rfl (.cons rfl .nil)) ((KTwin_f hr 8000 8000 rfl (by decide)).liftB hNR) Try.func8 rfl rfl (by simp) rfl ?_)))
 rintro v44 L44 ⟨NC,pc,cc,rfl,rfl,rc⟩
 change At _ _ _ [NC,R] _
 rw [hlc]at rc⊢;have sc:=rc.rsl
 refine aE (aC rfl) rfl rfl (aA (aB (s_8 (At.seq fun _ s_9=>At.meet (fun fr_ hp_=> ∃(e48:Int) (b11:Nat) (cs11:List Value) (NU JU N11:Heaplet),fr_= [(10,.slice pc lc.length cc),(11,.pointer (some ⟨b11,0,none⟩)),(7,.int .i64 e48)]∧hp_= [NU,JU,N11,NC,R]∧(Blk N11 b11 58 cs11)∧(e48≠0∨ ∃mu du xu yu zu,cs11=TxM.cells mu du xu yu∧readTxE lc=.ok mu∧mu.Ok∧TxS zu NU JU mu du xu yu)) ?_ (fun K9_ jk_9=>?_)))))
 rotate_left
 ·skip
  refine At.region (aD (aC rfl) rfl rfl (aL (aV rfl) (.cons rfl (.cons rfl .nil)) (KTwin_f rc.rsl 8000 8000 rfl (by decide)) Try.func8 rfl rfl (by simp) rfl ?_))
  rintro v47 L47 ⟨N47,p47,c47,rfl,rfl,r47⟩
  change At _ _ _ [N47,NC,R] _
  rw [hct]at r47⊢
  refine aL (aV rfl) (.cons rfl .nil) (FReadTx r47.rsl (by omega)) Try.func27 rfl rfl (by simp) rfl ?_
  rintro v48 L48 (⟨e,hne,rfl,rfl,her⟩|⟨NU,JU,mu,du,xu,yu,tu,zu,rfl,rfl,hrd,hko,hS,hIO⟩)
  ·change At _ _ _ [N47,NC,R] _
   refine aD (aC rfl) rfl rfl (aI (aC rfl) rfl rfl rfl (aI (aC rfl) rfl rfl rfl (aR (aV rfl) ze58 rfl (fun N11 b11 B11=>?_))))
   change Blk N11 b11 _ z58 at B11
   refine aG (nxl rfl) sz58 rfl rfl rfl (by first|exact z58_len|exact TxM.cells_len hko _ _ _) (by first|exact z_tx1|exact TxM.one w1 w2 w3) B11 (by first|exact Nat.le_refl _|(rw [TxM.cells_len hko,z58_len];exact Nat.le_refl _)) sel0 (fun N11 B11=>?_)
   first|rw [aW (by rfl)]at B11|rw [aW (by rw [TxM.cells_len hko,z58_len])]at B11
   refine aE (aC rfl) rfl rfl (aA (At.empty (At.empty (At.sub (L':= [nilH,nilH,N11,NC,R]) (.cons_cons _ (.cons_cons _ (.cons_cons _ (.cons _ (.cons_cons _ (.cons_cons _ (.slnil))))))) (At.perm bJ (At.perm bJ (At.perm bJ (At.perm aY (At.perm bJ (aB (jk_9 ?_ (.refl _) ⟨e,b11,_,nilH,nilH,N11,rfl,rfl,B11,.inl (by omega)⟩)))))))))))
   exact .cons (by first|exact bI rfl (by omega)|rfl) (.cons (by first|exact bI rfl (by omega)|rfl) (.cons (by first|exact bI rfl (by omega)|rfl) .nil))
  change At _ _ _ [NU,JU,N47,NC,R] _
  obtain⟨w1,w2,w3⟩:=hS.one3
  refine aD (aC rfl) rfl rfl (aI (aC rfl) rfl rfl rfl (aI (aC rfl) rfl rfl rfl (aR (aV rfl) ze58 rfl (fun N11 b11 B11=>?_))))
  change Blk N11 b11 _ z58 at B11
  refine aG (nxl rfl) sz58 rfl rfl rfl (by first|exact z58_len|exact TxM.cells_len hko _ _ _) (by first|exact z_tx1|exact TxM.one w1 w2 w3) B11 (by first|exact Nat.le_refl _|(rw [TxM.cells_len hko,z58_len];exact Nat.le_refl _)) sel0 (fun N11 B11=>?_)
  first|rw [aW (by rfl)]at B11|rw [aW (by rw [TxM.cells_len hko,z58_len])]at B11
  refine aE (aC rfl) rfl rfl (aA (At.sub (L':= [N11,NU,JU,NC,R]) (.cons_cons _ (.cons_cons _ (.cons_cons _ (.cons _ (.cons_cons _ (.cons_cons _ (.slnil))))))) (At.perm bJ (At.perm bJ (At.perm bB (At.perm bJ (At.perm bJ (aB (jk_9 ?_ (.refl _) ⟨0,b11,_,NU,JU,N11,rfl,rfl,B11,.inr ⟨mu,du,xu,yu,zu,rfl,hrd,hko,hS⟩⟩)))))))))
  exact .cons (by first|exact bI rfl (by omega)|rfl) (.cons (by first|exact bI rfl (by omega)|rfl) (.cons (by first|exact bI rfl (by omega)|rfl) .nil))
 rintro _ _ ⟨e48,b11,cs11,NU,JU,N11,rfl,rfl,B11,hor⟩
 refine s_9 (At.seq fun _ s_10=>At.meet (fun fr_ hp_=>fr_= [(10,.slice pc lc.length cc)]∧hp_= [NC,R]∧(True)) ?_ (fun K10_ jk_10=>?_))
 rotate_left
 ·skip
  refine At.seq fun _ s_11=>At.region (aD (aC rfl) rfl rfl (op_eql (aC rfl) rfl rfl rfl (aA (aB (s_11 (aN rfl (fun c52=>?_) (fun c52=>?_)))))))
  ·refine At.knowT (d:=52) rfl c52 ?_
   obtain⟨mu,du,xu,yu,zu,rfl,hrd,hko,hS⟩:=hor.resolve_left (not_not_intro c52)
   obtain⟨hfit,hacc,htb,hfl⟩:=tx_back (by omega) hrd
   refine At.seq fun _ s_12=>At.region (aJ (ds:=_) (aC rfl) ag58 rfl B11 (by exact tk_all (TxM.cells_len hko _ _ _)) (by exact TxM.cells_len hko _ _ _) mem2 rfl ?_)
   refine aL (aV rfl) (.cons rfl .nil) (Fn.overJ (Ns:= [NU,JU]) fun K hK=>FWriteTx_ok hko (sz_of (B:=8000) (by decide) hfit (by omega)) (hS.r (hK _ (by simp)) (hK _ (by simp))) hfit (by omega)) Try.func24 rfl rfl (by simp) rfl ?_
   rintro v55 L55 ⟨M55,p55,c55,rfl,rfl,r55⟩
   change At _ _ _ [M55,NU,JU,N11,NC,R] _
   rw [htb]at r55⊢;have s55:=r55.rsl
   refine aD (aC rfl) rfl rfl (aI (aC rfl) rfl rfl rfl (aI (aC rfl) rfl rfl rfl (aE (aC rfl) rfl rfl (aE (aC rfl) rfl rfl (aA (aB (s_12 (At.seq fun _ s_13=>At.region (aD (aC rfl) rfl rfl (op_neq (aC rfl) rfl rfl rfl (aD (aC rfl) rfl rfl (bS (d:=60) rfl (fun g60=>?_) (fun g60=>?_)))))))))))))
   ·exact absurd rfl g60
   refine aD (aZ rfl rfl rfl rfl) rfl rfl (op_str (aZ rfl rfl rfl rfl) Try.underlying27 Try.underlying5 Try.underlying9 rfl (by assumption) (by first|exact aO|exact bK|exact mem2|exact mem3|exact mem4|exact mem5|exact mem6|exact mem7|exact mem8|exact mem9) rfl ?_)
   refine aD (aZ rfl rfl rfl rfl) rfl rfl (op_str (aZ rfl rfl rfl rfl) Try.underlying27 Try.underlying5 Try.underlying9 rfl (by assumption) (by first|exact aO|exact bK|exact mem2|exact mem3|exact mem4|exact mem5|exact mem6|exact mem7|exact mem8|exact mem9) rfl ?_)
   refine op_neS (aZ rfl rfl rfl rfl) rfl rfl rfl (bO (aC rfl) rfl rfl rfl (aA (aB (s_13 (aN rfl (fun c66=>?_) (fun c66=>?_))))))
   ·exact absurd rfl c66
   refine bX (d:=66) rfl c66 (At.skip (At.sub (L':= [NC,R]) (.cons _ (.cons _ (.cons _ (.cons _ (.cons_cons _ (.cons_cons _ (.slnil))))))) (aB (jk_10 ?_ (.refl _) ⟨rfl,rfl,trivial⟩))))
   exact .cons (by first|exact bI rfl (by omega)|rfl) .nil
  refine bX (d:=52) rfl c52 (At.skip (At.sub (L':= [NC,R]) (.cons _ (.cons _ (.cons _ (.cons_cons _ (.cons_cons _ (.slnil)))))) (aB (jk_10 ?_ (.refl _) ⟨rfl,rfl,trivial⟩))))
  exact .cons (by first|exact bI rfl (by omega)|rfl) .nil
 rintro _ _ ⟨rfl,rfl,ht⟩
 refine s_10 (At.seq fun _ s_14=>At.meet (fun fr_ hp_=> ∃(e70:Int) (b14:Nat) (cs14:List Value) (NH N14:Heaplet),fr_= [(10,.slice pc lc.length cc),(14,.pointer (some ⟨b14,0,none⟩)),(7,.int .i64 e70)]∧hp_= [NH,N14,NC,R]∧(Blk N14 b14 76 cs14)∧(e70≠0∨ ∃(hh:HdM) (ea:Option Addr) (ec:Nat),cs14=hh.cells (.slice ea hh.ex.length ec)∧readHdE lc=.ok hh∧hh.Ok∧okF hh.fi∧RSl NH 1 ea hh.ex.length ec (u8s hh.ex))) ?_ (fun K14_ jk_14=>?_))
 rotate_left
 ·skip
  refine At.region (aD (aC rfl) rfl rfl (aL (aV rfl) (.cons rfl (.cons rfl .nil)) (KTwin_f rc.rsl 8000 8000 rfl (by decide)) Try.func8 rfl rfl (by simp) rfl ?_))
  rintro v69 L69 ⟨N69,p69,c69,rfl,rfl,r69⟩
  change At _ _ _ [N69,NC,R] _
  rw [hct]at r69⊢
  refine aL (aV rfl) (.cons rfl .nil) (FReadHeader r69.rsl (by omega)) Try.func28 rfl rfl (by simp) rfl ?_
  rintro v70 L70 (⟨e,hne,rfl,rfl,her⟩|⟨NH,hh,vh,th,zh,rfl,rfl,hrd,hko,hfi,hS,hIO⟩)
  ·change At _ _ _ [N69,NC,R] _
   refine aD (aC rfl) rfl rfl (aI (aC rfl) rfl rfl rfl (aI (aC rfl) rfl rfl rfl (aR (aV rfl) ze76 rfl (fun N14 b14 B14=>?_))))
   change Blk N14 b14 _ z76 at B14
   refine aG (nxl rfl) sz76 rfl rfl rfl (by first|exact z76_len|exact HdM.len hko _) (by first|exact z_hd1|exact HdM.one rfl) B14 (by first|exact Nat.le_refl _|(rw [HdM.len hko,z76_len];exact Nat.le_refl _)) sel0 (fun N14 B14=>?_)
   first|rw [aW (by rfl)]at B14|rw [aW (by rw [HdM.len hko,z76_len])]at B14
   refine aE (aC rfl) rfl rfl (aA (At.empty (At.sub (L':= [nilH,N14,NC,R]) (.cons_cons _ (.cons_cons _ (.cons _ (.cons_cons _ (.cons_cons _ (.slnil)))))) (aB (jk_14 ?_ (.refl _) ⟨e,b14,_,nilH,N14,rfl,rfl,B14,.inl (by omega)⟩)))))
   exact .cons (by first|exact bI rfl (by omega)|rfl) (.cons (by first|exact bI rfl (by omega)|rfl) (.cons (by first|exact bI rfl (by omega)|rfl) .nil))
  change At _ _ _ [NH,N69,NC,R] _
  obtain⟨ea,ec,rfl,hex,_⟩:=hS
  refine aD (aC rfl) rfl rfl (aI (aC rfl) rfl rfl rfl (aI (aC rfl) rfl rfl rfl (aR (aV rfl) ze76 rfl (fun N14 b14 B14=>?_))))
  change Blk N14 b14 _ z76 at B14
  refine aG (nxl rfl) sz76 rfl rfl rfl (by first|exact z76_len|exact HdM.len hko _) (by first|exact z_hd1|exact HdM.one rfl) B14 (by first|exact Nat.le_refl _|(rw [HdM.len hko,z76_len];exact Nat.le_refl _)) sel0 (fun N14 B14=>?_)
  first|rw [aW (by rfl)]at B14|rw [aW (by rw [HdM.len hko,z76_len])]at B14
  refine aE (aC rfl) rfl rfl (aA (At.sub (L':= [N14,NH,NC,R]) (.cons_cons _ (.cons_cons _ (.cons _ (.cons_cons _ (.cons_cons _ (.slnil)))))) (At.perm aY (At.perm aY (At.perm bB (At.perm aY (aB (jk_14 ?_ (.refl _) ⟨0,b14,_,NH,N14,rfl,rfl,B14,.inr ⟨hh,ea,ec,rfl,hrd,hko,hfi,hex⟩⟩))))))))
  exact .cons (by first|exact bI rfl (by omega)|rfl) (.cons (by first|exact bI rfl (by omega)|rfl) (.cons (by first|exact bI rfl (by omega)|rfl) .nil))
 rintro _ _ ⟨e70,b14,cs14,NH,N14,rfl,rfl,B14,hor⟩
 refine s_14 (At.seq fun _ s_15=>At.meet (fun fr_ hp_=>fr_= [(10,.slice pc lc.length cc)]∧hp_= [NC,R]∧(True)) ?_ (fun K15_ jk_15=>?_))
 rotate_left
 ·skip
  refine At.seq fun _ s_16=>At.region (aD (aC rfl) rfl rfl (op_eql (aC rfl) rfl rfl rfl (aA (aB (s_16 (aN rfl (fun c74=>?_) (fun c74=>?_)))))))
  ·refine At.knowT (d:=74) rfl c74 ?_
   obtain⟨hh,ea,ec,rfl,hrd,hko,hfi,hex⟩:=hor.resolve_left (not_not_intro c74)
   have hbk:=hd_back (by omega) hrd
   have hxl:=hd_ex_len hfi
   refine At.seq fun _ s_17=>At.region (aJ (ds:=_) (aC rfl) ag76 rfl B14 (by exact tk_all (HdM.len hko _)) (by exact HdM.len hko _) bK rfl ?_)
   refine aL (aV rfl) (.cons rfl .nil) (FWriteHeader_ok hko hex hfi (by rw [hbk]at hxl;omega)) Try.func32 rfl rfl (by simp) rfl ?_
   rintro v77 L77 ⟨M77,p77,c77,rfl,rfl,r77⟩
   change At _ _ _ [M77,NH,N14,NC,R] _
   rw [hbk]at r77⊢
   refine aD (aC rfl) rfl rfl (aI (aC rfl) rfl rfl rfl (aI (aC rfl) rfl rfl rfl (aE (aC rfl) rfl rfl (aE (aC rfl) rfl rfl (aA (aB (s_17 (At.seq fun _ s_18=>At.region (aD (aC rfl) rfl rfl (op_neq (aC rfl) rfl rfl rfl (aD (aC rfl) rfl rfl (bS (d:=82) rfl (fun g82=>?_) (fun g82=>?_)))))))))))))
   ·exact absurd rfl g82
   refine aD (aZ rfl rfl rfl rfl) rfl rfl (op_str (aZ rfl rfl rfl rfl) Try.underlying27 Try.underlying5 Try.underlying9 rfl (by assumption) (by first|exact aO|exact bK|exact mem2|exact mem3|exact mem4|exact mem5|exact mem6|exact mem7|exact mem8|exact mem9) rfl ?_)
   refine aD (aZ rfl rfl rfl rfl) rfl rfl (op_str (aZ rfl rfl rfl rfl) Try.underlying27 Try.underlying5 Try.underlying9 rfl (by assumption) (by first|exact aO|exact bK|exact mem2|exact mem3|exact mem4|exact mem5|exact mem6|exact mem7|exact mem8|exact mem9) rfl ?_)
   refine op_neS (aZ rfl rfl rfl rfl) rfl rfl rfl (bO (aC rfl) rfl rfl rfl (aA (aB (s_18 (aN rfl (fun c88=>?_) (fun c88=>?_))))))
   ·exact absurd rfl c88
   refine bX (d:=88) rfl c88 (At.skip (At.sub (L':= [NC,R]) (.cons _ (.cons _ (.cons _ (.cons_cons _ (.cons_cons _ (.slnil)))))) (aB (jk_15 ?_ (.refl _) ⟨rfl,rfl,trivial⟩))))
   exact .cons (by first|exact bI rfl (by omega)|rfl) .nil
  refine bX (d:=74) rfl c74 (At.skip (At.sub (L':= [NC,R]) (.cons _ (.cons _ (.cons_cons _ (.cons_cons _ (.slnil))))) (aB (jk_15 ?_ (.refl _) ⟨rfl,rfl,trivial⟩))))
  exact .cons (by first|exact bI rfl (by omega)|rfl) .nil
 rintro _ _ ⟨rfl,rfl,ht⟩
 refine s_15 (At.seq fun _ s_19=>At.meet (fun fr_ hp_=> ∃(e92:Int) (b17:Nat) (csb:List Value) (NB NT NK NO NW N17:Heaplet),fr_= [(10,.slice pc lc.length cc),(17,.pointer (some ⟨b17,0,none⟩)),(7,.int .i64 e92)]∧hp_= [NB,NT,NK,NO,NW,N17,NC,R]∧(Blk N17 b17 82 csb)∧(e92≠0∨ ∃mb,readBlkE lc=.ok mb∧BlkS NB NT NK NO NW mb csb)) ?_ (fun K19_ jk_19=>?_))
 rotate_left
 ·skip
  refine At.region (aD (aC rfl) rfl rfl (aL (aV rfl) (.cons rfl (.cons rfl .nil)) (KTwin_f rc.rsl 8000 8000 rfl (by decide)) Try.func8 rfl rfl (by simp) rfl ?_))
  rintro v91 L91 ⟨N91,p91,c91,rfl,rfl,r91⟩
  change At _ _ _ [N91,NC,R] _
  rw [hct]at r91⊢
  refine aL (aV rfl) (.cons rfl .nil) (FReadBlock r91.rsl (by omega)) Try.func29 rfl rfl (by simp) rfl ?_
  rintro v92 L92 (⟨e,hne,rfl,rfl,her⟩|⟨NB,NT,NK,NO,NW,mb,csb,rfl,rfl,hrd,hS⟩)
  ·change At _ _ _ [N91,NC,R] _
   refine aD (aC rfl) rfl rfl (aI (aC rfl) rfl rfl rfl (aI (aC rfl) rfl rfl rfl (aR (aV rfl) ze82 rfl (fun N17 b17 B17=>?_))))
   change Blk N17 b17 _ z82 at B17
   refine aG (nxl rfl) sz82 rfl rfl rfl (by first|exact z82_len|exact hcl) (by first|exact z_bk1|exact hc1) B17 (by first|exact Nat.le_refl _|(rw [hcl,z82_len];exact Nat.le_refl _)) sel0 (fun N17 B17=>?_)
   first|rw [aW (by rfl)]at B17|rw [aW (by rw [hcl,z82_len])]at B17
   refine aE (aC rfl) rfl rfl (aA (At.empty (At.empty (At.empty (At.empty (At.empty (At.sub (L':= [nilH,nilH,nilH,nilH,nilH,N17,NC,R]) (.cons_cons _ (.cons_cons _ (.cons_cons _ (.cons_cons _ (.cons_cons _ (.cons_cons _ (.cons _ (.cons_cons _ (.cons_cons _ (.slnil)))))))))) (At.perm sel7 (At.perm sel7 (At.perm sel7 (At.perm aY (At.perm bJ (At.perm bL (At.perm bP (At.perm sel7 (aB (jk_19 ?_ (.refl _) ⟨e,b17,_,nilH,nilH,nilH,nilH,nilH,N17,rfl,rfl,B17,.inl (by omega)⟩)))))))))))))))))
   exact .cons (by first|exact bI rfl (by omega)|rfl) (.cons (by first|exact bI rfl (by omega)|rfl) (.cons (by first|exact bI rfl (by omega)|rfl) .nil))
  change At _ _ _ [NB,NT,NK,NO,NW,N91,NC,R] _
  obtain⟨hcl,hc1⟩:=hS.len
  refine aD (aC rfl) rfl rfl (aI (aC rfl) rfl rfl rfl (aI (aC rfl) rfl rfl rfl (aR (aV rfl) ze82 rfl (fun N17 b17 B17=>?_))))
  change Blk N17 b17 _ z82 at B17
  refine aG (nxl rfl) sz82 rfl rfl rfl (by first|exact z82_len|exact hcl) (by first|exact z_bk1|exact hc1) B17 (by first|exact Nat.le_refl _|(rw [hcl,z82_len];exact Nat.le_refl _)) sel0 (fun N17 B17=>?_)
  first|rw [aW (by rfl)]at B17|rw [aW (by rw [hcl,z82_len])]at B17
  refine aE (aC rfl) rfl rfl (aA (At.sub (L':= [N17,NB,NT,NK,NO,NW,NC,R]) (.cons_cons _ (.cons_cons _ (.cons_cons _ (.cons_cons _ (.cons_cons _ (.cons_cons _ (.cons _ (.cons_cons _ (.cons_cons _ (.slnil)))))))))) (At.perm sel7 (At.perm sel7 (At.perm bB (At.perm sel7 (At.perm sel7 (At.perm sel7 (At.perm sel7 (At.perm sel7 (aB (jk_19 ?_ (.refl _) ⟨0,b17,_,NB,NT,NK,NO,NW,N17,rfl,rfl,B17,.inr ⟨mb,hrd,hS⟩⟩))))))))))))
  exact .cons (by first|exact bI rfl (by omega)|rfl) (.cons (by first|exact bI rfl (by omega)|rfl) (.cons (by first|exact bI rfl (by omega)|rfl) .nil))
 rintro _ _ ⟨e92,b17,csb,NB,NT,NK,NO,NW,N17,rfl,rfl,B17,hor⟩
 refine s_19 (At.seq fun _ s_20=>At.meet (fun fr_ hp_=>fr_= [(10,.slice pc lc.length cc)]∧hp_= [NC,R]∧(True)) ?_ (fun K20_ jk_20=>?_))
 rotate_left
 ·skip
  refine At.seq fun _ s_21=>At.region (aD (aC rfl) rfl rfl (op_eql (aC rfl) rfl rfl rfl (aA (aB (s_21 (aN rfl (fun c96=>?_) (fun c96=>?_)))))))
  ·refine At.knowT (d:=96) rfl c96 ?_
   obtain⟨mb,hrd,hS⟩:=hor.resolve_left (not_not_intro c96)
   obtain⟨hcl,hc1⟩:=hS.len
   obtain⟨hof,hoo⟩:=hS.ok
   obtain⟨hwb,hwf⟩:=blk_back (by omega) hrd hof hoo
   refine At.seq fun _ s_22=>At.region (aJ (ds:=_) (aC rfl) ag82 rfl B17 (by exact tk_all hcl) (by exact hcl) mem5 rfl ?_)
   refine aL (aV rfl) (.cons rfl .nil) (Fn.overJ (Ns:= [NB,NT,NK,NO,NW]) fun K hK=>FWriteBlock_t (hS.r (hK _ (by simp)) (hK _ (by simp)) (hK _ (by simp)) (hK _ (by simp)) (hK _ (by simp))).1 (readSz hrd hll) (fun its hi=>by rw [hwf its hi];omega) hwb) Try.func33 rfl rfl (by simp) rfl ?_
   rintro v99 L99 ⟨M99,p99,c99,rfl,rfl,r99⟩
   change At _ _ _ [M99,NB,NT,NK,NO,NW,N17,NC,R] _
   refine aD (aC rfl) rfl rfl (aI (aC rfl) rfl rfl rfl (aI (aC rfl) rfl rfl rfl (aE (aC rfl) rfl rfl (aE (aC rfl) rfl rfl (aA (aB (s_22 (At.seq fun _ s_23=>At.region (aD (aC rfl) rfl rfl (op_neq (aC rfl) rfl rfl rfl (aD (aC rfl) rfl rfl (bS (d:=104) rfl (fun g104=>?_) (fun g104=>?_)))))))))))))
   ·exact absurd rfl g104
   refine aD (aZ rfl rfl rfl rfl) rfl rfl (op_str (aZ rfl rfl rfl rfl) Try.underlying27 Try.underlying5 Try.underlying9 rfl (by assumption) (by first|exact aO|exact bK|exact mem2|exact mem3|exact mem4|exact mem5|exact mem6|exact mem7|exact mem8|exact mem9) rfl ?_)
   refine aD (aZ rfl rfl rfl rfl) rfl rfl (op_str (aZ rfl rfl rfl rfl) Try.underlying27 Try.underlying5 Try.underlying9 rfl (by assumption) (by first|exact aO|exact bK|exact mem2|exact mem3|exact mem4|exact mem5|exact mem6|exact mem7|exact mem8|exact mem9) rfl ?_)
   refine op_neS (aZ rfl rfl rfl rfl) rfl rfl rfl (bO (aC rfl) rfl rfl rfl (aA (aB (s_23 (aN rfl (fun c110=>?_) (fun c110=>?_))))))
   ·exact absurd rfl c110
   refine bX (d:=110) rfl c110 (At.skip (At.sub (L':= [NC,R]) (.cons _ (.cons _ (.cons _ (.cons _ (.cons _ (.cons _ (.cons _ (.cons_cons _ (.cons_cons _ (.slnil)))))))))) (aB (jk_20 ?_ (.refl _) ⟨rfl,rfl,trivial⟩))))
   exact .cons (by first|exact bI rfl (by omega)|rfl) .nil
  refine bX (d:=96) rfl c96 (At.skip (At.sub (L':= [NC,R]) (.cons _ (.cons _ (.cons _ (.cons _ (.cons _ (.cons _ (.cons_cons _ (.cons_cons _ (.slnil))))))))) (aB (jk_20 ?_ (.refl _) ⟨rfl,rfl,trivial⟩))))
  exact .cons (by first|exact bI rfl (by omega)|rfl) .nil
 rintro _ _ ⟨rfl,rfl,ht⟩
 refine s_20 (At.seq fun _ s_24=>At.region (aL (aV rfl) .nil (BWakes_f) Try.func13 rfl rfl (by simp) rfl ?_))
 rintro v111 L111 ⟨rfl,rfl⟩
 change At _ _ _ [NC,R] _
 refine aE (aC rfl) rfl rfl (aA (aB (s_24 (At.ret ((At.sub (L':= [R]) (.cons _ (.cons_cons _ (.slnil))) (bF (L1:= []) rfl (.tmp rfl .nil) (.refl _) (.refl _) ?_)))))))
 exact⟨rfl,rfl⟩
end
end Go.Proofs.Ytljacjjeinmfnaa
/- From what an argument reads as to the engine's facts; what is read again behind the call. No condition. -/
namespace Go.Proofs.Ytljacjjeinmfnaa
open Go Go.RowKit Go.ChangeShapes Go.WideShapes Go.Deep
theorem add_off (a:Addr) (n:Nat):(a.add n).off=a.off+n:=by unfold Addr.add;split<;>simp_all
theorem add_block (a:Addr) (n:Nat):(a.add n).block=a.block:=by unfold Addr.add;split<;>rfl
theorem cellOf_whole {w:World} {a:Addr} {v:Value} (h:w.cell? a=some v):a.spot=none∧cellOf (whole w) a.block a.off=some v:=by
 unfold World.cell? at h
 unfold cellOf whole
 split at h
 ·rename_i c t fr e
  split at h
  ·cases h
  ·rename_i hs
   rw [e]
   exact⟨by simpa using hs,h⟩
 ·cases h
theorem rng_whole {w:World} {a:Addr} {base n size:Nat} {C:Nat→List Value} (h: ∀i,i<n→w.cells? base (a.add (i*size)) size=some (C i)):
 Rng (whole w) a.block a.off ((List.range n).flatMap C)∧((List.range n).flatMap C).length=n*size:=by
 induction n with
 |zero=>exact⟨fun i hi=>by simp at hi,by simp⟩
 |succ n ih=>
  obtain⟨h1,h2⟩:=ih fun i hi=>h i (by omega)
  obtain⟨_,hl,hc⟩:=World.cells?_some (h n (by omega))
  have e:(List.range (n+1)).flatMap C=(List.range n).flatMap C++C n:=by simp [List.range_succ]
  rw [e]
  refine⟨fun i hi=>?_,by rw [List.length_append,h2,hl,Nat.succ_mul]⟩
  by_cases hlt:i<((List.range n).flatMap C).length
  ·rw [List.getElem_append_left hlt];exact h1 i hlt
  ·rw [List.length_append]at hi
   rw [List.getElem_append_right (by omega)]
   have hk:=hc (i- n*size) (by omega)
   rw [List.getElem?_eq_getElem (by omega)]at hk
   have h3:=(cellOf_whole hk).2
   have e2:((a.add (n*size)).add (i- n*size)).off=a.off+i:=by rw [add_off,add_off];omega
   rw [e2,add_block,add_block]at h3
   have e3:i- ((List.range n).flatMap C).length=i- n*size:=by rw [h2]
   simp only [e3]
   exact h3
section
variable {H : Type} {enc : TypeId × Value → H} {P : Program} {w : World} {spare : Nat → Bool} {held : Bool}
theorem open_rsl {t e:TypeId} {fuel:Nat} {cs:List Value} {x:DataW H×List MemPlace} (ht:P.underlying t=some (.slice e)) (hpos:0<P.cellsOf e) (h:DataW.trod enc P w 0 spare held fuel t cs=some x):
 ∃ao n cap C m,cs= [.slice ao n cap]∧RSl (whole w) (P.cellsOf e) ao n cap ((List.range n).flatMap C)∧(n=0∨fuel=m+1)∧
  ∀i,i<n→(C i).length=P.cellsOf e∧ ∃y,DataW.trod enc P w 0 spare held m e (C i)=some y:=by
 rcases DataW.trod_slice ht h with ⟨rfl,_⟩|⟨a,len,cap,elems,rest,n,hf,rfl,rfl,hb,hl,hm,hlen,hel,hsp,hns⟩
 ·exact⟨none,0,0,fun _=> [],0,rfl,⟨by simp,by omega,by simp [maxLen],fun h=>by omega⟩,Or.inl rfl,fun i hi=>by omega⟩
 ·obtain⟨C,hC⟩:=choose_lt (α:=List Value) (p:=fun i c=>w.cells? 0 (a.add (i*P.cellsOf e)) (P.cellsOf e)=some c∧ ∃y,DataW.trod enc P w 0 spare held n e c=some y) (n:=len) (fun i hi=>by
   have:=hel i hi
   rw [List.getElem?_eq_getElem (by omega)]at this
   obtain⟨c,h1,h2⟩:=Option.bind_eq_some_iff.1 this
   exact⟨c,h1,_,h2⟩)
  obtain⟨h1,h2⟩:=rng_whole (fun i hi=>(hC i hi).1)
  refine⟨some a,len,cap,C,n,rfl,⟨h2,hl,hm,fun h0=>?_⟩,Or.inr hf,fun i hi=>⟨(World.cells?_some (hC i hi).1).2.1,(hC i hi).2⟩⟩
  obtain⟨_,hl0,hc0⟩:=World.cells?_some (hC 0 h0).1
  have hk:=hc0 0 hpos
  rw [List.getElem?_eq_getElem (by omega)]at hk
  have hs:=(cellOf_whole hk).1
  have hs':a.spot=none:=by simpa [Addr.add]using hs
  refine⟨a.block,a.off,?_,h1⟩
  cases a;simp at hs';subst hs';rfl
/-- The bytes that a list of cells holds. -/
def u8of:Value→UInt8
 |.int _ q=>UInt8.ofNat q.toNat
 |_=>0
theorem open_u8 {t e:TypeId} {fuel:Nat} {cs:List Value} {x:DataW H×List MemPlace} (ht:P.underlying t=some (.slice e)) (he:P.underlying e=some (.int .u8)) (hc:P.cellsOf e=1) (h:DataW.trod enc P w 0 spare held fuel t cs=some x):
 ∃ao n cap bs,cs= [.slice ao n cap]∧RSl (whole w) 1 ao n cap (u8s bs):=by
 obtain⟨ao,n,cap,C,m,rfl,hr,_,hC⟩:=open_rsl ht (by omega) h
 refine⟨ao,n,cap,((List.range n).flatMap C).map u8of,rfl,?_⟩
 have e:u8s (((List.range n).flatMap C).map u8of)=(List.range n).flatMap C:=by
  unfold u8s
  rw [List.map_map]
  refine(List.map_congr_left (g:=id) fun v hv=>?_).trans (List.map_id _)
  obtain⟨i,hi,hv⟩:=List.mem_flatMap.1 hv
  obtain⟨hl,y,hy⟩:=hC i (List.mem_range.1 hi)
  obtain⟨q,hq,_,hw⟩:=DataW.trod_int he hy
  rw [hq]at hv
  obtain rfl:=List.mem_singleton.1 hv
  have hb:0≤q∧q≤255:=by simpa [Lit.wf,IntKind.min,IntKind.max,IntKind.signed,IntKind.bits]using hw
  simp only [Function.comp,u8of,vb,id]
  have h8:(UInt8.ofNat q.toNat).toNat=q.toNat:=by rw [UInt8.toNat_ofNat'];omega
  rw [h8]
  congr 1
  omega
 rw [e, ←hc]
 exact hr
theorem stays_all {W W':World} {sp:Nat→Bool} (hl:laidOutB P=true): ∀ {ts:List TypeId} {vs:List Value} {ds:List (DataW H)} {ps:List MemPlace},(∀t∈ts,P.readableRec t=true∧t<P.types.size)→
 DataW.TrodAll enc P W 0 (fun _=>true) true ts vs ds ps→(∀p∈ps,W.sameAt W' p)→(∀p∈ps,sp p.block=true)→DataW.TrodAll enc P W' 0 sp true ts vs ds ps
 | [],[],[],_,_,h,_,_=>h
 |t::_,_::_,_::_,_,hr,⟨p,q,h1,h2,e⟩,hs,hb=>⟨p,q,
  Go.WideElems.Trod_stays hl (hr t (by simp)).1 (hr t (by simp)).2 h1 (fun x hx=>hs x (by rw [e];simp [hx])) (fun x hx=>hb x (by rw [e];simp [hx])),
  stays_all hl (fun t ht=>hr t (by simp [ht])) h2 (fun x hx=>hs x (by rw [e];simp [hx])) (fun x hx=>hb x (by rw [e];simp [hx])),e⟩
theorem sameAt_below {W W':World} (h:Below W.heap.size W W') {p:MemPlace} (hp:p.block<W.heap.size):W.sameAt W' p:=by
 cases p with
 |cell b off=>
  show W'.cell? ⟨b,off,none⟩=W.cell? ⟨b,off,none⟩
  have e:W'.heap[b]? =W.heap[b]? :=h.block b hp
  unfold World.cell?
  simp only [e]
 |map b=>exact h.block b hp
/-- A law's last step: it answered v, and all that was there is there as it was. -/
theorem law_post {f:Func} {s:ChangeSpec} {W W':World} {args:Array Value} {v:Value} {r:DataW H} {ds gs:List (DataW H)} {before:List MemPlace} {tr:TypeId}
 (hW:DataW.Whole enc P f.params.toList s.vars false W args.toList ds gs before) (hv:s.vars= [])
 (hs:s.fn H (ds++gs)= { results:= [r],args:=ds }) (hone':v.resultList 1= [v]) (hres:f.resultTypes= #[tr])
 (hr: ∀(b:Nat) (sp:Nat→Bool) (hd:Bool),DataW.Trod enc P W' b sp hd tr v r []) (hok:Value.okWide P W' .any 0 tr v)
 (hl:laidOutB P=true) (ht: ∀t∈f.params.toList,P.readableRec t=true∧t<P.types.size) (hb:Below W.heap.size W W'):
 s.post enc P f false true false false W args v W':=by
 have hlt: ∀p∈before,p.block<W.heap.size:=fun p hp=>hW.lt p hp
 have hW':=hW
 obtain⟨p,q,hA,hV,rfl,hfz,hnd⟩:=hW
 rw [hv]at hV
 obtain⟨rfl,rfl⟩:=trodVars_none hV
 simp only [List.append_nil]at hs hlt hW' hfz
 have again: ∀sp:Nat→Bool,(∀x∈p,sp x.block=true)→DataW.TrodAll enc P W' 0 sp true f.params.toList args.toList ds p:=fun sp hsp=>
  stays_all hl ht hA (fun x hx=>sameAt_below hb (hlt x hx)) hsp
 have hrl:v.resultList f.resultTypes.size= [v]:=by rw [hres];exact hone'
 have hone: ∀(b:Nat) (sp:Nat→Bool) (hd:Bool),DataW.TrodAll enc P W' b sp hd f.resultTypes.toList (v.resultList f.resultTypes.size) [r] []:=fun b sp hd=>by
  rw [hrl,hres];exact⟨[],[],hr b sp hd,rfl,rfl⟩
 have hold: ∀x∈p,(fun b=>decide (b<W.heap.size)) x.block=true:=fun x hx=>by simpa using hlt x hx
 have hvs: ∀sp:Nat→Bool,DataW.TrodVars enc P W' sp s.vars [] []:=fun sp=>by rw [hv];rfl
 refine⟨ds,[],p,[],p,[],by simpa using hW',by simp only [List.append_nil];rw [hs];exact hone _ _ _,by simp only [List.append_nil];rw [hs];exact again _ hold,by simp only [List.append_nil];rw [hs];exact hvs _,
  World.keptBut_mono (fun x hx=>⟨hx,Or.inr (Or.inl hx)⟩) (hb.frame (· ∈p)),fun _=>?_⟩
 refine⟨?_,_,_,([]++p)++ [],⟨[]++p,[],trodAll_append (again _ (fun _ _=>rfl)) (hone _ _ _),hvs _,rfl,?_,?_⟩,?_⟩
 ·intro j t r hj hr
  rw [hrl]at hr
  rw [hres]at hj
  cases j with
  |zero=>simp at hj hr;subst hj;subst hr;exact hok
  |succ j=>simp at hr
 ·intro b off hp
  have hin:MemPlace.cell b off∈p:=by simpa using hp
  rw [hb.frozen (hlt _ hin)]
  exact hfz b off hin
 ·intro ha
  cases ha
 ·intro x hx _
  simpa using hx
end
end Go.Proofs.Ytljacjjeinmfnaa
/- An address as an argument: an array of bytes. No condition. -/
namespace Go.Proofs.Ytljacjjeinmfnaa
open Go Go.RowKit Go.ChangeShapes Go.WideShapes Go.Deep
theorem bytes_of_cells: ∀cs:List Value,(∀i,i<cs.length→ ∃a:UInt8,(cs.drop i).take 1= [.int .u8 (a.toNat:Int)])→ ∃l:List UInt8,l.length=cs.length∧cs=u8s l:=by
 intro cs
 induction cs with
 |nil=>intro _;exact⟨[],rfl,rfl⟩
 |cons v t ih=>
  intro h
  obtain⟨a,ha⟩:=h 0 (Nat.zero_lt_succ _)
  obtain⟨l,hl,rfl⟩:=ih fun i hi=>by
   have:=h (i+1) (Nat.succ_lt_succ hi)
   rw [List.drop_succ_cons]at this
   exact this
  refine⟨a::l,by rw [List.length_cons,List.length_cons,hl],?_⟩
  simp only [List.drop_zero,List.take_succ_cons,List.take_zero,List.cons.injEq,and_true]at ha
  rw [ha];rfl
section
variable {H : Type} {enc : TypeId × Value → H} {w : World} {spare : Nat → Bool} {held : Bool}
set_option maxRecDepth 100000 in
theorem addr_cells {fuel:Nat} {cs:List Value} {x:DataW H×List MemPlace} (h:DataW.trod enc Try.prog w 0 spare held fuel 23 cs=some x): ∃l:List UInt8,l.length=20∧cs=u8s l:=by
 obtain⟨xs,m,_,_,hl,hlen,hx⟩:=DataW.trod_array Try.underlying23 h
 have hl':cs.length=20:=hl.trans (by kernel_rfl)
 obtain⟨l,h1,h2⟩:=bytes_of_cells cs fun i hi=>by
  have h:=hx i (by omega)
  rw [List.getElem?_eq_getElem (by omega),show Try.prog.cellsOf 5=1 from by kernel_rfl,Nat.mul_one]at h
  obtain⟨q,hq,_,hw⟩:=DataW.trod_int Try.underlying5 h
  have hb:0≤q∧q≤255:=by simpa [Lit.wf,IntKind.min,IntKind.max,IntKind.signed,IntKind.bits]using hw
  refine⟨UInt8.ofNat q.toNat,hq.trans ?_⟩
  have h8:(UInt8.ofNat q.toNat).toNat=q.toNat:=by rw [UInt8.toNat_ofNat'];omega
  rw [h8]
  congr 2
  omega
 exact⟨l,h1.trans hl',h2⟩
end
end Go.Proofs.Ytljacjjeinmfnaa
