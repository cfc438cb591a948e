/- Several texts in one: see the remarks ahead of each part. No condition but those told there. -/
import Derived.Test.YtjfagifjajielaaGreatX1
import Derived.Test.YtjfagifjajielaaGreatX23
import Derived.Test.YtjfagifjajielaaGreatX22
import Derived.Test.YtjfagifjajielaaGreatX14
import Derived.Test.YtjfagifjajielaaGreatX15
import Derived.Laws.StructEq
set_option linter.unusedSimpArgs false
set_option linter.unusedVariables false
namespace Go.Proofs.YtjfagifjajielaaGreat
open Go Go.RowKit
set_option maxRecDepth 100000
def insAll:List (List UInt8)→Option (List It)
 | []=>some []
 |g::gs=>match insE g with
  |none=>none
  |some t=>match insAll gs with
   |none=>none
   |some l=>some (t::l)
def wdI (w:WdM):It:=wdIt w.ix w.va w.ad w.am
def blkParts (m:BlkM) (its:List It):List It:= [m.hd.it,itL its,itL (m.oms.map HdM.it)]++if m.paid=true then [itL (m.wds.map wdI)]else []
def blkIt (m:BlkM) (its:List It):It:=itL (blkParts m its)
def wBlk (m:BlkM):Option (List UInt8):=if okF m.hd.fi∧ ∀h∈m.oms,okF h.fi then match insAll m.txs with
 |none=>none
 |some its=>if (blkIt m its).depth≤1024 then some (blkIt m its).form else none
 else none
def HdIn (N:Heaplet) (h:HdM) (v:Value):Prop:=h.Ok∧ ∃ea ec,v=.slice ea h.ex.length ec∧RSl N 1 ea h.ex.length ec (u8s h.ex)
def BlkR (N:Heaplet) (m:BlkM) (cs:List Value):Prop:= ∃v1 ta tc vs oa oc xs wa wc,
 cs=(blkP (m.hd.cells v1) (.slice ta m.txs.length tc) (.slice oa m.oms.length oc) m.paid (.slice wa m.wds.length wc)).flatten∧
 HdIn N m.hd v1∧RSl N 1 ta m.txs.length tc vs∧Bags N vs m.txs∧
 RSl N 556 oa m.oms.length oc (omC xs)∧(∀x∈xs,HdIn N x.1 x.2)∧xs.map Prod.fst=m.oms∧
 RSl N 23 wa m.wds.length wc (wdsC m.wds)∧ ∀x∈m.wds,x.ad.length=20
structure BlkM.Sz (m:BlkM):Prop where
 tx:m.txs.length≤1048576
 tl: ∀g∈m.txs,g.length≤1099511627776
 om:m.oms.length≤1048576
 wd:m.wds.length≤1048576
def WBlkP (m:BlkM) (v:Value) (L:List Heaplet):Prop:=
 (∃bs M p c,wBlk m=some bs∧v=.tuple #[.slice p bs.length c,.int .i64 0]∧L= [M]∧Row M 5 1 p bs.length c (u8s bs))∨
 (wBlk m=none∧v=.tuple #[.slice none 0 0,.int .i64 1]∧L= [])
theorem omC_cells {N:Heaplet} {xs:List (HdM×Value)} (h: ∀x∈xs,HdIn N x.1 x.2): ∀x∈xs,(x.1.cells x.2).length=556:=fun x hx=>HdM.len (h x hx).1 _
section
variable {N : Heaplet} {m : BlkM} {cs : List Value}
end
def wdN (its:List It):Except Nat WdM:=eb (n64E (nxt its 0)) fun i=>eb (n64E (nxt its 1)) fun v=>eb (fixE 20 (nxt its 2)) fun a=>eb (n64E (nxt its 3)) fun m=>.ok ⟨i,v,a,m⟩
theorem wdN_four {its:List It} (h:its.length=4):wdA its=wdN its:=by
 obtain⟨a,b,c,d,rfl⟩:=four_of h
 rfl
theorem stp_wd {t:It} {its:List It} {w:WdM} {E2 E3 E4 F:Nat} (h:Stp E2 (listE t) its E3) (h4:E4=if its.length≠4 then (if E3=0 then 2 else E3)else E3) (hi:Inv F (wdN its) (.ok w)):Stp E2 (wdE t) w (if E4=0 then F else E4):=by
 rcases h with ⟨h1,h3⟩|⟨e,h1,h2,h3⟩
 ·rw [h3]at h4
  by_cases hl:its.length=4
  ·rw [if_neg (by omega)]at h4
   have hw:wdE t=wdN its:=by simp only [wdE,eb,h1];exact wdN_four hl
   rcases hi with ⟨h0,hi⟩|⟨h0,hi⟩
   ·refine .inl ⟨hw.trans hi,?_⟩
    rw [h4,h0]
    split
    ·rename_i h;exact h.symm
    ·rfl
   ·refine .inr ⟨F,hw.trans hi,h0,?_⟩
    rw [h4]
  ·rw [if_pos hl]at h4
   refine .inr ⟨2,wdE_ne4 h1 (by simpa using hl),by decide,?_⟩
   rw [h4]
   by_cases hE:E2=0
   ·rw [if_pos hE,if_neg (by decide)]
   ·rw [if_neg hE,if_neg hE]
 ·have h30:E3≠0:=by
   rw [h3];split
   ·exact h2
   ·assumption
  have h44:E4=E3:=by
   by_cases hq:its.length≠4
   ·rw [h4,if_pos hq,if_neg h30]
   ·rw [h4,if_neg hq]
  exact .inr ⟨e,by simp only [wdE,eb,h1],h2,by rw [h44,if_neg h30];exact h3⟩
theorem mapE_pre {α:Type} {g:It→Except Nat α} {e:Nat} : ∀(l r:List It),mapE g l=.error e→mapE g (l++r)=.error e
 | [],r,h=>by cases h
 |t::l,r,h=>by
  rw [mapE]at h
  rw [List.cons_append,mapE]
  cases ht:g t with
  |error e'=>rw [ht]at h;exact h
  |ok a=>
   rw [ht]at h
   cases hm:mapE g l with
   |error e'=>
    rw [hm]at h
    cases h
    simp only [mapE_pre l r hm]
   |ok xs=>rw [hm]at h;cases h
theorem mapE_cut {α:Type} {g:It→Except Nat α} {e j:Nat} {l:List It} (h:mapE g (l.take j)=.error e):mapE g l=.error e:=by
 have:=mapE_pre _ (l.drop j) h
 rwa [List.take_append_drop]at this
theorem mapE_next {α:Type} {g:It→Except Nat α} {l:List It} {j:Nat} {t:It} {xs:List α} {x:α} (ht:l[j]? =some t) (h:mapE g (l.take j)=.ok xs) (hx:g t=.ok x):mapE g (l.take (j+1))=.ok (xs++ [x]):=by
 rw [take_nx ht,mapE_snoc,h,hx];rfl
theorem mapE_fault {α:Type} {g:It→Except Nat α} {l:List It} {j:Nat} {t:It} {xs:List α} {e:Nat} (ht:l[j]? =some t) (h:mapE g (l.take j)=.ok xs) (hx:g t=.error e):mapE g l=.error e:=by
 refine mapE_cut (j:=j+1) ?_
 rw [take_nx ht,mapE_snoc,h,hx];rfl
theorem dne_end {α:Type} {g:It→Except Nat α} {t:It} {its:List It} {xs:List α} {j E1 E2:Nat} (h:Stp 0 (listE t) its E1) (hd:Dne (mapE g (its.take j)) xs E2) (hj:E1≠0∨E2≠0∨its.length≤j):((if E1=0 then E2 else E1)=0∧eachE g t=.ok xs)∨((if E1=0 then E2 else E1)≠0∧eachE g t=.error (if E1=0 then E2 else E1)):=by
 rcases h with ⟨h1,h3⟩|⟨e,h1,h2,h3⟩
 ·rw [if_pos h3]
  rcases hd with ⟨h0,hd⟩|⟨h0,hd⟩
  ·have hj:its.length≤j:=by omega
   rw [List.take_of_length_le hj]at hd
   exact .inl ⟨h0,by simp only [eachE,h1,hd]⟩
  ·exact .inr ⟨h0,by simp only [eachE,h1];exact mapE_cut hd⟩
 ·rw [if_pos rfl]at h3
  have h10:E1≠0:=by rw [h3];exact h2
  rw [if_neg h10]
  exact .inr ⟨h10,by simp only [eachE,h1,h3]⟩
theorem rawE_txt {bs:List UInt8} {its:List It} (h0:0<bs.length) (h1:1≤(bs.getD 0 0).toNat) (h3:(bs.getD 0 0).toNat≤3):rawE (.mk false bs its)=.ok bs:=by
 simp only [rawE];rw [if_pos ⟨h0,h1,h3⟩]
theorem rawE_not {bs:List UInt8} {its:List It} (h: ¬(0<bs.length∧1≤(bs.getD 0 0).toNat∧(bs.getD 0 0).toNat≤3)):rawE (.mk false bs its)=.error 2:=by
 simp only [rawE];rw [if_neg h]
theorem rawE_lst {bs:List UInt8} {its:List It} (h:(It.mk true bs its).depth≤1024):rawE (.mk true bs its)=.ok (It.mk true bs its).form:=by
 simp only [rawE];rw [if_pos h]
theorem depth_in: ∀ {l:List It} {t:It},t∈l→t.depth≤It.depths l
 |u::l,t,h=>by
  rw [It.depths]
  rcases List.mem_cons.1 h with rfl|h
  ·exact Nat.le_max_left _ _
  ·exact Nat.le_trans (depth_in h) (Nat.le_max_right _ _)
theorem depth_item {t u:It} {its:List It} (h:listE t=.ok its) (hu:u∈its):u.depth≤t.depth:=by
 obtain⟨l,bs,is⟩:=t
 cases l with
 |false=>cases h
 |true=>
  cases h
  rw [It.depth]
  have:=depth_in hu
  omega
def HdK (NK NI:Heaplet) (x:HdM×Value):Prop:=x.1.Ok∧okF x.1.fi∧ ∃ea ec,x.2=.slice ea x.1.ex.length ec∧ ∀K:Heaplet,NK.le K→NI.le K→RSl K 1 ea x.1.ex.length ec (u8s x.1.ex)
theorem HdK.up {NK NI M:Heaplet} {x:HdM×Value} (h:HdK NK NI x) (hl:NK.le M):HdK M NI x:=by
 obtain⟨h1,h2,ea,ec,h3,h4⟩:=h
 exact⟨h1,h2,ea,ec,h3,fun K k1 k2=>h4 K (Heaplet.le_trans hl k1) k2⟩
theorem HdK.oneK {NK NI:Heaplet} {x:HdM×Value} (h:HdK NK NI x): ∀u∈x.1.cells x.2,u.oneCell'=true:=by
 obtain⟨_,_,ea,ec,h3,_⟩:=h
 rw [h3]
 exact List.all_eq_true.1 (HdM.one U)
theorem HdK.snoc {NK NI M J:Heaplet} {xs:List (HdM×Value)} {x:HdM×Value} (h: ∀y∈xs,HdK NK NI y) (hx:HdK M NI x) (h1:NK.le J) (h2:M.le J): ∀y∈xs++ [x],HdK J NI y:=fun y hy=>by
 rcases List.mem_append.1 hy with hy|hy
 ·exact(h y hy).up h1
 ·rw [List.mem_singleton.1 hy];exact hx.up h2
theorem hdk_in {NK NI K:Heaplet} {x:HdM×Value} (h:HdK NK NI x) (h1:NK.le K) (h2:NI.le K):HdIn K x.1 x.2:=by
 obtain⟨k1,_,ea,ec,k3,k4⟩:=h
 exact⟨k1,ea,ec,k3,k4 K h1 h2⟩
theorem omC_oneK {NK NI:Heaplet} {xs:List (HdM×Value)} (h: ∀x∈xs,HdK NK NI x): ∀u∈omC xs,u.oneCell'=true:=fun u hu=>by
 obtain⟨x,hx,hu⟩:=List.mem_flatMap.1 hu
 exact(h x hx).oneK u hu
theorem bags_up {NJ NI M J:Heaplet} {vs:List Value} {gs:List (List UInt8)} {a:Option Addr} {c:Nat} {g:List UInt8} (h: ∀K:Heaplet,NJ.le K→NI.le K→Bags K vs gs) (hr: ∀K:Heaplet,M.le K→NI.le K→RSl K 1 a g.length c (u8s g)) (h1:NJ.le J) (h2:M.le J): ∀K:Heaplet,J.le K→NI.le K→Bags K (vs++ [.slice a g.length c]) (gs++ [g]):=fun K k1 k2=>by
 have h:=h K (Heaplet.le_trans h1 k1) k2
 have hr:=hr K (Heaplet.le_trans h2 k1) k2
 refine⟨by simp [h.len],fun i y hy=>?_⟩
 rcases snoc_get hy with ⟨hi,hy⟩|⟨hi,rfl⟩
 ·obtain⟨q,d,h1,h2⟩:=h.rsl i y hy
  exact⟨q,d,get_snoc_l h1,h2⟩
 ·exact⟨a,c,by rw [hi, ←h.len];simp,hr⟩
theorem one_snoc {vs:List Value} {p:Option Addr} {n c:Nat} (h: ∀u∈vs,u.oneCell'=true): ∀u∈vs++ [.slice p n c],u.oneCell'=true:=fun u hu=>by
 rcases List.mem_append.1 hu with hu|hu
 ·exact h u hu
 ·rw [List.mem_singleton.1 hu];rfl
theorem ad20 {ws:List WdM} {i v m:UInt64} {a:List UInt8} (h: ∀x∈ws,x.ad.length=20) (ha:a.length=20): ∀x∈ws++ [⟨i,v,a,m⟩],x.ad.length=20:=fun x hx=>by
 rcases List.mem_append.1 hx with hx|hx
 ·exact h x hx
 ·rw [List.mem_singleton.1 hx];exact ha
def RBlkP (b:List UInt8) (v:Value) (L:List Heaplet):Prop:=
 (∃M m cs,readBlkE b=.ok m∧v=.tuple #[.agg cs.toArray,.int .i64 0]∧L= [M]∧BlkR M m cs∧(cs.length=560∧cs.all (·.oneCell')=true))∨
 (∃e:Nat,readBlkE b=.error e∧v=.tuple #[.agg z54.toArray,.int .i64 (e:Int)]∧e≠0∧L= [nilH])
theorem fill_wd2 (i v:UInt64):fillL [(0,1),(1,1),(2,20),(22,1)] (wdP 0 0 zero20 0).flatten [(0,.int .u64 (i.toNat:Int)),(1,.int .u64 (v.toNat:Int))]=some (wdC i v zero20 0):=by
 have hz:zero20.length=20:=List.length_replicate ..
 have l0:=wdC_len (i:=0) (v:=0) (m:=0) hz
 have l1:=wdC_len (i:=i) (v:=0) (m:=0) hz
 rw [←wdP_cells]at l0 l1
 have e1:setL (wdP 0 0 zero20 0).flatten 0 [.int .u64 (i.toNat:Int)]=(wdP i 0 zero20 0).flatten:=part_put (wdP_lens hz) (j:=0) rfl rfl _
 have e2:setL (wdP i 0 zero20 0).flatten 1 [.int .u64 (v.toNat:Int)]=(wdP i v zero20 0).flatten:=part_put (wdP_lens hz) (j:=1) rfl rfl _
 have k (x:Int):(Value.int .u64 x).cells.toList= [.int .u64 x]:=rfl
 simp only [fillL,List.getElem?_cons_zero,List.getElem?_cons_succ,k,l0,l1,e1,e2,List.length_singleton]
 rw [if_pos (by decide),if_pos (by decide),wdP_cells]
theorem wd_ad {i v m:UInt64} {a b:List UInt8} (ha:a.length=20) (hb:b.length=20):setL (wdC i v a m) (0+2) (u8s b)=wdC i v b m:=by
 rw [←wdP_cells, ←wdP_cells]
 exact part_set (wdP_lens ha) (j:=2) (q:=u8s b) U U (by rw [bL,bL,ha,hb])
theorem wd_am {i v m n:UInt64} {a:List UInt8} (ha:a.length=20):setL (wdC i v a m) (0+22) [.int .u64 (n.toNat:Int)]=wdC i v a n:=by
 rw [←wdP_cells, ←wdP_cells]
 exact part_put (wdP_lens ha) (j:=3) U U _
theorem zero20_len:zero20.length=20:=List.length_replicate ..
def AccM.cut (g:AccM):AccM:=⟨g.addr,g.keys.take 12⟩
def cutA (gs:List AccM):List AccM:=(gs.take 12).map AccM.cut
def cutM (m:TxM):TxM:= { m with da:=m.da.take 800,ac:=cutA m.ac,bb:=m.bb.take 12 }
section
variable {m : TxM} {d a b v : Value}
theorem st_d (h:m.Ok):setL (m.cells d a b) (0+37) [v]=m.cells v a b:=tx_d h.to
theorem st_a (h:m.Ok):setL (m.cells d a b) (0+38) [v]=m.cells d v b:=tx_a h.to
theorem st_b (h:m.Ok):setL (m.cells d a b) (0+43) [v]=m.cells d a v:=tx_b h.to
end
theorem acc_addr {xs:List AV} {x:AV} {i:Nat} (hx:xs[i]? =some x) (hc: ∀y∈xs,y.cells.length=21) (ha:x.addr.length=20):((accC xs).drop (i*21+0)).take 20=u8s x.addr:=by
 have h:=flat_at AV.cells hc hx
 have:=congrArg (List.take 20) h
 rw [List.take_take,show min 20 21=20 from rfl]at this
 rw [Nat.add_zero,accC,this,AV.cells,List.take_left' (by rw [bL,ha])]
theorem acc_fld {xs:List AV} {x:AV} {i o:Nat} {v:Value} (hx:xs[i]? =some x) (hc: ∀y∈xs,y.cells.length=21) (ho:o<21) (hv:x.cells[o]? =some v):(accC xs)[i*21+o]? =some v:=by
 have h:=flat_at AV.cells hc hx
 have:=congrArg (fun l=>l[o]?) h
 simp only [List.getElem?_take,List.getElem?_drop,if_pos ho]at this
 rw [accC,this,hv]
section
variable {N : Heaplet} {m : TxM} {d a b : Value}
end
section
variable {N M : Heaplet} {ao bo : Option Addr} {n cap m cbp : Nat} {gs gt : List LogM} {xs xt : List LV}
end
section
variable {k : Int} {rv lv : Value} {ok : Bool} {gas : UInt64} {bl : List UInt8}
end
theorem u8s_ints (l:List UInt8):(u8s l).all isInt=true:=by
 refine List.all_eq_true.2 fun u hu=>?_
 obtain⟨x,_,rfl⟩:=List.mem_map.1 hu
 rfl
theorem LogM.cut_cut (g:LogM):g.cut.cut=g.cut:=by simp [LogM.cut,List.take_take]
section
variable {N M : Heaplet} {k : Int} {ra la : Option Addr} {rn rc ln lc : Nat} {root bl : List UInt8} {ok : Bool} {gas : UInt64} {gs : List LogM} {xs : List LV} {i v m : UInt64} {a : List UInt8}
end
theorem okB_ne8 {P:Program} {l:List (Nat×Value)} {t t':TypeId} {x y:Operand} {a b:List UInt8} (hx:ev l x=some (.agg (u8s a).toArray)) (hy:ev l y=some (.agg (u8s b).toArray)) (hg:(!P.eqGuardType P.depth t&&intsB P t)=true):okB P l (.binOp .neq t x y t')=true:=by
 rw [Bool.and_eq_true]at hg
 simp [okB,Op.operands,floatOK,hx,hy,hg.1,hg.2,u8s_ints]
theorem hash_at {hs:List (List UInt8)} {x:List UInt8} {i:Nat} (hx:hs[i]? =some x) (hc: ∀y∈hs,y.length=32):((hashC hs).drop (i*32)).take 32=u8s x:=flat_at u8s (fun y hy=>by rw [bL];exact hc y hy) hx
section
variable {N M : Heaplet} {hs : List (List UInt8)} {a a' : Option Addr} {n c c' : Nat}
theorem FSameKeys_b (h:RSl N 32 a n c (hashC hs)) (h':RSl M 32 a' n c' (hashC hs)) (h32: ∀x∈hs,x.length=32):Fn Tryz.prog 46 #[.slice a n c,.slice a' n c'] [] [N,M] (fun v L=>v=.bool true∧L= []):=by
 have hl:=h.1
 rw [hashC_len h32]at hl
 have hn:n=hs.length:=by omega
 have hc:=h.2.1
 have hm:=h.2.2.1
 unfold maxLen at hm
 refine Fn.enter (vs:= [.slice a n c,.slice a' n c']) Tryz.func46 U U U ?_
 intro E R hR
 have h:=h.le (hR N (by simp))
 have h':=h'.le (hR M (by simp))
 change At _ _ E [R] _
 refine aC fun _ s_1=>aA (aR U U (aB (s_1 (aC fun _ s_2=>aC fun _ s_3=>aA (aH U U (cF aE se30 U U (aH U U (cF aE se30 U U (dG aE U U U (aB (s_3 (aQ U (fun c10=>?_) (fun c10=>?_)))))))))))))
 ·exact absurd U c10
 refine cT (d:=10) U c10 (aT (aI (s_2 (aC fun _ s_4=>aC fun _ s_5=>aA (aR U U (aB (s_5 (bZ (At.loop (fun fr_ hp_ ms_=> ∃(i:Nat),fr_= [(0,.slice a n c),(1,.slice a' n c'),(5,.int .i64 (i:Int))]∧hp_= [R]∧n- i=ms_∧(i≤n)) ?_ aJ ⟨0,rfl,rfl,rfl,Nat.zero_le _⟩ ?_)))))))))
 ·repeat first|apply cW|exact .nil|exact lkI rfl (by omega)|rfl
 rintro _ _ _ ⟨i,rfl,rfl,rfl,hi⟩
 refine aC fun _ s_6=>aC fun _ s_7=>aA (aH U U (aH U U (cF aE se30 U U (op_lss aE U U U (aB (s_7 (aQ U (fun c14=>?_) (fun c14=>?_))))))))
 ·refine c4 (d:=14) U c14 ?_
  obtain⟨x,hxi⟩: ∃x,hs[i]? =some x:=⟨_,List.getElem?_eq_getElem (by omega)⟩
  have hx:=h32 x (List.mem_of_getElem? hxi)
  have hxu:(u8s x).length=32:=by rw [bL,hx]
  refine aT (aI (s_6 (aC fun _ s_8=>bZ (aC fun _ s_9=>At.drawn [] [0,1,2,3,4,5,6,7,8] (by kernel_rfl) (by kernel_rfl) (aP (bP U U U (by kernel_rfl)) U U (aP (bP U U U (by kernel_rfl)) U U (op_idxE (bP U U U (by kernel_rfl)) se30 U U h (show _=(((i:Nat)):Int)from by omega) (by omega) U ?_)))))))
  refine op_loadAggE (ds:=u8s x) (bP U U U (by kernel_rfl)) ag40 U h (by exact hash_at hxi h32) (by exact hxu) (by omega) (by simp) U ?_
  refine aP (bP U U U (by kernel_rfl)) U U (aP (bP U U U (by kernel_rfl)) U U (op_idxE (bP U U U (by kernel_rfl)) se30 U U h' (show _=(((i:Nat)):Int)from by omega) (by omega) U ?_))
  refine op_loadAggE (ds:=u8s x) (bP U U U (by kernel_rfl)) ag40 U h' (by exact hash_at hxi h32) (by exact hxu) (by omega) (by simp) U ?_
  refine op_neW8 (a:=x) (b:=x) (bP U U U (by exact okB_ne8 U U (by kernel_rfl))) ae40 Tryz.underlying5 (by kernel_rfl) U U hx hx U ?_
  refine dK (aI (s_9 (aQ U (fun c25=>?_) (fun c25=>?_))))
  ·exact absurd U c25
  refine cT (d:=25) U c25 (aT (cS (aI (s_8 (aA (aH U U (cU aE U U (by omega) (by omega) U (aR U U (aB (At.back ?_ aJ ⟨i+1,rfl,rfl,rfl,by omega⟩ ?_))))))))))
  ·repeat first|apply cW|exact .nil|exact lkI rfl (by omega)|rfl
  ·omega
 refine cT (d:=14) U c14 (At.exit (bB (bB (dE (aI (s_4 (aC fun _ s_10=>aA (aR U U (aB (s_10 (a0 ((cI (L1:= []) U (.tmp U .nil) (.refl _) aJ ?_)))))))))))))
 exact⟨rfl,rfl⟩
end
section
variable {N M : Heaplet} {m : TxM} {d a b d' a' b' : Value}
set_option maxHeartbeats 8000000 in
theorem FSame_b (h:m.Ok) (hT:TxR N m d a b) (hU:TxR M m d' a' b'):Fn Tryz.prog 9 #[.agg (m.cells d a b).toArray,.agg (m.cells d' a' b').toArray] [] [N,M] (fun v L=>v=.bool true∧L= []):=by
 have hln:=fun d a b=>TxM.cells_len (m:=m) h d a b
 obtain⟨da,dc,aa,cc,ba,bc,axs,rfl,hd,rfl,ha,hacc,rfl,hb⟩:=hT
 obtain⟨ea,ec,fa,fc,ga,gc,ays,rfl,hd',rfl,ha',hacc',rfl,hb'⟩:=hU
 have hac:=ha.2.1
 have ham:=ha.2.2.1
 unfold maxLen at ham
 refine Fn.enter (vs:= [.agg (m.cells (.slice da m.da.length dc) (.slice aa m.ac.length cc) (.slice ba m.bb.length bc)).toArray,.agg (m.cells (.slice ea m.da.length ec) (.slice fa m.ac.length fc) (.slice ga m.bb.length gc)).toArray]) Tryz.func9 U U U ?_
 intro E R hR
 have hd:=hd.le (hR N (by simp))
 have hd':=hd'.le (hR M (by simp))
 have ha:=ha.le (hR N (by simp))
 have ha':=ha'.le (hR M (by simp))
 have hb:=hb.le (hR N (by simp))
 have hb':=hb'.le (hR M (by simp))
 have hacR:=hacc.le (hR N (by simp))
 have hacR':=hacc'.le (hR M (by simp))
 change At _ _ E [R] _
 refine aC fun _ s_1=>aA (op_box bU U U U (fun N2 b2 B2=>op_box bU U U U (fun N3 b3 B3=>aR U U (aB (s_1 (aC fun _ s_2=>aC fun _ s_3=>aA (aD aE fl32_0 U U (aK aE sc3 U B2 (gx_ki h) mem1 U (aD aE fl32_0 U U (aK aE sc3 U B3 (gx_ki h) bI U (dG aE U U U (aH U U (cB (d:=11) U (fun g11=>?_) (fun g11=>?_))))))))))))))
 ·exact absurd U g11
 refine aD (bF U U U U) fl32_1 U U (aK (bF U U U U) sc24 U B2 (gx_ch h) mem1 U (aD (bF U U U U) fl32_1 U U (aK (bF U U U U) sc24 U B3 (gx_ch h) bI U (dG (bF U U U U) U U U (cE aE U U U (aH U U (cB (d:=18) U (fun g18=>?_) (fun g18=>?_))))))))
 ·exact absurd U g18
 refine aD (bF U U U U) fl32_2 U U (aK (bF U U U U) sc24 U B2 (gx_nn h) mem1 U (aD (bF U U U U) fl32_2 U U (aK (bF U U U U) sc24 U B3 (gx_nn h) bI U (dG (bF U U U U) U U U (cE aE U U U (aH U U (cB (d:=25) U (fun g25=>?_) (fun g25=>?_))))))))
 ·exact absurd U g25
 refine aD (bF U U U U) fl32_3 U U (aV (ds:=u64s (wl m.pr)) (bF U U U U) ag26 U B2 (by exact gx_pr h) (by exact len_w4 _) mem1 U ?_)
 refine aD (bF U U U U) fl32_3 U U (aV (ds:=u64s (wl m.pr)) (bF U U U U) ag26 U B3 (by exact gx_pr h) (by exact len_w4 _) bI U ?_)
 refine op_neW (a:=wl m.pr) (b:=wl m.pr) (bF U U U U) ae26 Tryz.underlying24 (by kernel_rfl) U U U U U (cE aE U U U (aH U U (cB (d:=32) U (fun g32=>?_) (fun g32=>?_))))
 ·exact absurd U g32
 refine aD (bF U U U U) fl32_4 U U (aV (ds:=u64s (wl m.tp)) (bF U U U U) ag26 U B2 (by exact gx_tp h) (by exact len_w4 _) mem1 U ?_)
 refine aD (bF U U U U) fl32_4 U U (aV (ds:=u64s (wl m.tp)) (bF U U U U) ag26 U B3 (by exact gx_tp h) (by exact len_w4 _) bI U ?_)
 refine op_neW (a:=wl m.tp) (b:=wl m.tp) (bF U U U U) ae26 Tryz.underlying24 (by kernel_rfl) U U U U U (cE aE U U U (aH U U (cB (d:=39) U (fun g39=>?_) (fun g39=>?_))))
 ·exact absurd U g39
 refine aD (bF U U U U) fl32_5 U U (aK (bF U U U U) sc24 U B2 (gx_ga h) mem1 U (aD (bF U U U U) fl32_5 U U (aK (bF U U U U) sc24 U B3 (gx_ga h) bI U (dG (bF U U U U) U U U (cE aE U U U (aH U U (cB (d:=46) U (fun g46=>?_) (fun g46=>?_))))))))
 ·exact absurd U g46
 refine aD (bF U U U U) fl32_6 U U (aK (bF U U U U) sc4 U B2 (gx_mk h) mem1 U (aD (bF U U U U) fl32_6 U U (aK (bF U U U U) sc4 U B3 (gx_mk h) bI U (op_neB (bF U U U U) Tryz.underlying4 U U U (cE aE U U U (aH U U (At.part (d:=53) U (fun g53=>?_) (fun g53=>?_))))))))
 ·simp at g53
 refine aD (bF U U U U) fl32_7 U U ?_
 refine aV (ds:=u8s m.to) (bF U U U U) ag28 U B2 (by exact gx_to h) (by rw [bL];exact h.to) mem1 U ?_
 refine aD (bF U U U U) fl32_7 U U ?_
 refine aV (ds:=u8s m.to) (bF U U U U) ag28 U B3 (by exact gx_to h) (by rw [bL];exact h.to) bI U ?_
 refine op_neW8 (a:=m.to) (b:=m.to) (bF U U U U) ae28 Tryz.underlying5 (by kernel_rfl) U U h.to h.to U (cE aE U U U (aH U U (cB (d:=60) U (fun g60=>?_) (fun g60=>?_))))
 ·exact absurd U g60
 refine aD (bF U U U U) fl32_8 U U (aV (ds:=u64s (wl m.va)) (bF U U U U) ag26 U B2 (by exact gx_va h) (by exact len_w4 _) mem1 U ?_)
 refine aD (bF U U U U) fl32_8 U U (aV (ds:=u64s (wl m.va)) (bF U U U U) ag26 U B3 (by exact gx_va h) (by exact len_w4 _) bI U ?_)
 refine op_neW (a:=wl m.va) (b:=wl m.va) (bF U U U U) ae26 Tryz.underlying24 (by kernel_rfl) U U U U U (cE aE U U U (aH U U (cB (d:=67) U (fun g67=>?_) (fun g67=>?_))))
 ·exact absurd U g67
 refine aD (bF U U U U) fl32_9 U U (aK (bF U U U U) sc22 U B2 (gx_d h) mem1 U (op_str (bF U U U U) Tryz.underlying22 Tryz.underlying5 Tryz.underlying9 U (by assumption) (by simp) U ?_))
 refine aD (bF U U U U) fl32_9 U U (aK (bF U U U U) sc22 U B3 (gx_d h) bI U (op_str (bF U U U U) Tryz.underlying22 Tryz.underlying5 Tryz.underlying9 U (by assumption) (by simp) U ?_))
 refine op_neS (bF U U U U) U U U (cE aE U U U (aB (s_3 (aQ U (fun c75=>?_) (fun c75=>?_)))))
 ·exact absurd U c75
 refine cT (d:=75) U c75 (aT (aI (s_2 (aC fun _ s_4=>aC fun _ s_5=>aA (aD aE fl32_11 U U (aV (ds:=u64s (wl m.bf)) aE ag26 U B2 (by exact gx_bf h) (by exact len_w4 _) mem1 U ?_))))))
 refine aD aE fl32_11 U U (aV (ds:=u64s (wl m.bf)) aE ag26 U B3 (by exact gx_bf h) (by exact len_w4 _) bI U ?_)
 refine op_neW (a:=wl m.bf) (b:=wl m.bf) aE ae26 Tryz.underlying24 (by kernel_rfl) U U U U U (aH U U (cB (d:=81) U (fun g81=>?_) (fun g81=>?_)))
 ·exact absurd U g81
 refine aD (bF U U U U) fl32_13 U U (aK (bF U U U U) sc4 U B2 (gx_od h) mem1 U (aD (bF U U U U) fl32_13 U U (aK (bF U U U U) sc4 U B3 (gx_od h) bI U (op_neB (bF U U U U) Tryz.underlying4 U U U (cE aE U U U (aH U U (At.part (d:=88) U (fun g88=>?_) (fun g88=>?_))))))))
 ·simp at g88
 refine aD (bF U U U U) fl32_14 U U (aV (ds:=u64s (wl m.r)) (bF U U U U) ag26 U B2 (by exact gx_r h) (by exact len_w4 _) mem1 U ?_)
 refine aD (bF U U U U) fl32_14 U U (aV (ds:=u64s (wl m.r)) (bF U U U U) ag26 U B3 (by exact gx_r h) (by exact len_w4 _) bI U ?_)
 refine op_neW (a:=wl m.r) (b:=wl m.r) (bF U U U U) ae26 Tryz.underlying24 (by kernel_rfl) U U U U U (cE aE U U U (aH U U (cB (d:=95) U (fun g95=>?_) (fun g95=>?_))))
 ·exact absurd U g95
 refine aD (bF U U U U) fl32_15 U U (aV (ds:=u64s (wl m.s)) (bF U U U U) ag26 U B2 (by exact gx_s h) (by exact len_w4 _) mem1 U ?_)
 refine aD (bF U U U U) fl32_15 U U (aV (ds:=u64s (wl m.s)) (bF U U U U) ag26 U B3 (by exact gx_s h) (by exact len_w4 _) bI U ?_)
 refine op_neW (a:=wl m.s) (b:=wl m.s) (bF U U U U) ae26 Tryz.underlying24 (by kernel_rfl) U U U U U (cE aE U U U (aH U U (cB (d:=102) U (fun g102=>?_) (fun g102=>?_))))
 ·exact absurd U g102
 refine aD (bF U U U U) fl32_12 U U (aK (bF U U U U) sc30 U B2 (gx_b h) mem1 U (aD (bF U U U U) fl32_12 U U (aK (bF U U U U) sc30 U B3 (gx_b h) bI U (bD (nxga U U U U) (.cons U (.cons U .nil)) (FSameKeys_b hb hb' h.bb) Tryz.func46 U U (by simp) U ?_))))
 rintro _ _ ⟨rfl,rfl⟩
 show At _ _ _ [N3,N2,R] _
 refine op_not (bF U U U U) U U (cE aE U U U (aH U U (aD (bF U U U U) fl32_10 U U (aK (bF U U U U) sc29 U B2 (gx_a h) mem1 U (cF (bF U U U U) se29 U U (aD (bF U U U U) fl32_10 U U (aK (bF U U U U) sc29 U B3 (gx_a h) bI U (cF (bF U U U U) se29 U U (dG (bF U U U U) U U U (cE aE U U U (aB (s_5 (aQ U (fun c118=>?_) (fun c118=>?_))))))))))))))
 ·exact absurd U c118
 refine cT (d:=118) U c118 (aT (aI (s_4 (aC fun _ s_6=>aC fun _ s_7=>aA (aR U U (aB (s_7 (bZ (aM (bO (aM (At.loop (fun fr_ hp_ ms_=> ∃(i:Nat),fr_= [(2,.pointer (some ⟨b2,0,none⟩)),(3,.pointer (some ⟨b3,0,none⟩)),(5,.int .i64 (i:Int))]∧hp_= [N2,N3,R]∧m.ac.length- i=ms_∧(i≤m.ac.length)) ?_ aJ ⟨0,rfl,rfl,rfl,Nat.zero_le _⟩ ?_))))))))))))
 ·repeat first|apply cW|exact .nil|exact lkI rfl (by omega)|rfl
 rintro _ _ _ ⟨i,rfl,rfl,rfl,hi⟩
 refine aC fun _ s_8=>aC fun _ s_9=>aA (aH U U (aD aE fl32_10 U U (aK aE sc29 U B2 (gx_a h) bI U (cF aE se29 U U (op_lss aE U U U (aB (s_9 (aQ U (fun c123=>?_) (fun c123=>?_)))))))))
 ·refine c4 (d:=123) U c123 ?_
  obtain⟨g,x,hgi,hxi,hgx⟩:=hacR.at (i:=i) (by omega)
  obtain⟨g',y,hgi',hyi,hgy⟩:=hacR'.at (i:=i) (by omega)
  obtain rfl:g=g':=Option.some.inj (hgi.symm.trans hgi')
  have hga:g.addr.length=20:=hgx.2.1
  have hxa:x.addr.length=20:=by rw [hgx.1];exact hga
  have hya:y.addr.length=20:=by rw [hgy.1];exact hga
  have hgu:(u8s g.addr).length=20:=by rw [bL,hga]
  have e1:=acc_addr hxi hacc.cells hxa
  have e2:=acc_addr hyi hacc'.cells hya
  rw [hgx.1]at e1
  rw [hgy.1]at e2
  have f1:=acc_fld (o:=20) hxi hacc.cells (by decide) (show x.cells[20]? =some (.slice x.ka x.kn x.kc)from AV.key_at hxa)
  have f2:=acc_fld (o:=20) hyi hacc'.cells (by decide) (show y.cells[20]? =some (.slice y.ka y.kn y.kc)from AV.key_at hya)
  have k1:=hgx.2.2.2.1
  have k2:=hgy.2.2.2.1
  rw [hgx.2.2.1]at k1 f1
  rw [hgy.2.2.1]at k2 f2
  have hsome:aa.isSome=true:=by
   obtain⟨bA,oA,hao,_⟩:=ha.2.2.2 (by omega)
   rw [hao];rfl
  have hsome':fa.isSome=true:=by
   obtain⟨bA,oA,hao,_⟩:=ha'.2.2.2 (by omega)
   rw [hao];rfl
  refine aT (aI (s_8 (aC fun _ s_10=>bZ (aC fun _ s_11=>At.drawnS [N2,N3,R] [26] [] [0,1,2,3,4,5,6,7,8,9,10,11,12,13,14,15,16,17,18,19,20,21,22,23,24,25,26,27,28] (by kernel_rfl) (by kernel_rfl) (.refl _) (aD (cD U U U) fl32_10 U U (aK (cD U U U) sc29 U B2 (gx_a h) bI U (aP (cD U U U) U U (op_idxE (cD U U U) se29 U U ha (show _=(((i:Nat)):Int)from by omega) (by omega) U ?_))))))))
  refine op_fieldAddrE (cD U U U) fl117_0 U (by first|rfl|assumption) U ?_
  refine op_loadAggE (ds:=u8s g.addr) (cD U U U) ag28 U ha (by exact e1) (by exact hgu) (by omega) (by simp) U ?_
  refine aD (cD U U U) fl32_10 U U (aK (cD U U U) sc29 U B3 (gx_a h) mem1 U (aP (cD U U U) U U (op_idxE (cD U U U) se29 U U ha' (show _=(((i:Nat)):Int)from by omega) (by omega) U ?_)))
  refine op_fieldAddrE (cD U U U) fl117_0 U (by first|rfl|assumption) U ?_
  refine op_loadAggE (ds:=u8s g.addr) (cD U U U) ag28 U ha' (by exact e2) (by exact hgu) (by omega) (by simp) U ?_
  refine op_neW8 (a:=g.addr) (b:=g.addr) (cD U U U) ae28 Tryz.underlying5 (by kernel_rfl) U U hga hga U (aP (cD U U U) U U (cB (d:=139) U (fun g139=>?_) (fun g139=>?_)))
  ·exact absurd U g139
  refine aD (cR U U U U U U) fl32_10 U U (aK (cR U U U U U U) sc29 U B2 (gx_a h) bI U (aP (cR U U U U U U) U U (op_idxE (cR U U U U U U) se29 U U ha (show _=(((i:Nat)):Int)from by omega) (by omega) U ?_)))
  refine op_fieldAddrE (cR U U U U U U) fl117_1 U (by first|rfl|assumption) U ?_
  refine cO (cR U U U U U U) sc30 U ha (by first|exact get8 (by omega)|exact get64 (by omega)|exact get32 (by omega)|exact f1) (by simp) U ?_
  refine aD (cR U U U U U U) fl32_10 U U (aK (cR U U U U U U) sc29 U B3 (gx_a h) mem1 U (aP (cR U U U U U U) U U (op_idxE (cR U U U U U U) se29 U U ha' (show _=(((i:Nat)):Int)from by omega) (by omega) U ?_)))
  refine op_fieldAddrE (cR U U U U U U) fl117_1 U (by first|rfl|assumption) U ?_
  refine cO (cR U U U U U U) sc30 U ha' (by first|exact get8 (by omega)|exact get64 (by omega)|exact get32 (by omega)|exact f2) (by simp) U ?_
  refine bD (Nx.agree (nxsgs U U U U U U U)) (.cons U (.cons U .nil)) (FSameKeys_b k1 k2 hgx.2.2.2.2) Tryz.func46 U U (by simp) U ?_
  rintro _ _ ⟨rfl,rfl⟩
  show At _ _ _ [N2,N3,R] _
  refine At.anyS (.refl _) (op_not (cR U U U U U U) U U (cE (cD U U U) U U U (At.sNil (aI (s_11 (dA U (aT (cS (aI (s_10 (aA (aH U U (cU aE U U (by omega) (by omega) U (aR U U (aB (At.back ?_ aJ ⟨i+1,rfl,rfl,rfl,by omega⟩ ?_))))))))))))))))
  ·repeat first|apply cW|exact .nil|exact lkI rfl (by omega)|rfl
  ·omega
 refine cT (d:=123) U c123 (At.exit (bB (bB (dE (aI (s_6 (aC fun _ s_12=>aA (aR U U (aB (s_12 (a0 ((bH (cK (cI (L1:= []) U (.tmp U .nil) (.refl _) aJ ?_)))))))))))))))
 exact⟨rfl,rfl⟩
end
inductive FldK where
 |num (k:IntKind)
 |arr (n:Nat)
def isU8 (P:Program) (e:TypeId):Bool:=match P.underlying e with
 |some (.int .u8)=>true
 |_=>false
theorem isU8_spec {P:Program} {e:TypeId} (h:isU8 P e=true):P.underlying e=some (.int .u8):=by
 unfold isU8 at h
 split at h
 ·assumption
 ·cases h
def fldK (P:Program) (f:Field):Option (Nat×FldK):=match P.underlying f.type with
 |some (.int k)=>some (f.offset,.num k)
 |some (.array n e)=>if aelt P f.type=some (n,e,1)∧siz P f.type=some n∧isU8 P e=true then some (f.offset,.arr n)else none
 |_=>none
def fldsK (P:Program) (fs:List Field):Option (List (Nat×FldK)):=fs.mapM (fldK P)
def HasK (xs:List Value) (p:Nat×FldK):Prop:=match p.2 with
 |.num k=> ∃a,xs[p.1]? =some (.int k a)
 |.arr n=> ∃b:List UInt8,(xs.drop p.1).take n=u8s b∧b.length=n
theorem siz_spec {P:Program} {t:TypeId} {n:Nat} (h:siz P t=some n): ∃i,P.info? t=some i∧i.size=n:=by
 unfold siz at h
 obtain⟨i,h1,h2⟩:=Option.map_eq_some_iff.1 h
 exact⟨i,h1,h2⟩
theorem fld_same {P:Program} (w:World) (d:Nat) {xs:List Value} {f:Field} {p:Nat×FldK} (h:fldK P f=some p) (hx:HasK xs p): ∃v,(part f.type xs.toArray f.offset).run P w=.ok v w∧(Op.equalIn (d+2) f.type v v).run P w=.ok true w:=by
 unfold fldK at h
 split at h
 ·rename_i k hk
  cases h
  obtain⟨a,ha⟩:=hx
  refine⟨.int k a,?_,?_⟩
  ·simp [part,isAgg,Go.run_underlying hk,ha]
  ·rw [run_equalIn_int w (d+1) f.type k k a a hk];simp
 ·rename_i n e hk
  split at h
  ·rename_i hc
   obtain⟨h1,h2,h3⟩:=hc
   have h3:=isU8_spec h3
   cases h
   obtain⟨b,hb,hl⟩:=hx
   obtain⟨i,hi,his⟩:=siz_spec h2
   obtain⟨_,j,hj,hjs⟩:=aelt_spec h1
   refine⟨.agg (u8s b).toArray,?_,?_⟩
   ·simp only [part,isAgg,Sem.run_bind,Go.run_underlying hk,Result.andThen_ok,Sem.run_pure,if_true,run_sizeOf hi,his]
    rw [←hb]
    simp [List.extract_eq_take_drop,Nat.add_sub_cancel_left]
   ·rw [run_equalIn_bytes8 w d f.type e n hk h3 (fun w=>by rw [run_sizeOf hj,hjs]) b b hl hl]
    simp
  ·cases h
 ·cases h
theorem eqFields_self {P:Program} (w:World) (d:Nat) (xs:List Value): ∀(fs:List Field) (L:List (Nat×FldK)),fldsK P fs=some L→(∀p∈L,HasK xs p)→(Op.eqFields (d+2) xs.toArray xs.toArray fs).run P w=.ok true w:=by
 intro fs
 induction fs with
 |nil=>intro L _ _;simp [Op.eqFields]
 |cons f fs ih=>
  intro L h h2
  rw [fldsK,List.mapM_cons]at h
  simp only [bind,Option.bind_eq_some_iff,pure,Option.some.injEq]at h
  obtain⟨p,hp,L',hL',rfl⟩:=h
  have ih':=ih L' hL' fun q hq=>h2 q (List.mem_cons_of_mem _ hq)
  obtain⟨v,hv,he⟩:=fld_same w d hp (h2 p (List.mem_cons_self ..))
  by_cases hn:f.name≠ "_"
  ·simp only [Op.eqFields,if_pos hn,Sem.run_bind,hv,he,Result.andThen_ok]
   simpa using ih'
  ·simp only [Op.eqFields,if_neg hn]
   exact ih'
theorem op_neSelf {P:Program} {n:Nat} {l:List (Nat×Value)} {E:World} {L Ls:List Heaplet} {X Y:Act→World→Prop} {d:Nat} {t t' ty:TypeId} {x y:Operand} {xs:List Value} {pos:_} {aft:_} {g:_} {ks:List (Nat×FldK)} (s:NxF P n l E L Ls ⟨some d,.binOp .neq t x y t',ty,pos,aft,g⟩ X Y) (hg:P.eqGuardType P.depth t=false) (ht:P.underlying t=some (.struct (P.fieldsOf t))) (hp:P.stoodInHeld t=false) (hk:fldsK P (P.fieldsOf t).toList=some ks)
 (hx:ev l x=some (.agg xs.toArray)) (hy:ev l y=some (.agg xs.toArray)) (hi: ∀p∈ks,HasK xs p) (hn:Nat.ble (d+1) n=true) (h:At n ((d,.bool false)::l) E L Y):At n l E L X:=
 op_bin s hx hy (fun w=>eqGuard_agg hg w) (fun w=>by
  rw [run_neq_struct,run_equalIn_struct w 9999 t xs.toArray xs.toArray ht hp,eqFields_self w 9997 xs _ ks hk hi]
  rfl) hn h
end Go.Proofs.YtjfagifjajielaaGreat
