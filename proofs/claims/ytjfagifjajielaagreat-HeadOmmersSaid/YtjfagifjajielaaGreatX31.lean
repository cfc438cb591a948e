/- Several texts in one: see the remarks ahead of each part. No condition but those told there. -/
import Derived.Test.YtjfagifjajielaaGreatX1
import Derived.Test.YtjfagifjajielaaGreatX27
import Derived.Test.YtjfagifjajielaaGreatX30
import Derived.Test.YtjfagifjajielaaGreatX14
import Derived.Test.YtjfagifjajielaaGreatX26
import Derived.Test.YtjfagifjajielaaGreatX12
set_option linter.unusedSimpArgs false
set_option linter.unusedVariables false
namespace Go.Proofs.YtjfagifjajielaaGreat
open Go Go.RowKit
set_option maxRecDepth 100000
def cutH (h:HdM):HdM:= { h with ex:=h.ex.take 200 }
def cutB (m:BlkM):BlkM:= { m with hd:=cutH m.hd,txs:=(m.txs.take 20).map (List.take 3000),oms:=(m.oms.take 5).map cutH,wds:=m.wds.take 20 }
theorem take_stop {α:Type} {l:List α} {i k:Nat} (h1:i≤l.length) (h2:i≤k) (h:l.length≤i∨k≤i):l.take i=l.take k:=by
 rcases h with h|h
 ·rw [List.take_of_length_le h,List.take_of_length_le (by omega)]
 ·rw [show i=k by omega]
theorem om_one {xs:List (HdM×Value)} (h: ∀x∈xs,x.2.oneCell'=true): ∀u∈omC xs,u.oneCell'=true:=fun u hu=>by
 obtain⟨x,hx,hu⟩:=List.mem_flatMap.1 hu
 exact List.all_eq_true.1 (HdM.one (h x hx)) u hu
theorem hd_up {NK M J:Heaplet} {ys:List (HdM×Value)} {x:HdM×Value} (h: ∀K:Heaplet,NK.le K→ ∀x∈ys,HdIn K x.1 x.2) (hx:HdIn M x.1 x.2) (h1:NK.le J) (h2:M.le J): ∀K:Heaplet,J.le K→ ∀y∈ys++ [x],HdIn K y.1 y.2:=fun K k y hy=>by
 rcases List.mem_append.1 hy with hy|hy
 ·exact h K (Heaplet.le_trans h1 k) y hy
 ·obtain rfl:=List.mem_singleton.1 hy
  exact hx.le (Heaplet.le_trans h2 k)
section
variable {h : HdM} {v u t o w : Value} {p : Bool}
theorem hk_x (k:h.Ok):(h.cells v)[0+445]? =some v:=aP (HdM.lens k v) (j:=13) rfl rfl
theorem hs_x (k:h.Ok):setL (h.cells v) (0+445) [u]=h.cells u:=part_put (HdM.lens k v) (j:=13) rfl rfl _
end
section
variable {N : Heaplet} {m : BlkM} {cs : List Value}
def TwB (m:BlkM) (v:Value) (L:List Heaplet):Prop:= ∃cs,v=.agg cs.toArray∧ ∀K:Heaplet,(∀M∈L,M.le K)→BlkR K (cutB m) cs
end
theorem list_bound {l:List It} {B n:Nat} (h: ∀t∈l,t.form.length≤B) (hl:l.length≤n) (hn:n*B≤100000):(itL l).form.length≤n*B+9:=by
 have h1:=forms_bound h
 have h2:l.length*B≤n*B:=Nat.mul_le_mul_right _ hl
 have:=formL_len l (by omega)
 omega
section
variable {N : Heaplet} {m : BlkM} {cs : List Value}
theorem field_hd (cs:List Value) (w:World):(Instr.field 54 (.agg cs.toArray) 0).run Tryz.prog w=.ok (.agg (cs.take 556).toArray) w:=by
 obtain⟨h1,h2⟩:=run_isAgg_agg (P:=Tryz.prog) (w:=w) (t:=44) (k:=556) (by kernel_rfl)
 simp [Instr.field,Sem.run_bind,run_underlying Tryz.underlying54,part,h1,h2,asAgg]
theorem BlkR.field (h:BlkR N m cs): ∃v,HdIn N m.hd v∧(∀w,(Instr.field 54 (.agg cs.toArray) 0).run Tryz.prog w=.ok (.agg (m.hd.cells v).toArray) w)∧cs[0+0+0]? =some (.int .i64 m.hd.fi):=by
 obtain⟨v1,ta,tc,vs,oa,oc,xs,wa,wc,rfl,hi,_⟩:=h
 have hH:=HdM.len hi.1 v1
 refine⟨v1,hi,fun w=>?_,?_⟩
 ·rw [field_hd]
  have:=part_get (blk_lens (t:=.slice ta m.txs.length tc) (o:=.slice oa m.oms.length oc) (p:=m.paid) (w:=.slice wa m.wds.length wc) hH) (j:=0) (o:=0) rfl rfl hH
  rw [List.drop_zero]at this
  rw [this]
 ·rw [←hd_f0 (v:=v1)]
  show(m.hd.cells v1++_)[0]? =_
  rw [List.getElem?_append_left (by omega)]
theorem FWH_or {h:HdM} {v:Value} (hi:HdIn N h v) (hx:h.ex.length≤4294960000):Fn Tryz.prog 20 #[.agg (h.cells v).toArray] [] [N] (fun v L=>(∃M p c,okF h.fi∧v=.tuple #[.slice p h.it.form.length c,.int .i64 0]∧L= [M]∧RSl M 1 p h.it.form.length c (u8s h.it.form))∨(¬okF h.fi∧v=.tuple #[.slice none 0 0,.int .i64 1]∧L= [])):=by
 obtain⟨k,ea,ec,rfl,r⟩:=hi
 by_cases hv:okF h.fi
 ·exact(FWriteHeader_ok k r hv hx).mono fun v L ⟨M,p,c,h1,h2,h3⟩=>.inl ⟨M,p,c,hv,h1,h2,h3⟩
 ·exact(FWriteHeader_bad k r hv).mono fun v L ⟨h1,h2⟩=>.inr ⟨hv,h1,h2⟩
theorem RWriteHeader {h:HdM} {v:Value} (hi:HdIn N h v) (hx:h.ex.length≤4294960000) (hv:okF h.fi):Fn Tryz.prog 22 #[.agg (h.cells v).toArray] [] [N] (FormP h.it):=by
 obtain⟨k,ea,ec,rfl,r⟩:=hi
 have hcl:=HdM.len k (.slice ea h.ex.length ec)
 have hfl:=HdM.form_len k hx
 refine Fn.enter (vs:= [.agg (h.cells (.slice ea h.ex.length ec)).toArray]) Tryz.func22 U U U ?_
 intro E R hR
 have hNR:=hR N (by simp)
 change At _ _ E [R] _
 refine aC fun _ s_1=>aA (op_box aZ U U U (fun N1 b1 B1=>aG U U (aB (s_1 (aC fun _ s_2=>aA (aY (ds:=h.cells (.slice ea h.ex.length ec)) aD ag44 U B1 (by exact tk_all hcl) (by exact hcl) bZ U ?_))))))
 refine aH aZ (.cons U .nil) ((rHeader k r (by omega) hv).liftB hNR) Tryz.func70 U U (by simp) U ?_
 rintro _ _ ⟨J4,x4,rfl,rfl,j4⟩
 show At _ _ _ [J4,N1,R] _
 refine aH aZ (.cons U .nil) (rForm_b (j4 J4 (Heaplet.le_refl _)) (by omega)) Tryz.func60 U U (by simp) U ?_
 rintro _ _ ⟨M5,p5,k5,rfl,rfl,r5⟩
 show At _ _ _ [M5,J4,N1,R] _
 refine aG U U (aB (s_2 (aR ((cA (a7 (aW (L1:= [M5]) U (.tmp U .nil) (.refl _) aM ?_)))))))
 exact⟨M5,p5,k5,rfl,rfl,r5⟩
end
structure PlanM where
 bl:List UInt64
 ti:List UInt64
 fr:List (List UInt8)
abbrev PlanM.good (q:PlanM):Prop:=GoodC q.bl q.ti q.fr
abbrev PlanM.at (q:PlanM) (nu tm:UInt64):Nat:=atV q.bl q.ti nu tm
def PlanM.cut (q:PlanM):PlanM:= { q with fr:=q.fr.take 40 }
def CfgIn (N:Heaplet) (q:PlanM) (cs:List Value):Prop:= ∃(ch dao:UInt64) (ao:Option Addr) (n cap:Nat) (tw:List UInt8),cs=cfg ch dao q.bl q.ti ao n cap tw∧q.bl.length=14∧q.ti.length=2∧tw.length=20∧RSl N 20 ao n cap (q.fr.flatMap u8s)∧q.fr.length=n∧ ∀a∈q.fr,a.length=20
section
variable {N : Heaplet} {q : PlanM} {cs : List Value} {nu tm : UInt64}
theorem CfgIn.len (h:CfgIn N q cs):cs.length=39∧cs.all (·.oneCell')=true:=by
 obtain⟨ch,dao,ao,n,cap,tw,rfl,hb,ht,ho,_⟩:=h
 exact⟨cfg_len hb ht ho,cfg_one⟩
theorem CfgIn.le {M:Heaplet} (h:CfgIn N q cs) (hl:N.le M):CfgIn M q cs:=by
 obtain⟨ch,dao,ao,n,cap,tw,h1,h2,h3,h4,h5,h6⟩:=h
 exact⟨ch,dao,ao,n,cap,tw,h1,h2,h3,h4,h5.le hl,h6⟩
theorem FAt_g (h:CfgIn N q cs) (nu tm:UInt64):Fn Tryz.prog 76 #[.agg cs.toArray,.int .u64 (nu.toNat:Int),.int .u64 (tm.toNat:Int)] [] [N] (fun v L=>(q.good∧v=.tuple #[.int .i64 (q.at nu tm:Nat),.int .i64 0]∧L= [])∨(¬q.good∧v=.tuple #[.int .i64 0,.int .i64 10]∧L= [])):=by
 obtain⟨ch,dao,ao,n,cap,tw,rfl,hb,ht,ho,hA,hn,h20⟩:=h
 refine(FAt_f hb ht ho hA hn h20 nu tm).mono fun v L ⟨h1,h2⟩=>?_
 by_cases hg:GoodC q.bl q.ti q.fr
 ·rw [atI_t hg,chk_t hg]at h1;exact .inl ⟨hg,h1,h2⟩
 ·rw [atI_f hg,chk_f hg]at h1;exact .inr ⟨hg,h1,h2⟩
theorem rAt_g (h:CfgIn N q cs) (nu tm:UInt64):Fn Tryz.prog 81 #[.agg cs.toArray,.int .u64 (nu.toNat:Int),.int .u64 (tm.toNat:Int)] [] [N] (fun v L=>(q.good∧v=.tuple #[.int .i64 (q.at nu tm:Nat),.int .i64 0]∧L= [])∨(¬q.good∧v=.tuple #[.int .i64 0,.int .i64 10]∧L= [])):=by
 obtain⟨ch,dao,ao,n,cap,tw,rfl,hb,ht,ho,hA,hn,h20⟩:=h
 refine(rAt_f hb ht ho hA hn h20 nu tm).mono fun v L ⟨h1,h2⟩=>?_
 by_cases hg:GoodC q.bl q.ti q.fr
 ·rw [atI_t hg,chk_t hg]at h1;exact .inl ⟨hg,h1,h2⟩
 ·rw [atI_f hg,chk_f hg]at h1;exact .inr ⟨hg,h1,h2⟩
theorem FAt_y (h:CfgIn N q cs) (hg:q.good) (nu tm:UInt64):Fn Tryz.prog 76 #[.agg cs.toArray,.int .u64 (nu.toNat:Int),.int .u64 (tm.toNat:Int)] [] [N] (fun v L=>v=.tuple #[.int .i64 (q.at nu tm:Nat),.int .i64 0]∧L= []):=(FAt_g h nu tm).mono fun v L hp=>by
 rcases hp with ⟨_,h⟩|⟨h,_⟩
 ·exact h
 ·exact absurd hg h
theorem rAt_y (h:CfgIn N q cs) (hg:q.good) (nu tm:UInt64):Fn Tryz.prog 81 #[.agg cs.toArray,.int .u64 (nu.toNat:Int),.int .u64 (tm.toNat:Int)] [] [N] (fun v L=>v=.tuple #[.int .i64 (q.at nu tm:Nat),.int .i64 0]∧L= []):=(rAt_g h nu tm).mono fun v L hp=>by
 rcases hp with ⟨_,h⟩|⟨h,_⟩
 ·exact h
 ·exact absurd hg h
theorem FTw_g (h:CfgIn N q cs):Fn Tryz.prog 25 #[.agg cs.toArray] [] [N] (fun v L=> ∃(M:Heaplet) (cs:List Value),v=.agg cs.toArray∧L= [M]∧CfgIn M q.cut cs):=by
 obtain⟨ch,dao,ao,n,cap,tw,rfl,hb,ht,ho,hA,hn,h20⟩:=h
 exact(FTwin_f hb ht ho hA hn h20).mono fun v L ⟨M,a,k,c,h1,h2,h3,h4⟩=>⟨M,_,h1,h2,ch,dao,a,k,c,tw,rfl,hb,ht,ho,h3.rsl,h4,fun x hx=>h20 x (List.mem_of_mem_take hx)⟩
end
def fieldsN (f:Nat):Int:=if f<10 then 15 else if f<14 then 16 else if f=14 then 17 else 20
theorem FFields (f:Nat):Fn Tryz.prog 123 #[.int .i64 (f:Int)] [] [] (fun v L=>v=.int .i64 (fieldsN f)∧L= []):=by
 refine Fn.enter (vs:= [.int .i64 (f:Int)]) Tryz.func123 U U U ?_
 intro E R hR
 change At _ _ E [R] _
 refine aC fun _ s_1=>aA (aG U U (aB (s_1 (aC fun _ s_2=>aT (aC fun _ s_3=>aA (aF U U (op_geq aD U U U (aG U U (aB (s_3 (aO U (fun c3=>?_) (fun c3=>?_))))))))))))
 ·refine aC fun _ s_4=>aA (aG U U (aB (s_4 (aR (b9 (aJ ((aW (L1:= []) U (.tmp U .nil) (.refl _) aM ?_))))))))
  exact⟨by rw [fieldsN,if_neg (by omega),if_neg (by omega),if_neg (by omega)],rfl⟩
 refine aC fun _ s_5=>aA (aF U U (op_geq aD U U U (aG U U (aB (s_5 (aO U (fun c6=>?_) (fun c6=>?_)))))))
 ·refine aC fun _ s_6=>aA (aG U U (aB (s_6 (aR (b9 (aJ ((aW (L1:= []) U (.tmp U .nil) (.refl _) aM ?_))))))))
  exact⟨by rw [fieldsN,if_neg (by omega),if_neg (by omega),if_pos (by omega)],rfl⟩
 refine aC fun _ s_7=>aA (aF U U (op_geq aD U U U (aG U U (aB (s_7 (aO U (fun c9=>?_) (fun c9=>?_)))))))
 ·refine aC fun _ s_8=>aA (aG U U (aB (s_8 (aR (b9 (aJ ((aW (L1:= []) U (.tmp U .nil) (.refl _) aM ?_))))))))
  exact⟨by rw [fieldsN,if_neg (by omega),if_pos (by omega)],rfl⟩
 refine aQ (a0 (aE (s_2 (aC fun _ s_9=>aA (aG U U (aB (s_9 (aR ((aW (L1:= []) U (.tmp U .nil) (.refl _) aM ?_))))))))))
 exact⟨by rw [fieldsN,if_pos (by omega)],rfl⟩
theorem rFields (f:Nat):Fn Tryz.prog 83 #[.int .i64 (f:Int)] [] [] (fun v L=>v=.int .i64 (fieldsN f)∧L= []):=by
 refine Fn.enter (vs:= [.int .i64 (f:Int)]) Tryz.func83 U U U ?_
 intro E R hR
 change At _ _ E [R] _
 refine aC fun _ s_1=>aA (aG U U (aB (s_1 (aC fun _ s_2=>aT (aC fun _ s_3=>aA (aF U U (op_lss aD U U U (aG U U (aB (s_3 (aO U (fun c3=>?_) (fun c3=>?_))))))))))))
 ·refine aC fun _ s_4=>aA (aG U U (aB (s_4 (aR (b9 (aJ ((aW (L1:= []) U (.tmp U .nil) (.refl _) aM ?_))))))))
  exact⟨by rw [fieldsN,if_pos (by omega)],rfl⟩
 refine aC fun _ s_5=>aA (aF U U (op_lss aD U U U (aG U U (aB (s_5 (aO U (fun c6=>?_) (fun c6=>?_)))))))
 ·refine aC fun _ s_6=>aA (aG U U (aB (s_6 (aR (b9 (aJ ((aW (L1:= []) U (.tmp U .nil) (.refl _) aM ?_))))))))
  exact⟨by rw [fieldsN,if_neg (by omega),if_pos (by omega)],rfl⟩
 refine aC fun _ s_7=>aA (aF U U (op_eql aD U U U (aG U U (aB (s_7 (aO U (fun c9=>?_) (fun c9=>?_)))))))
 ·refine aC fun _ s_8=>aA (aG U U (aB (s_8 (aR (b9 (aJ ((aW (L1:= []) U (.tmp U .nil) (.refl _) aM ?_))))))))
  exact⟨by rw [fieldsN,if_neg (by omega),if_neg (by omega),if_pos (by omega)],rfl⟩
 refine aQ (a0 (aE (s_2 (aC fun _ s_9=>aA (aG U U (aB (s_9 (aR ((aW (L1:= []) U (.tmp U .nil) (.refl _) aM ?_))))))))))
 exact⟨by rw [fieldsN,if_neg (by omega),if_neg (by omega),if_neg (by omega)],rfl⟩
def hsh (h:HdM):List UInt8:=kec h.it.form
theorem FKec_z {N:Heaplet} {ao:Option Addr} {n cap:Nat} {l z:List UInt8} (hz:kec l=z) (hb:RSl N 1 ao n cap (u8s l)) (hn:n≤1099511627776):Fn Tryz.prog 78 #[.slice ao n cap] [] [N] (fun v L=>v=.agg (u8s z).toArray∧L= []):=hz▸FKeccak_f hb hn
theorem rKec_z {N:Heaplet} {ao:Option Addr} {n cap:Nat} {l z:List UInt8} (hz:kec l=z) (hb:RSl N 1 ao n cap (u8s l)) (hn:n≤1099511627776):Fn Tryz.prog 82 #[.slice ao n cap] [] [N] (fun v L=>v=.agg (u8s z).toArray∧L= []):=hz▸rKeccak_f hb hn
section
variable {N : Heaplet} {h : HdM} {v : Value} {z : List UInt8}
set_option maxHeartbeats 4000000 in
theorem FHash_z (hz:kec h.it.form=z) (hi:HdIn N h v) (hx:h.ex.length≤4294960000):Fn Tryz.prog 77 #[.agg (h.cells v).toArray] [] [N] (fun v L=>(okF h.fi∧v=.tuple #[.agg (u8s z).toArray,.int .i64 0]∧L= [])∨(¬okF h.fi∧ ∃y:List Value,v=.tuple #[.agg y.toArray,.int .i64 1]∧y.length=32∧y.all (·.oneCell')=true∧L= [])):=by
 have hcl:=HdM.len hi.1 v
 obtain⟨_,ho⟩:=hi.one
 have hfl:=HdM.form_len hi.1 hx
 have hzl:z.length=32:=by rw [←hz,kec_len]
 have hul:(u8s z).length=32:=by rw [cK,hzl]
 refine Fn.enter (vs:= [.agg (h.cells v).toArray]) Tryz.func77 U U U ?_
 intro E R hR
 have hNR:=hR N (by simp)
 change At _ _ E [R] _
 refine aC fun _ s_1=>aA (op_box aZ U U U (fun N1 b1 B1=>bE aZ ze40 U (fun N2 b2 B2=>?_)))
 change Blk N2 b2 _ [.int .u8 0,.int .u8 0,.int .u8 0,.int .u8 0,.int .u8 0,.int .u8 0,.int .u8 0,.int .u8 0,.int .u8 0,.int .u8 0,.int .u8 0,.int .u8 0,.int .u8 0,.int .u8 0,.int .u8 0,.int .u8 0,.int .u8 0,.int .u8 0,.int .u8 0,.int .u8 0,.int .u8 0,.int .u8 0,.int .u8 0,.int .u8 0,.int .u8 0,.int .u8 0,.int .u8 0,.int .u8 0,.int .u8 0,.int .u8 0,.int .u8 0,.int .u8 0]at B2
 refine aG U U (aB (s_1 (aC fun _ s_2=>aA (aY (ds:=h.cells v) aD ag44 U B1 (by exact tk_all hcl) (by exact hcl) mem1 U ?_))))
 refine aH aZ (.cons U .nil) ((FWH_or hi hx).liftB hNR) Tryz.func20 U U (by simp) U ?_
 rintro _ _ (⟨M8,p8,c8,hok,rfl,rfl,s8⟩|⟨hbad,rfl,rfl⟩)
 ·show At _ _ _ [M8,N2,N1,R] _
  refine aF U U (aN aD U U U (aN aD U U U (aG U U (aG U U (aB (s_2 (aC fun _ s_3=>aC fun _ s_4=>aA (aF U U (op_neq aD U U U (aB (s_4 (aO U (fun c12=>?_) (fun c12=>?_)))))))))))))
  ·exact absurd U c12
  refine At.knowF (d:=12) U c12 (aQ (aE (s_3 (aC fun _ s_5=>aA (aF U U (aH aZ (.cons U .nil) (FKec_z hz s8 (by omega)) Tryz.func78 U U (by simp) U ?_))))))
  rintro _ _ ⟨rfl,rfl⟩
  show At _ _ _ [M8,N2,N1,R] _
  refine aX nxQ sz40 U U U hul (by rw [List.all_eq_true];exact one_u8s _) B2 (by rw [hul];exact Nat.le_refl _) sel1 (fun N2 B2=>?_)
  rw [setL_whole (by rw [hul];rfl)]at B2
  refine aG U U (aB (s_5 (aR ((cA (a7 (bV (L1:= []) U (.cell U (res_agg (ds:=_) ag40 B2 (by first|exact tk_all hul|rfl) (by first|exact hul|rfl) bZ) (.tmp U .nil)) U (.cons _ (.refl _)) aM ?_)))))))
  exact .inl ⟨hok,rfl,rfl⟩
 show At _ _ _ [N2,N1,R] _
 refine aF U U (aN aD U U U (aN aD U U U (aG U U (aG U U (aB (s_2 (aC fun _ s_6=>aC fun _ s_7=>aA (aF U U (op_neq aD U U U (aB (s_7 (aO U (fun c12=>?_) (fun c12=>?_)))))))))))))
 rotate_left
 ·exfalso;omega
 refine At.knowT (d:=12) U c12 (aC fun _ s_8=>aA (op_buildA (out:= [.int .u8 0,.int .u8 0,.int .u8 0,.int .u8 0,.int .u8 0,.int .u8 0,.int .u8 0,.int .u8 0,.int .u8 0,.int .u8 0,.int .u8 0,.int .u8 0,.int .u8 0,.int .u8 0,.int .u8 0,.int .u8 0,.int .u8 0,.int .u8 0,.int .u8 0,.int .u8 0,.int .u8 0,.int .u8 0,.int .u8 0,.int .u8 0,.int .u8 0,.int .u8 0,.int .u8 0,.int .u8 0,.int .u8 0,.int .u8 0,.int .u8 0,.int .u8 0]) aD ze40 ae40 .nil U U (aF U U (aX nxQ sz40 U U U U U B2 (by simp) sel0 (fun N2 B2=>?_)))))
 simp only [setL,List.set]at B2
 refine aG U U (aB (s_8 (aR (aJ ((a7 (bV (L1:= []) U (.cell U (res_agg (ds:=_) ag40 B2 (by first|exact tk_all hul|rfl) (by first|exact hul|rfl) bZ) (.tmp U .nil)) U (.cons _ (.refl _)) aM ?_)))))))
 exact .inr ⟨hbad,_,rfl,rfl,rfl,rfl⟩
end
end Go.Proofs.YtjfagifjajielaaGreat
