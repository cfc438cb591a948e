/- Several texts in one: see the remarks ahead of each part. No condition but those told there. -/
import Derived.Test.YtjfagifjajielaaGreatU15
import Derived.Test.YtjfagifjajielaaGreatU9
import Derived.Test.YtjfagifjajielaaGreatU1
import Derived.Test.YtjfagifjajielaaGreatU2
import Derived.Test.YtjfagifjajielaaGreatU16
set_option linter.unusedSimpArgs false
set_option linter.unusedVariables false
/- Layer 14: parts of a fixed length, numbers. No condition. -/
namespace Go.Proofs.YtjfagifjajielaaGreat
open Go Go.RowKit
set_option maxRecDepth 100000
theorem FnE.liftB {P:Program} {f:FuncId} {args:Array Value} {L0:List Heaplet} {N R:Heaplet} {Post Pan:Value→List Heaplet→Prop} (h:FnE P f args L0 [N] Post Pan) (hl:N.le R):FnE P f args L0 [R] Post Pan:=fun E w F hp hr=>
 h E w F hp fun M hM=>by rw [List.mem_singleton.1 hM];exact Heaplet.le_trans hl (hr R (by simp))
section
variable {Np NI : Heaplet} {bp k : Nat} {t : It} {ts : List It} {z : IV} {zs : List IV}
theorem FCheck_any (e:Nat):FnE Tryz.prog 30 #[.int .i64 (e:Int)] [] [] (fun v L=>v=.tuple #[]∧L= []∧e=0) (fun v L=>v=gaveV e∧L= []∧e≠0):=by
 by_cases h:e=0
 ·subst h
  exact(FCheck_0.mono (fun v L h=>⟨h.1,h.2,rfl⟩)).x
 ·exact(FCheck_e (e:=(e:Int)) (by omega)).mono (fun _ _ h=>h.elim) (fun v L k=>⟨k.1,k.2,h⟩)
theorem FFixed_p (h:PartsN Np NI bp (z::zs) (t::ts)):FnE Tryz.prog 107 #[.pointer (some ⟨bp,0,none⟩),.int .i64 (k:Int)] [Np] [NI] (fun v L=> ∃Np a c b,v=.slice a b.length c∧L= [Np]∧fixE k t=.ok b∧b.length=k∧PartsN Np NI bp zs ts∧RSl NI 1 a b.length c (u8s b)) (fun v L=> ∃e:Nat,v=gaveV e∧L= []∧fixE k t=.error e):=by
 have h1:=FBytes_p h
 refine FnE.enter (vs:= [.pointer (some ⟨bp,0,none⟩),.int .i64 (k:Int)]) Tryz.func107 rfl rfl rfl ?_
 intro E R hR
 have h1:=h1.liftB (hR NI (by simp))
 change At _ _ E [Np,R] _
 refine At.seq fun _ s_1=>At.region (aD (aC rfl) rfl rfl (aA (aB (s_1 (At.seq fun _ s_2=>At.region (aE (aC rfl) rfl rfl (op_callE (.cons rfl .nil) (h1) (F:= [R]) Tryz.func90 rfl rfl (.refl _) (by simp) rfl ?_ ?_)))))))
 ·rintro v7 L7 ⟨e,rfl,rfl,he⟩
  change At _ _ _ [R] _
  refine aX ((At.pan (L1:= []) (.refl _) (.refl _) ?_))
  exact⟨e,rfl,rfl,by simp only [fixE,he]⟩
 rintro v7 L7 ⟨Mp,a,c,b,rfl,rfl,e,hp,hr⟩
 change At _ _ _ [Mp,R] _
 refine aD (aC rfl) rfl rfl (aA (aB (s_2 (At.seq fun _ s_3=>At.region (aE (aC rfl) rfl rfl (a7 (aC rfl) se22 rfl rfl (aE (aC rfl) rfl rfl (op_eql (aC rfl) rfl rfl rfl (op_callE (.cons rfl .nil) (FMust_any (decide ((b.length:Int)=(k:Int)))) (F:= [Mp,R]) Tryz.func31 rfl rfl (.refl _) (by simp) rfl ?_ ?_)))))))))
 ·rintro v12 L12 ⟨rfl,rfl,hb⟩
  change At _ _ _ [Mp,R] _
  refine aX ((At.sub (L':= [R]) (.cons _ (.cons_cons _ (.slnil))) (At.pan (L1:= []) (.refl _) (.refl _) ?_)))
  have hb:=of_decide_eq_false hb
  exact⟨2,rfl,rfl,by simp only [fixE,e];rw [if_neg (by omega)]⟩
 rintro v12 L12 ⟨rfl,rfl,hb⟩
 change At _ _ _ [Mp,R] _
 refine aA (aB (s_3 (At.seq fun _ s_4=>At.region (aE (aC rfl) rfl rfl (aD (aC rfl) rfl rfl (aA (aB (s_4 (At.ret ((At.retX (aW (L1:= [Mp]) rfl (.tmp rfl .nil) (.refl _) (.refl _) ?_))))))))))))
 have hb:=of_decide_eq_true hb
 exact⟨Mp,a,c,b,rfl,rfl,by simp only [fixE,e];rw [if_pos (by omega)],by omega,hp,hr⟩
theorem FHash_p (h:PartsN Np NI bp (z::zs) (t::ts)):FnE Tryz.prog 106 #[.pointer (some ⟨bp,0,none⟩)] [Np] [NI] (fun v L=> ∃Np b,v=.agg (u8s b).toArray∧L= [Np]∧fixE 32 t=.ok b∧b.length=32∧PartsN Np NI bp zs ts) (fun v L=> ∃e:Nat,v=gaveV e∧L= []∧fixE 32 t=.error e):=by
 have h1:=FFixed_p (k:=32) h
 refine FnE.enter (vs:= [.pointer (some ⟨bp,0,none⟩)]) Tryz.func106 rfl rfl rfl ?_
 intro E R hR
 have hNR:=hR NI (by simp)
 have h1:=h1.liftB hNR
 change At _ _ E [Np,R] _
 refine At.seq fun _ s_1=>At.region (aS (aT rfl) ze40 rfl (fun N2 b2 B2=>?_))
 change Blk N2 b2 _ [.int .u8 0,.int .u8 0,.int .u8 0,.int .u8 0,.int .u8 0,.int .u8 0,.int .u8 0,.int .u8 0,.int .u8 0,.int .u8 0,.int .u8 0,.int .u8 0,.int .u8 0,.int .u8 0,.int .u8 0,.int .u8 0,.int .u8 0,.int .u8 0,.int .u8 0,.int .u8 0,.int .u8 0,.int .u8 0,.int .u8 0,.int .u8 0,.int .u8 0,.int .u8 0,.int .u8 0,.int .u8 0,.int .u8 0,.int .u8 0,.int .u8 0,.int .u8 0]at B2
 refine aA (aB (s_1 (At.seq fun _ s_2=>At.region (aE (aC rfl) rfl rfl (At.perm sel2 (At.perm sel1 (At.perm sel2 (op_callE (.cons rfl (.cons rfl .nil)) (h1) (F:= [N2,R]) Tryz.func107 rfl rfl (.refl _) (by simp) rfl ?_ ?_))))))))
 ·rintro v4 L4 ⟨e,rfl,rfl,he⟩
  change At _ _ _ [N2,R] _
  refine aX ((At.sub (L':= [R]) (.cons _ (.cons_cons _ (.slnil))) (At.pan (L1:= []) (.refl _) (.refl _) ?_)))
  exact⟨e,rfl,rfl,he⟩
 rintro v4 L4 ⟨Mp,a,c,b,rfl,rfl,e,hbl,hp,hr⟩
 change At _ _ _ [Mp,N2,R] _
 have hrR:=hr.le hNR
 obtain⟨bT,oT,hto,hrT⟩:=hrR.2.2.2 (by omega)
 subst hto
 refine op_toArr (aC rfl) ae40 rfl (by omega) rfl ?_
 refine op_loadAgg (aC rfl) ag40 rfl hrT (by rw [aY];exact hbl) mem2 rfl ?_
 refine aI (nxl rfl) sz40 rfl rfl rfl (by rw [aY];exact hbl) (all8x2 _) B2 (by rw [aY,hbl];exact Nat.le_refl _) sel1 (fun N2 B2=>?_)
 rw [setL_whole (by rw [aY,hbl];rfl)]at B2
 refine aA (aB (s_2 (At.ret ((At.retX (aW (L1:= [Mp]) rfl (.cell rfl (aZ (ds:=u8s b) ag40 B2 (tk_all (by rw [aY,hbl])) (by rw [aY,hbl]) aP) .nil) (.cons _ (.refl _)) (.refl _) ?_))))))
 exact⟨Mp,b,rfl,rfl,e,hbl,hp⟩
theorem FAddr_p (h:PartsN Np NI bp (z::zs) (t::ts)):FnE Tryz.prog 59 #[.pointer (some ⟨bp,0,none⟩)] [Np] [NI] (fun v L=> ∃Np b,v=.agg (u8s b).toArray∧L= [Np]∧fixE 20 t=.ok b∧b.length=20∧PartsN Np NI bp zs ts) (fun v L=> ∃e:Nat,v=gaveV e∧L= []∧fixE 20 t=.error e):=by
 have h1:=FFixed_p (k:=20) h
 refine FnE.enter (vs:= [.pointer (some ⟨bp,0,none⟩)]) Tryz.func59 rfl rfl rfl ?_
 intro E R hR
 have hNR:=hR NI (by simp)
 have h1:=h1.liftB hNR
 change At _ _ E [Np,R] _
 refine At.seq fun _ s_1=>At.region (aS (aT rfl) ze28 rfl (fun N2 b2 B2=>?_))
 change Blk N2 b2 _ [.int .u8 0,.int .u8 0,.int .u8 0,.int .u8 0,.int .u8 0,.int .u8 0,.int .u8 0,.int .u8 0,.int .u8 0,.int .u8 0,.int .u8 0,.int .u8 0,.int .u8 0,.int .u8 0,.int .u8 0,.int .u8 0,.int .u8 0,.int .u8 0,.int .u8 0,.int .u8 0]at B2
 refine aA (aB (s_1 (At.seq fun _ s_2=>At.region (aE (aC rfl) rfl rfl (At.perm sel2 (At.perm sel1 (At.perm sel2 (op_callE (.cons rfl (.cons rfl .nil)) (h1) (F:= [N2,R]) Tryz.func107 rfl rfl (.refl _) (by simp) rfl ?_ ?_))))))))
 ·rintro v4 L4 ⟨e,rfl,rfl,he⟩
  change At _ _ _ [N2,R] _
  refine aX ((At.sub (L':= [R]) (.cons _ (.cons_cons _ (.slnil))) (At.pan (L1:= []) (.refl _) (.refl _) ?_)))
  exact⟨e,rfl,rfl,he⟩
 rintro v4 L4 ⟨Mp,a,c,b,rfl,rfl,e,hbl,hp,hr⟩
 change At _ _ _ [Mp,N2,R] _
 have hrR:=hr.le hNR
 obtain⟨bT,oT,hto,hrT⟩:=hrR.2.2.2 (by omega)
 subst hto
 refine op_toArr (aC rfl) ae28 rfl (by omega) rfl ?_
 refine op_loadAgg (aC rfl) ag28 rfl hrT (by rw [aY];exact hbl) mem2 rfl ?_
 refine aI (nxl rfl) sz28 rfl rfl rfl (by rw [aY];exact hbl) (all8x2 _) B2 (by rw [aY,hbl];exact Nat.le_refl _) sel1 (fun N2 B2=>?_)
 rw [setL_whole (by rw [aY,hbl];rfl)]at B2
 refine aA (aB (s_2 (At.ret ((At.retX (aW (L1:= [Mp]) rfl (.cell rfl (aZ (ds:=u8s b) ag28 B2 (tk_all (by rw [aY,hbl])) (by rw [aY,hbl]) aP) .nil) (.cons _ (.refl _)) (.refl _) ?_))))))
 exact⟨Mp,b,rfl,rfl,e,hbl,hp⟩
theorem FWord_p (h:PartsN Np NI bp (z::zs) (t::ts)):FnE Tryz.prog 88 #[.pointer (some ⟨bp,0,none⟩)] [Np] [NI] (fun v L=> ∃Np x,v=wo x∧L= [Np]∧wordE t=.ok x∧x<WW∧PartsN Np NI bp zs ts) (fun v L=> ∃e:Nat,v=gaveV e∧L= []∧wordE t=.error e):=by
 have h1:=FBytes_p h
 refine FnE.enter (vs:= [.pointer (some ⟨bp,0,none⟩)]) Tryz.func88 rfl rfl rfl ?_
 intro E R hR
 have hNR:=hR NI (by simp)
 have h1:=h1.liftB hNR
 change At _ _ E [Np,R] _
 refine At.seq fun _ s_1=>At.region (aS (aT rfl) ze26 rfl (fun N2 b2 B2=>?_))
 change Blk N2 b2 _ [.int .u64 0,.int .u64 0,.int .u64 0,.int .u64 0]at B2
 refine aA (aB (s_1 (At.seq fun _ s_2=>At.region (aE (aC rfl) rfl rfl (At.perm sel2 (At.perm sel1 (At.perm sel2 (op_callE (.cons rfl .nil) (h1) (F:= [N2,R]) Tryz.func90 rfl rfl (.refl _) (by simp) rfl ?_ ?_))))))))
 ·rintro v7 L7 ⟨e,rfl,rfl,he⟩
  change At _ _ _ [N2,R] _
  refine aX ((At.sub (L':= [R]) (.cons _ (.cons_cons _ (.slnil))) (At.pan (L1:= []) (.refl _) (.refl _) ?_)))
  exact⟨e,rfl,rfl,by simp only [wordE,he]⟩
 rintro v7 L7 ⟨Mp,a,c,b,rfl,rfl,e,hp,hr⟩
 change At _ _ _ [Mp,N2,R] _
 refine aG (aT rfl) (.cons rfl .nil) (Number_f (hr.le hNR)) Tryz.func141 rfl rfl (by simp) rfl ?_
 rintro v8 L8 ⟨wa,wb,wc,wd,rfl,rfl,hv⟩
 change At _ _ _ [Mp,N2,R] _
 refine aE (aC rfl) rfl rfl (aH (aC rfl) rfl rfl rfl (aH (aC rfl) rfl rfl rfl (aS (aT rfl) ze26 rfl (fun N3 b3 B3=>?_))))
 change Blk N3 b3 _ [.int .u64 0,.int .u64 0,.int .u64 0,.int .u64 0]at B3
 refine aI (nxl rfl) sz26 rfl rfl rfl rfl rfl B3 (by simp) sel0 (fun N3 B3=>?_)
 simp only [setL,List.set]at B3
 refine aD (aC rfl) rfl rfl (aA (aB (s_2 (At.seq fun _ s_3=>At.region (aE (aC rfl) rfl rfl (op_callE (.cons rfl .nil) (FCheck_any (numE b)) (F:= [N3,Mp,N2,R]) Tryz.func30 rfl rfl (.refl _) (by simp) rfl ?_ ?_))))))
 ·rintro v12 L12 ⟨rfl,rfl,hz⟩
  change At _ _ _ [N3,Mp,N2,R] _
  refine aX ((At.sub (L':= [R]) (.cons _ (.cons _ (.cons _ (.cons_cons _ (.slnil))))) (At.pan (L1:= []) (.refl _) (.refl _) ?_)))
  exact⟨numE b,rfl,rfl,by simp only [wordE,e];rw [if_neg hz]⟩
 rintro v12 L12 ⟨rfl,rfl,hz⟩
 change At _ _ _ [N3,Mp,N2,R] _
 refine aA (aB (s_3 (At.seq fun _ s_4=>At.region (aQ (ds:= [_,_,_,_]) (aC rfl) ag26 rfl B3 rfl rfl aP rfl (aI (nxl rfl) sz26 rfl rfl rfl rfl rfl B2 (by simp) sel2 (fun N2 B2=>?_))))))
 simp only [setL,List.set]at B2
 refine aA (aB (s_4 (At.ret ((At.retX (At.sub (L':= [N2,Mp,R]) (.cons_cons _ (.cons _ (.cons_cons _ (.cons_cons _ (.slnil))))) (aW (L1:= [Mp]) rfl (.cell rfl (aZ (ds:= [_,_,_,_]) ag26 B2 rfl rfl aP) .nil) (.cons _ (.refl _)) (.refl _) ?_)))))))
 have hw:v64 [wa,wb,wc,wd]=be b:=by rw [hv,numV,if_pos hz]
 refine⟨Mp,be b,?_,rfl,by simp only [wordE,e];rw [if_pos hz],hw▸v64_lt4 rfl,hp⟩
 rw [←hw];exact wo_list (w:= [wa,wb,wc,wd]) rfl
theorem WSmall_b {x:Nat} (hx:x<WW):Fn Tryz.prog 108 #[wo x] [] [] (fun v L=>v=.tuple #[.int .u64 ((if x<2^64 then x else 0:Nat):Int),.bool (decide (x<2^64))]∧L= []):=by
 by_cases h:x<2^64
 ·rw [if_pos h,decide_eq_true h];exact WSmall_f hx h
 ·rw [if_neg h,decide_eq_false h];exact WSmall_no hx h
theorem FSmall_p (h:PartsN Np NI bp (z::zs) (t::ts)):FnE Tryz.prog 58 #[.pointer (some ⟨bp,0,none⟩)] [Np] [NI] (fun v L=> ∃Np x,v=.int .u64 ((x:Nat):Int)∧L= [Np]∧smallE t=.ok x∧x<2^64∧PartsN Np NI bp zs ts) (fun v L=> ∃e:Nat,v=gaveV e∧L= []∧smallE t=.error e):=by
 have h1:=FWord_p h
 refine FnE.enter (vs:= [.pointer (some ⟨bp,0,none⟩)]) Tryz.func58 rfl rfl rfl ?_
 intro E R hR
 have hNR:=hR NI (by simp)
 have h1:=h1.liftB hNR
 change At _ _ E [Np,R] _
 refine At.seq fun _ s_1=>At.region (aD (aC rfl) rfl rfl (aA (aB (s_1 (At.seq fun _ s_2=>At.region (aE (aC rfl) rfl rfl (op_callE (.cons rfl .nil) (h1) (F:= [R]) Tryz.func88 rfl rfl (.refl _) (by simp) rfl ?_ ?_)))))))
 ·rintro v7 L7 ⟨e,rfl,rfl,he⟩
  change At _ _ _ [R] _
  refine aX ((At.pan (L1:= []) (.refl _) (.refl _) ?_))
  exact⟨e,rfl,rfl,by simp only [smallE,he]⟩
 rintro v7 L7 ⟨Mp,x,rfl,rfl,e,hx,hp⟩
 change At _ _ _ [Mp,R] _
 refine aG (aT rfl) (.cons rfl .nil) (WSmall_b hx) Tryz.func108 rfl rfl (by simp) rfl ?_
 rintro v8 L8 ⟨rfl,rfl⟩
 change At _ _ _ [Mp,R] _
 refine aE (aC rfl) rfl rfl (aH (aC rfl) rfl rfl rfl (aH (aC rfl) rfl rfl rfl (aD (aC rfl) rfl rfl (aD (aC rfl) rfl rfl (aA (aB (s_2 (At.seq fun _ s_3=>At.seq fun _ s_4=>At.region (aE (aC rfl) rfl rfl (op_notP (aC rfl) rfl rfl (aA (aB (s_4 (aO rfl (fun c12=>?_) (fun c12=>?_)))))))))))))))
 ·refine At.region (op_callE (.cons rfl .nil) (FCheck_e (by decide)) (F:= [Mp,R]) Tryz.func30 rfl rfl (.refl _) (by simp) rfl ?_ ?_)
  ·rintro v13 L13 ⟨rfl,rfl⟩
   change At _ _ _ [Mp,R] _
   refine aX ((At.sub (L':= [R]) (.cons _ (.cons_cons _ (.slnil))) (At.pan (L1:= []) (.refl _) (.refl _) ?_)))
   exact⟨3,rfl,rfl,by simp only [smallE,e];rw [if_neg c12]⟩
  intro _ _ h_;exact h_.elim
 refine At.skip (aB (s_3 (At.seq fun _ s_5=>At.region (aE (aC rfl) rfl rfl (aD (aC rfl) rfl rfl (aA (aB (s_5 (At.ret ((At.retX (aW (L1:= [Mp]) rfl (.tmp rfl .nil) (.refl _) (.refl _) ?_))))))))))))
 have hlt:x<2^64:=Decidable.not_not.1 c12
 rw [if_pos hlt]
 exact⟨Mp,x,rfl,rfl,by simp only [smallE,e];rw [if_pos hlt],hlt,hp⟩
end
end Go.Proofs.YtjfagifjajielaaGreat
/- Layer 14: a list is opened, its parts are counted. No condition. -/
namespace Go.Proofs.YtjfagifjajielaaGreat
open Go Go.RowKit
set_option maxRecDepth 100000
def intC (ks:List Nat):List Value:=ks.map fun k:Nat=>Value.int .i64 (k:Int)
theorem intC_get {ks:List Nat} {i:Nat} (h:i<ks.length):(intC ks)[i]? =some (.int .i64 ((ks.getD i 0:Nat):Int)):=by
 rw [intC,List.getElem?_map,List.getElem?_eq_getElem h,List.getD_eq_getElem?_getD,List.getElem?_eq_getElem h];rfl
theorem no_next {P:Nat→Prop} {i:Nat} (h: ∀j,j<i→P j) (hi:P i): ∀j,j<i+1→P j:=fun j hj=>by
 rcases Nat.lt_or_ge j i with k|k
 ·exact h j k
 ·rw [show j=i by omega];exact hi
theorem getD_at {ks:List Nat} {i:Nat} (h:i<ks.length):ks.getD i 0=ks[i]:=by
 rw [List.getD_eq_getElem?_getD,List.getElem?_eq_getElem h];rfl
section
variable {Np NI M : Heaplet} {bp n cap m c : Nat} {ao a : Option Addr} {t : It} {ts : List It} {x z : IV} {zs : List IV} {ks : List Nat}
theorem listE_of (h:ItN NI t x):(x.l=false∧listE t=.error 2)∨(x.l=true∧ ∃its xs,listE t=.ok its∧RSl NI 3 x.ai x.ni x.ci (cellsI xs)∧ItsN NI its xs):=by
 obtain⟨l,bs,its⟩:=t
 simp only [ItN]at h
 obtain⟨h1,_,xs,h3,h4⟩:=h
 cases l with
 |false=>exact .inl ⟨h1,rfl⟩
 |true=>exact .inr ⟨h1,its,xs,rfl,h3,h4⟩
theorem FOpened_p (h:ItN NI t x):FnE Tryz.prog 33 #[.agg #[.bool x.l,.slice x.ab x.nb x.cb,.slice x.ai x.ni x.ci]] [] [NI] (fun v L=> ∃Np bp its zs,v=.pointer (some ⟨bp,0,none⟩)∧L= [Np]∧listE t=.ok its∧PartsN Np NI bp zs its∧RSl NI 3 x.ai x.ni x.ci (cellsI zs)) (fun v L=> ∃e:Nat,v=gaveV e∧L= []∧listE t=.error e):=by
 have hq:=listE_of h
 refine FnE.enter (vs:= [.agg #[.bool x.l,.slice x.ab x.nb x.cb,.slice x.ai x.ni x.ci]]) Tryz.func33 rfl rfl rfl ?_
 intro E R hR
 change At _ _ E [R] _
 refine At.seq fun _ s_1=>At.region (op_box (aT rfl) rfl rfl rfl (fun N1 b1 B1=>aD (aC rfl) rfl rfl (aA (aB (s_1 (At.seq fun _ s_2=>At.region (aF (aC rfl) fl91_0 rfl rfl (aL (aC rfl) sc4 rfl B1 (by first|rfl) aP rfl ?_))))))))
 refine op_callE (.cons rfl .nil) (FMust_any x.l) (F:= [N1,R]) Tryz.func31 rfl rfl (.refl _) (by simp) rfl ?_ ?_
 ·rintro v5 L5 ⟨rfl,rfl,hb⟩
  change At _ _ _ [N1,R] _
  refine aX ((At.sub (L':= [R]) (.cons _ (.cons_cons _ (.slnil))) (At.pan (L1:= []) (.refl _) (.refl _) ?_)))
  rcases hq with ⟨_,e⟩|⟨h,_⟩
  ·exact⟨2,rfl,rfl,e⟩
  ·rw [hb]at h;cases h
 rintro v5 L5 ⟨rfl,rfl,hb⟩
 change At _ _ _ [N1,R] _
 refine aA (aB (s_2 (At.seq fun _ s_3=>At.region (aF (aC rfl) fl91_2 rfl rfl (aL (aC rfl) sc89 rfl B1 (by first|rfl) aP rfl ?_)))))
 refine op_build (out:= [_]) (aC rfl) ze157 pl157 (.cons rfl .nil) rfl rfl (op_box (aT rfl) rfl rfl rfl (fun N9 b9 B9=>aD (aC rfl) rfl rfl (aA (aB (s_3 (At.ret ((At.retX (At.sub (L':= [N9,R]) (.cons_cons _ (.cons _ (.cons_cons _ (.slnil)))) (aW (L1:= [N9]) rfl (.tmp rfl .nil) (.refl _) (.refl _) ?_))))))))))
 rcases hq with ⟨h,_⟩|⟨_,its,xs,e,h3,h4⟩
 ·rw [hb]at h;cases h
 ·exact⟨N9,b9,its,xs,rfl,rfl,e,⟨_,_,_,B9,h3,h4⟩,h3⟩
theorem PartsN.len (h:PartsN Np NI bp zs ts): ∃ao cap,Blk Np bp 157 [.slice ao ts.length cap]∧ts.length≤cap∧cap≤maxLen:=by
 obtain⟨ao,n,cap,B,hs,hi⟩:=h
 have hn:=hs.1
 rw [cellsI_len,hi.length]at hn
 have:n=ts.length:=by omega
 subst this
 exact⟨ao,cap,B,hs.2.1,hs.2.2.1⟩
theorem FJust_p (h:PartsN Np NI bp zs ts) (hk:RSl M 1 a m c (intC ks)) (hm:m≤1099511627776):FnE Tryz.prog 51 #[.pointer (some ⟨bp,0,none⟩),.slice a m c] [Np] [M] (fun v L=>v=.int .i64 (ts.length:Int)∧L= [Np]∧ts.length∈ks) (fun v L=>v=gaveV 2∧L= []∧ts.length∉ks):=by
 obtain⟨ao,cap,B,_,hcap⟩:=h.len
 unfold maxLen at hcap
 have hkl:ks.length=m:=by have:=hk.1;rw [intC,List.length_map]at this;omega
 refine FnE.enter (vs:= [.pointer (some ⟨bp,0,none⟩),.slice a m c]) Tryz.func51 rfl rfl rfl ?_
 intro E R hR
 have hk:=hk.le (hR M (by simp))
 have Bp:=B
 change At _ _ E [Np,R] _
 refine At.seq fun _ s_1=>At.region (aD (aC rfl) rfl rfl (aA (aB (s_1 (At.seq fun _ s_2=>At.seq fun _ s_3=>At.region (aE (aC rfl) rfl rfl (a7 (aC rfl) se162 rfl rfl (aE (aC rfl) rfl rfl (aA (aB (s_3 (At.block (At.loop (fun fr_ hp_ ms_=> ∃(i:Nat),fr_= [(0,.pointer (some ⟨bp,0,none⟩)),(7,.slice a m c),(8,.int .i64 (m:Int)),(9,.int .i64 (i:Int))]∧hp_= [Np,R]∧m- i=ms_∧(i≤m)∧(∀j,j<i→ks.getD j 0≠ts.length)) ?_ (.refl _) ⟨0,rfl,rfl,rfl,Nat.zero_le _,fun j hj=>absurd hj (Nat.not_lt_zero _)⟩ ?_)))))))))))))
 ·exact .cons (by first|exact a6 rfl (by omega)|rfl) (.cons (by first|exact a6 rfl (by omega)|rfl) (.cons (by first|exact a6 rfl (by omega)|rfl) (.cons (by first|exact a6 rfl (by omega)|rfl) .nil)))
 rintro _ _ _ ⟨i,rfl,rfl,rfl,hi,hno⟩
 refine At.seq fun _ s_4=>At.region (op_lss (aC rfl) rfl rfl rfl (aA (aB (s_4 (At.seq fun _ s_5=>aO rfl (fun c10=>?_) (fun c10=>?_))))))
 ·refine At.skip (aB (s_5 (At.seq fun _ s_6=>At.block (At.seq fun _ s_7=>At.region (op_idx1 (aC rfl) se162 rfl rfl hk (show _=(((i:Nat)):Int)from by omega) (by omega) rfl ?_)))))
  refine bK (aC rfl) sc3 rfl hk (by first|exact get8 (by omega)|exact get64 (by omega)|exact get32 (by omega)|exact intC_get (by omega)) (by first|exact aP|exact bM|exact mem2|exact mem3|exact mem4|exact mem5|exact mem6|exact mem7|exact mem8|exact mem9) rfl ?_
  refine aD (aC rfl) rfl rfl (aA (aB (s_7 (At.seq fun _ s_8=>At.region (aE (aC rfl) rfl rfl (op_nilChk (aC rfl) rfl rfl (aF (aC rfl) fl157_0 rfl rfl (aL (aC rfl) sc89 rfl Bp (by first|rfl) aP rfl ?_))))))))
  refine a7 (aC rfl) se89 rfl rfl (aE (aC rfl) rfl rfl (op_eql (aC rfl) rfl rfl rfl (aA (aB (s_8 (aO rfl (fun c19=>?_) (fun c19=>?_)))))))
  ·refine At.seq fun _ s_9=>At.region (aE (aC rfl) rfl rfl (aD (aC rfl) rfl rfl (aA (aB (s_9 (At.ret (bP (aJ (aJ (bP (aJ ((At.retX (aW (L1:= [Np]) rfl (.tmp rfl .nil) (.refl _) (.refl _) ?_))))))))))))))
   have hh:ks.getD i 0=ts.length:=by omega
   have hm2:ts.length∈ks:=by rw [←hh,getD_at (by omega)];exact List.getElem_mem _
   rw [hh]
   exact⟨rfl,rfl,hm2⟩
  refine At.skip (bC (aB (s_6 (At.region (bI (aC rfl) rfl rfl (by omega) (by omega) rfl (aE (aC rfl) rfl rfl (aA (aB (At.back ?_ (.refl _) ⟨i+1,rfl,rfl,rfl,by omega,no_next (P:=fun j=>ks.getD j 0≠ts.length) hno (fun h=>c19 (by omega))⟩ ?_)))))))))
  ·exact .cons (by first|exact a6 rfl (by omega)|rfl) (.cons (by first|exact a6 rfl (by omega)|rfl) (.cons (by first|exact a6 rfl (by omega)|rfl) (.cons (by first|exact a6 rfl (by omega)|rfl) .nil)))
  ·omega
 refine At.exit (aM (aM (At.inHit (aB (s_2 (At.seq fun _ s_10=>At.region (op_callE (.cons rfl .nil) (FMust_f) (F:= [Np,R]) Tryz.func31 rfl rfl (.refl _) (by simp) rfl ?_ ?_)))))))
 ·rintro v22 L22 ⟨rfl,rfl⟩
  change At _ _ _ [Np,R] _
  refine aX ((At.sub (L':= [R]) (.cons _ (.cons_cons _ (.slnil))) (At.pan (L1:= []) (.refl _) (.refl _) (⟨rfl,rfl,fun hmem=>?_⟩))))
  obtain⟨j,hj,e⟩:=List.getElem_of_mem hmem
  exact hno j (by omega) (by rw [getD_at hj];exact e)
 intro _ _ h_;exact h_.elim
end
end Go.Proofs.YtjfagifjajielaaGreat
/- The engine, a closure called that returns or panics. For whatever program. No condition. -/
namespace Go.Proofs.YtjfagifjajielaaGreat
open Go Go.RowKit
section
variable {P : Program} {n : Nat} {l : List (Nat × Value)} {E : World} {L : List Heaplet} {d : Nat} {ty : TypeId} {pos : _} {aft : _} {Q : Exit → Act → World → Prop} {rest : List Oper} {ops : Array Oper} {Post Pan : Value → List Heaplet → Prop}
theorem op_callVE {f:FuncId} {fn:Func} {c:Operand} {xs:List Operand} {args caps:List Value} {ats:Array TypeId} {L0 Lr F:List Heaplet}
 (hcv:ev l c=some (.func (.func f) #[] caps.toArray)) (ha:Evs l xs args) (hc:FnE P f (args++caps).toArray L0 Lr Post Pan) (hfn:P.funcs[f]? =some fn) (hb:fn.body.isSome=true) (hne:(fn.name== "runtime.NumGoroutine")=false) (hL:L.Perm (L0++F)) (hr: ∀N∈Lr,N∈F) (hn:Nat.ble (d+1) n=true)
 (hp: ∀v L1,Pan v L1→At n l E (L1++F) (Q (.panic (pnk v))))
 (h: ∀v L1,Post v L1→At n ((d,v)::l) E (L1++F) (wpList P ops Q rest)):At n l E L (wpList P ops Q (⟨some d,.call ⟨.value c,xs.toArray,ats⟩,ty,pos,aft,none⟩::rest)):=fun a w hf hw=>by
 refine wpList_plain rfl fun K hK=>?_
 unfold Oper.wp
 have hw2:=hw.perm hL
 have hrun:(execOp a.eval ⟨some d,.call ⟨.value c,xs.toArray,ats⟩,ty,pos,aft,none⟩).run P w=.ok (.enter f (args++caps).toArray) w:=by
  have hne':fn.name≠ "runtime.NumGoroutine" :=by simpa using hne
  have he:=hf.eval hcv
  have hap:args.toArray++caps.toArray=(args++caps).toArray:=by simp
  simp only [execOp,resolve,invoke,Sem.run_bind,Sem.run_pure,Result.andThen_ok,List.map_toArray,ha.map hf,he,Deferred.ofValue,Array.empty_append,hap,run_call hfn hb hne']
 rw [hrun]
 obtain⟨R,hwR,hFR,hF⟩:=hw2.apartRest
 refine Calls.mono (hc E w R hwR fun N hN=>hFR N (hr N hN)) ?_
 rintro e w' (⟨v,L1,rfl,hP,hw'⟩|⟨v,L1,rfl,hP,hw'⟩)
 ·exact hK _ _ (h v L1 hP _ _ (hf.put (Nat.le_of_ble_eq_true hn)) (hw'.refine hFR hF))
 ·exact hp v L1 hP _ _ hf (hw'.refine hFR hF)
end
end Go.Proofs.YtjfagifjajielaaGreat
/- Layer 14: a list is read part by part, by a closure. No condition. -/
namespace Go.Proofs.YtjfagifjajielaaGreat
open Go Go.RowKit
set_option maxRecDepth 100000
/-- What the parts are, or what is wrong with the first wrong one. -/
def mapE {α:Type} (g:It→Except Nat α):List It→Except Nat (List α)
 | []=>.ok []
 |t::ts=>match g t with
  |.error e=>.error e
  |.ok a=>match mapE g ts with
   |.error e=>.error e
   |.ok l=>.ok (a::l)
def eachE {α:Type} (g:It→Except Nat α) (t:It):Except Nat (List α):=match listE t with
 |.error e=>.error e
 |.ok its=>mapE g its
/-- As mapE, behind what is done. -/
def restE {α:Type} (g:It→Except Nat α) (done:List α) (ts:List It):Except Nat (List α):=match mapE g ts with
 |.error e=>.error e
 |.ok l=>.ok (done++l)
theorem restE_nil {α:Type} (g:It→Except Nat α) (done:List α):restE g done []=.ok done:=by simp [restE,mapE]
theorem restE_ok {α:Type} {g:It→Except Nat α} {done:List α} {t:It} {ts:List It} {a:α} (h:g t=.ok a):restE g done (t::ts)=restE g (done++ [a]) ts:=by
 simp only [restE,mapE,h]
 cases mapE g ts with
 |error e=>rfl
 |ok l=>simp
theorem restE_bad {α:Type} {g:It→Except Nat α} {done:List α} {t:It} {ts:List It} {e:Nat} (h:g t=.error e):restE g done (t::ts)=.error e:=by
 simp only [restE,mapE,h]
theorem restE_0 {α:Type} (g:It→Except Nat α) (ts:List It):restE g [] ts=mapE g ts:=by
 simp only [restE]
 cases mapE g ts with
 |error e=>rfl
 |ok l=>simp
section
variable {α : Type} {El : It → Prop} {g : It → Except Nat α} {Inv : List IV → List α → Heaplet → Prop} {z : IV} {zs : List IV} {Np NI NO : Heaplet} {bp : Nat} {t : It} {ts : List It} {f : FuncId} {fn : Func} {caps : List Value}
end
end Go.Proofs.YtjfagifjajielaaGreat
/- The order of a region that draws, where what acts may panic: it may be walked in one order. No condition. -/
namespace Go.Proofs.YtjfagifjajielaaGreat.Pn
open Go
variable {P : Program} {ops : Array Oper} {md : Region.Mode} {Q : Exit → Act → World → Prop}
/-- Only panics. -/
def panQ (Q:Exit→Act→World→Prop):Exit→Act→World→Prop:=fun e a w=>(∃ch,e=.panic ch)∧Q e a w
/-- Behind a panic nothing is asked of the slots. -/
def PanOK (Q:Exit→Act→World→Prop):Prop:= ∀ch (a a':Act) (w:World),a.defers=a'.defers→Q (.panic ch) a w→Q (.panic ch) a' w
/-- The walk of a region in one order: what floats must be fit to (floatOK); behind what acts every block is as it was, or nothing that floats can still be to come (sink). -/
def wpOne (P:Program) (ops:Array Oper) (sink:Nat→Bool) (Q:Exit→Act→World→Prop):List Nat→Act→World→Prop
 | [],a,w=>Q .normal a w
 |i::rest,a,w=>
  match ops[i]? with
  |none=>False
  |some o=>
   if Region.wanted o (yielded ops a.tmps)then
    if floats o.op then floatOK P o.op a.eval=true∧o.wp P a w (wpOne P ops sink Q rest) (fun _ _ _=>False)
    else o.wp P a w (fun a' w'=>(sink i=true∨Agree w w')∧wpOne P ops sink Q rest a' w') (panQ Q)
   else wpOne P ops sink Q rest (a.put o.dst undef) w
variable {sink : Nat → Bool}
theorem dfeq {w:World} {a ag:Act} {l:List (Nat×Value)} (h:PendRun P ops w a l ag):ag.defers=a.defers:=by
 induction h with
 |nil a=>rfl
 | @cons a ag i v o l _ _ _ ih=>exact ih.trans (by unfold Act.put;cases o.dst<;>rfl)
theorem upon_carry {o:Oper} {a ag:Act} {K K':Act→World→Prop} {r:Result Next} (hQ:PanOK Q) (hdf:ag.defers=a.defers) (hv: ∀v w',K (ag.put o.dst v) w'→K' (a.put o.dst v) w')
 (hd: ∀d w',K ({ ag with defers:=d::ag.defers }.put o.dst undef) w'→K' ({ a with defers:=d::a.defers }.put o.dst undef) w')
 (h:o.upon P ag K (panQ Q) r):o.upon P a K' Q r:=by
 cases r with
 |ok n w'=>
  cases n<;>simp only [Oper.upon]at h⊢
  case value v=>exact hv _ _ h
  case skip=>exact hv _ _ h
  case defer d=>exact hd _ _ h
  case enter f args=>
   refine Calls.mono h fun e w'' he=>?_
   cases e with
   |returned v=>exact hv _ _ he
   |panicked c=>exact hQ _ _ _ _ hdf he.2
   |outgrown=>obtain⟨_,_,⟨_,hx⟩,_⟩:=he;cases hx
  case row row args=>exact Rows.mono h fun u w'' he=>hv _ _ he
 |halt x w'=>
  cases x<;>simp only [Oper.upon]at h⊢
  case panic v=>exact hQ _ _ _ _ hdf h.2
/-- All that is known while the order goes its own way. -/
structure OneInv (P:Program) (md:Region.Mode) (ops:Array Oper) (sink:Nat→Bool) (Q:Exit→Act→World→Prop) (listed:Array Bool) (pend:List (Nat×Value)) (rem:List Nat) (a ag:Act) (w:World):Prop where
 size:listed.size=ops.size
 closed: ∀j,listed.getD j false=true→DepsIn md ops (fun k=>listed.getD k false=true) j
 parts: ∀j,j<ops.size→listed.getD j false=true∨j∈pend.map (·.1)++rem
 apart: ∀j∈pend.map (·.1)++rem,j<ops.size∧listed.getD j false=false
 nodup:(pend.map (·.1)++rem).Nodup
 fl: ∀j∈pend.map (·.1),FloatsAt ops j
 ord:OrdOK md ops sink (fun k=>listed.getD k false=true) (pend.map (·.1)++rem)
 run:PendRun P ops w a pend ag
 wp:wpOne P ops sink Q rem ag w
theorem OneInv.apartPre {listed:Array Bool} {pre:List (Nat×Value)} {l:List Nat} {i:Nat} {o:Oper} (hp:PairsOK md ops) (hi:ops[i]? =some o)
 (hd:DepsIn md ops (fun k=>listed.getD k false=true) i) (hun:listed.getD i false=false) (hpre: ∀j∈pre.map (·.1),listed.getD j false=false) (hn:i∉pre.map (·.1))
 (hord:OrdOK md ops sink (fun k=>listed.getD k false=true) (pre.map (·.1)++i::l)): ∀p∈pre, ∀oj,ops[p.1]? =some oj→oj.apart ops o=true:=by
 intro p hpp oj hoj
 have hpm:p.1∈pre.map (·.1):=List.mem_map_of_mem hpp
 have hne:p.1≠i:=fun e=>hn (e▸hpm)
 rcases hp p.1 i oj o hoj hi hne with h|h|h
 ·exact h
 ·exact absurd h (hord.noWait _ (by simp [hun]) hn p.1 hpm)
 ·obtain⟨o',ho',e,he,hb,heq⟩:=h
  have:=hd o' ho' e he hb
  rw [heq,hpre _ hpm]at this
  cases this
theorem wpAny_of_one (hs: ∀(j:Nat) (oj:Oper),ops[j]? =some oj→NoSel oj) (hp:PairsOK md ops) (hQ:PanOK Q):
 ∀(fuel:Nat) (listed:Array Bool) (pend:List (Nat×Value)) (rem:List Nat) (a ag:Act) (w:World),
  pend.length+rem.length≤fuel→OneInv P md ops sink Q listed pend rem a ag w→wpAny P md ops Q fuel listed a w:=by
 have stop: ∀(listed:Array Bool) (pend:List (Nat×Value)) (rem:List Nat) (a ag:Act) (w:World),OneInv P md ops sink Q listed pend rem a ag w→Region.ready md ops listed= []→Q .normal a w:=by
  intro listed pend rem a ag w I hr
  cases hl:pend.map (·.1)++rem with
  |nil=>
   obtain⟨h1,h2⟩:=List.append_eq_nil_iff.1 hl
   have h1':pend= []:=by simpa using h1
   subst h1';subst h2
   have hrun:=I.run
   cases hrun
   exact I.wp
  |cons i l=>
   have ha:=I.apart i (by rw [hl];exact List.mem_cons_self)
   have ho:=I.ord
   rw [hl]at ho
   have:i∈Region.ready md ops listed:=(ready_iff I.size).2 ⟨ha.1,ha.2,ho.1⟩
   rw [hr]at this
   cases this
 intro fuel
 induction fuel with
 |zero=>
  intro listed pend rem a ag w hlen I
  have hp0:pend= []:=List.eq_nil_of_length_eq_zero (by omega)
  have hr0:rem= []:=List.eq_nil_of_length_eq_zero (by omega)
  subst hp0;subst hr0
  have hready:Region.ready md ops listed= []:=by
   cases h:Region.ready md ops listed with
   |nil=>rfl
   |cons j l=>
    have hj:j∈Region.ready md ops listed:=by rw [h];exact List.mem_cons_self
    obtain⟨hlt,h0,_⟩:=(ready_iff I.size).1 hj
    rcases I.parts j hlt with h1|h1
    ·rw [h0]at h1;cases h1
    ·cases h1
  exact⟨hready,stop _ _ _ _ _ _ I hready⟩
 |succ fuel ih=>
  intro listed pend rem a ag w hlen I
  refine⟨stop _ _ _ _ _ _ I,?_⟩
  intro i hi
  obtain⟨hlt,hun,hd⟩:=(ready_iff I.size).1 hi
  obtain⟨o,ho⟩: ∃o,ops[i]? =some o:=⟨_,Array.getElem?_eq_getElem hlt⟩
  -- an operation that is pending comes up
  have hpull: ∀(pend:List (Nat×Value)) (rem:List Nat) (ag:Act),pend.length+rem.length≤fuel+1→OneInv P md ops sink Q listed pend rem a ag w→i∈pend.map (·.1)→
   wpOp P ops Q i (wpAny P md ops Q fuel (listed.setIfInBounds i true)) a w:=by
   intro pend rem ag hlen I hm
   obtain⟨⟨i',v⟩,hmem,rfl⟩:=List.mem_map.1 hm
   obtain⟨pre,post,rfl⟩:=List.append_of_mem hmem
   dsimp only at*
   have hord:=I.ord
   have hnd:=I.nodup
   simp only [List.map_append,List.map_cons,List.append_assoc,List.cons_append]at hord hnd
   have hn:i'∉pre.map (·.1):=by
    intro hh
    have:=List.nodup_append.1 hnd
    exact this.2.2 i' hh i' List.mem_cons_self rfl
   have hpre: ∀j∈pre.map (·.1),listed.getD j false=false:=fun j hj=>(I.apart j (by simp only [List.map_append,List.append_assoc];exact List.mem_append_left _ hj)).2
   obtain⟨h1,h2⟩:=PendRun.pull ho hs pre (OneInv.apartPre hp ho hd hun hpre hn hord) I.run
   refine h1.wpOp ho ?_
   refine ih _ (pre++post) rem _ ag w (by simp at hlen⊢;omega) ?_
   have hsub: ∀j,j∈(pre++post).map (·.1)++rem→j∈(pre++(i',v)::post).map (·.1)++rem∧j≠i':=by
    intro j hj
    simp only [List.map_append,List.map_cons,List.append_assoc,List.cons_append]at hj⊢
    refine⟨?_,?_⟩
    ·rcases List.mem_append.1 hj with h|h
     ·exact List.mem_append_left _ h
     ·exact List.mem_append_right _ (List.mem_cons_of_mem _ h)
    ·rintro rfl
     have hnd2:=List.nodup_append.1 hnd
     rcases List.mem_append.1 hj with h|h
     ·exact hn h
     ·exact(List.nodup_cons.1 hnd2.2.1).1 h
   refine⟨by simpa using I.size,closed_set I.size hlt I.closed hd,?_,?_,?_,?_,?_,h2,I.wp⟩
   ·intro j hj
    rcases I.parts j hj with h|h
    ·exact .inl ((bG (by have:=I.size;omega)).2 (.inl h))
    ·by_cases hji:j=i'
     ·exact .inl ((bG (by have:=I.size;omega)).2 (.inr hji))
     ·right
      simp only [List.map_append,List.map_cons,List.append_assoc,List.cons_append]at h⊢
      rcases List.mem_append.1 h with h|h
      ·exact List.mem_append_left _ h
      ·rcases List.mem_cons.1 h with h|h
       ·exact absurd h hji
       ·exact List.mem_append_right _ h
   ·intro j hj
    obtain⟨h1,h2⟩:=hsub j hj
    refine⟨(I.apart j h1).1,?_⟩
    rw [Go.getD_set_ne false (Ne.symm h2)]
    exact(I.apart j h1).2
   ·simp only [List.map_append,List.append_assoc]
    exact(List.nodup_cons.1 ((List.Perm.nodup_iff List.perm_middle).1 hnd)).2
   ·intro j hj
    refine I.fl j ?_
    simp only [List.map_append,List.map_cons]at hj⊢
    rcases List.mem_append.1 hj with h|h
    ·exact List.mem_append_left _ h
    ·exact List.mem_append_right _ (List.mem_cons_of_mem _ h)
   ·have:=OrdOK.pull (pre.map (·.1)) (fun j hj=>I.fl j (by simp only [List.map_append];exact List.mem_append_left _ hj)) hd hord
    simp only [List.map_append,List.append_assoc]
    exact OrdOK.congr (fun j=>(bG (by have:=I.size;omega)).symm) this
  -- on along the order till i has been met
  have hgo: ∀(rem:List Nat) (pend:List (Nat×Value)) (ag:Act),pend.length+rem.length≤fuel+1→OneInv P md ops sink Q listed pend rem a ag w→
   wpOp P ops Q i (wpAny P md ops Q fuel (listed.setIfInBounds i true)) a w:=by
   intro rem
   induction rem with
   |nil=>
    intro pend ag hlen I
    rcases I.parts i hlt with h|h
    ·rw [hun]at h;cases h
    ·exact hpull pend [] ag hlen I (by simpa using h)
   |cons c rem ihr=>
    intro pend ag hlen I
    have hc:=I.apart c (by simp)
    obtain⟨oc,hoc⟩: ∃oc,ops[c]? =some oc:=⟨_,Array.getElem?_eq_getElem hc.1⟩
    have hat:=OrdOK.at (pend.map (·.1)) I.ord
    have hwp:=I.wp
    simp only [wpOne,hoc]at hwp
    by_cases hfl:floats oc.op=true
    · -- it floats: it joins those that are pending
     have hnext: ∃v,RunsNow P ops w oc ag v∧wpOne P ops sink Q rem (ag.put oc.dst v) w:=by
      by_cases hw:Region.wanted oc (yielded ops ag.tmps)=true
      ·rw [if_pos hw,if_pos hfl]at hwp
       exact runsNow_of_wp hw hwp.1 hwp.2
      ·rw [if_neg hw]at hwp
       exact⟨undef,.inr ⟨by simpa using hw,rfl⟩,hwp⟩
     obtain⟨v,hrn,hwp'⟩:=hnext
     have hrun:PendRun P ops w a (pend++ [(c,v)]) (ag.put oc.dst v):=by
      exact I.run.snoc hoc hrn
     have e:(pend++ [(c,v)]).map (·.1)++rem=pend.map (·.1)++c::rem:=by simp
     refine ihr (pend++ [(c,v)]) (ag.put oc.dst v) (by simp at hlen⊢;omega) ⟨I.size,I.closed,?_,?_,?_,?_,?_,hrun,hwp'⟩
     ·rw [e];exact I.parts
     ·rw [e];exact I.apart
     ·rw [e];exact I.nodup
     ·intro j hj
      simp only [List.map_append,List.map_cons,List.map_nil]at hj
      rcases List.mem_append.1 hj with h|h
      ·exact I.fl j h
      ·simp at h;subst h;intro o' ho';rw [hoc]at ho';cases ho';exact hfl
     ·rw [e];exact I.ord
    · -- it acts
     by_cases him:i∈pend.map (·.1)
     ·exact hpull pend (c::rem) ag hlen I him
     ·rcases hat.2.1 with hf|⟨honly,hsink⟩
      ·exact absurd (hf oc hoc) hfl
      have hci:i=c:=honly i hlt (by simp only [not_or];exact⟨by simp [hun],him⟩) (hd.mono fun j hj=>.inl hj)
      subst hci
      rw [ho]at hoc;cases hoc
      have hpre: ∀j∈pend.map (·.1),listed.getD j false=false:=fun j hj=>(I.apart j (List.mem_append_left _ hj)).2
      have hap:=OneInv.apartPre hp ho hd hun hpre him I.ord
      obtain⟨e1,e2,e3⟩:=PendRun.push hs (hs i o ho) I.run hap
      have hnd:=I.nodup
      have hstep: ∀w',(sink i=true∨Agree w w')→ ∀a' ag',wpOne P ops sink Q rem ag' w'→PendRun P ops w a' pend ag'→wpAny P md ops Q fuel (listed.setIfInBounds i true) a' w':=by
       intro w' hsa a' ag' hw' hrun'
       have hrun2:PendRun P ops w' a' pend ag':=by
        rcases hsa with hsa|hsa
        · -- the sink: nothing is pending
         have hnil:pend= []:=by
          rcases List.eq_nil_or_concat pend with h|⟨pre,⟨j,u⟩,h⟩
          ·exact h
          ·exfalso
           rw [List.concat_eq_append]at h
           subst h
           have hjm:j∈(pre++ [(j,u)]).map (·.1):=by simp
           have hju:=hpre j hjm
           obtain⟨k,hk,hwt⟩:=hsink hsa j (.inr hjm)
           have hord:=I.ord
           simp only [List.map_append,List.map_cons,List.map_nil,List.append_assoc,List.singleton_append]at hord hnd
           have hjn:j∉pre.map (·.1):=fun hh=>(List.nodup_append.1 hnd).2.2 j hh j List.mem_cons_self rfl
           have hself: ¬WaitsOn md ops j j:=by
            intro hh
            obtain⟨o',ho',e,he,hb,heq⟩:=hh
            have h0:=(OrdOK.at (pre.map (·.1)) hord).1 o' ho' e he hb
            rw [heq]at h0
            rcases h0 with h0|h0
            ·rw [hju]at h0;cases h0
            ·exact hjn h0
           obtain⟨o',ho',e,he,hb,heq⟩:=hwt
           rcases hk with (hk|hk)|hk
           ·have:=I.closed k hk o' ho' e he hb
            rw [heq,hju]at this;cases this
           ·simp only [List.map_append,List.map_cons,List.map_nil,List.mem_append,List.mem_singleton]at hk
            rcases hk with hk|hk
            ·exact hord.noWait _ (by simp [hju]) hjn k hk ⟨o',ho',e,he,hb,heq⟩
            ·subst hk;exact hself ⟨o',ho',e,he,hb,heq⟩
           ·subst hk
            have:=hd o' ho' e he hb
            rw [heq,hju]at this;cases this
         subst hnil
         cases hrun'
         exact .nil _
        ·exact hrun'.mono hsa
       refine ih _ pend rem a' ag' w' (by simp at hlen⊢;omega) ?_
       have hsub: ∀j,j∈pend.map (·.1)++rem→j∈pend.map (·.1)++i::rem∧j≠i:=by
        intro j hj
        refine⟨?_,?_⟩
        ·rcases List.mem_append.1 hj with h|h
         ·exact List.mem_append_left _ h
         ·exact List.mem_append_right _ (List.mem_cons_of_mem _ h)
        ·rintro rfl
         rcases List.mem_append.1 hj with h|h
         ·exact him h
         ·exact(List.nodup_cons.1 (List.nodup_append.1 hnd).2.1).1 h
       refine⟨by simpa using I.size,closed_set I.size hlt I.closed hd,?_,?_,?_,I.fl,?_,hrun2,hw'⟩
       ·intro j hj
        rcases I.parts j hj with h|h
        ·exact .inl ((bG (by have:=I.size;omega)).2 (.inl h))
        ·by_cases hji:j=i
         ·exact .inl ((bG (by have:=I.size;omega)).2 (.inr hji))
         ·right
          rcases List.mem_append.1 h with h|h
          ·exact List.mem_append_left _ h
          ·rcases List.mem_cons.1 h with h|h
           ·exact absurd h hji
           ·exact List.mem_append_right _ h
       ·intro j hj
        obtain⟨h1,h2⟩:=hsub j hj
        refine⟨(I.apart j h1).1,?_⟩
        rw [Go.getD_set_ne false (Ne.symm h2)]
        exact(I.apart j h1).2
       ·exact(List.nodup_cons.1 ((List.Perm.nodup_iff List.perm_middle).1 hnd)).2
       ·exact OrdOK.congr (fun j=>(bG (by have:=I.size;omega)).symm) (OrdOK.pull (pend.map (·.1)) I.fl hd I.ord)
      unfold Go.wpOp
      simp only [ho]
      by_cases hw:Region.wanted o (yielded ops ag.tmps)=true
      ·rw [if_pos hw,if_neg hfl]at hwp
       rw [←e2,if_pos hw]
       left
       unfold Oper.wp at hwp⊢
       rw [e1]at hwp
       refine upon_carry hQ (dfeq I.run) (fun v w' hk=>?_) (fun d w' hk=>?_) hwp
       ·exact hstep w' hk.1 _ _ hk.2 (e3 v)
       ·exact hstep w' hk.1 _ _ hk.2 ((PendRun.push hs (hs i o ho) (I.run.defers d) hap).2.2 undef)
      ·rw [if_neg hw]at hwp
       rw [←e2,if_neg hw]
       exact hstep w (.inr (Agree.refl w)) _ _ hwp (e3 undef)
  exact hgo rem pend ag hlen I
/-! The check of an order, by evaluation. -/
/-- A REGION THAT DRAWS, WALKED IN ONE ORDER. -/
theorem wp_one {id:Nat} {a:Act} {w:World} {l:List Oper} (snk ord:List Nat) (hm:P.follows .mixedOrders=true) (hB:oneB .any l.toArray snk ord=true)
 (hQ:PanOK Q) (h:wpOne P l.toArray (fun i=>snk.contains i) Q ord a w.drew):(Code.region id l.toArray true).wp P Q a w:=by
 simp only [oneB,Bool.and_eq_true,decide_eq_true_eq]at hB
 obtain⟨⟨⟨⟨⟨⟨hsel,hpair⟩,hord⟩,hall⟩,hnd⟩,hlt⟩,hlen⟩:=hB
 refine wp_region_any hm (wpAny_of_one (fun j oj hj cs b=>Region.noSelect_spec hsel j oj cs b hj) (pairsB_spec hpair) hQ _ _ [] ord a a _ ?_ ⟨by simp,?_,?_,?_,by simpa using hnd,by simp,?_,.nil _,h⟩)
 ·simpa using hlen
 ·intro j hj
  exfalso
  rw [Array.getD_eq_getD_getElem?,Array.getElem?_replicate]at hj
  split at hj<;>cases hj
 ·intro j hj
  right
  have:=List.all_eq_true.1 hall j (List.mem_range.2 hj)
  simpa using this
 ·intro j hj
  refine⟨by simpa using List.all_eq_true.1 hlt j (by simpa using hj),?_⟩
  rw [Array.getD_eq_getD_getElem?,Array.getElem?_replicate]
  split<;>rfl
 ·exact ordB_spec _ _ (by simp) hord
/-! The steps. -/
section
variable {a : Act} {w : World} {i : Nat} {rest : List Nat} {o : Oper}
theorem wpOne_nil (h:Q .normal a w):wpOne P ops sink Q [] a w:=h
theorem wpOne_float (ho:ops[i]? =some o) (hf:floats o.op=true) (hw:Region.wanted o (yielded ops a.tmps)=true) (hok:floatOK P o.op a.eval=true)
 (h: ∀K:Act→World→Prop,(∀a w,wpOne P ops sink Q rest a w→K a w)→o.wp P a w K (fun _ _ _=>False)):wpOne P ops sink Q (i::rest) a w:=by
 simp only [wpOne,ho,if_pos hw,if_pos hf]
 exact⟨hok,h _ fun _ _ h=>h⟩
theorem wpOne_skip (ho:ops[i]? =some o) (hw:Region.wanted o (yielded ops a.tmps)=false) (h:wpOne P ops sink Q rest (a.put o.dst undef) w):wpOne P ops sink Q (i::rest) a w:=by
 simp only [wpOne,ho,hw]
 exact h
theorem wpOne_sink (ho:ops[i]? =some o) (hf:floats o.op=false) (hs:sink i=true) (hw:Region.wanted o (yielded ops a.tmps)=true)
 (h: ∀K:Act→World→Prop,(∀a w,wpOne P ops sink Q rest a w→K a w)→o.wp P a w K (panQ Q)):wpOne P ops sink Q (i::rest) a w:=by
 simp only [wpOne,ho,if_pos hw,hf,hs]
 exact h _ fun _ _ h=>⟨.inl trivial,h⟩
theorem wpOne_act (ho:ops[i]? =some o) (hf:floats o.op=false) (hw:Region.wanted o (yielded ops a.tmps)=true)
 (h: ∀K:Act→World→Prop,(∀a' w',(Agree w w'∧wpOne P ops sink Q rest a' w')→K a' w')→o.wp P a w K (panQ Q)):wpOne P ops sink Q (i::rest) a w:=by
 simp only [wpOne,ho,if_pos hw,hf]
 exact h _ fun _ _ h=>⟨.inr h.1,h.2⟩
end
end Go.Proofs.YtjfagifjajielaaGreat.Pn
/- The order of a region that draws, where what acts may panic and may write what nothing reads that floats: it may be walked in one order. No condition. -/
namespace Go.Proofs.YtjfagifjajielaaGreat.St.Sp
open Go Go.Proofs.YtjfagifjajielaaGreat
section
variable {P : Program} {ops : Array Oper} {md : Region.Mode} {S : World → Prop} {sink : Nat → Bool} {Q : Exit → Act → World → Prop}
def wpOne (P:Program) (ops:Array Oper):(World→Prop)→(Nat→Bool)→(Exit→Act→World→Prop)→List Nat→Act→World→Prop
 |_,_,Q,[],a,w=>Q .normal a w
 |S,sink,Q,i::rest,a,w=>
  match ops[i]? with
  |none=>False
  |some o=>
   if Region.wanted o (yielded ops a.tmps)then
    if floats o.op then ∃v,(∀w',S w'→(execOp a.eval o).run P w'=.ok (.value v) w')∧wpOne P ops S sink Q rest (a.put o.dst v) w
    else o.wp P a w (fun a' w'=> ∃S':World→Prop,((∀u,S' u→S u)∨sink i=true)∧S' w'∧wpOne P ops S' sink Q rest a' w') (Pn.panQ Q)
   else wpOne P ops S sink Q rest (a.put o.dst undef) w
theorem dfeq {a ag:Act} {l:List (Nat×Value)} (h:PendRun P ops S a l ag):ag.defers=a.defers:=by
 induction h with
 |nil a=>rfl
 | @cons a ag i v o l _ _ _ ih=>exact ih.trans (by unfold Act.put;cases o.dst<;>rfl)
/-- All that is known while the order goes its own way. -/
structure OneInv (P:Program) (md:Region.Mode) (ops:Array Oper) (S:World→Prop) (sink pl:Nat→Bool) (Q:Exit→Act→World→Prop) (listed:Array Bool) (pend:List (Nat×Value)) (rem:List Nat) (a ag:Act) (w:World):Prop where
 size:listed.size=ops.size
 closed: ∀j,listed.getD j false=true→DepsIn md ops (fun k=>listed.getD k false=true) j
 parts: ∀j,j<ops.size→listed.getD j false=true∨j∈pend.map (·.1)++rem
 apart: ∀j∈pend.map (·.1)++rem,j<ops.size∧listed.getD j false=false
 nodup:(pend.map (·.1)++rem).Nodup
 fl: ∀j∈pend.map (·.1),FloatsAt ops j
 ord:OrdOK md ops (fun _=>false) (fun k=>listed.getD k false=true) (pend.map (·.1)++rem)
 snk:SinkOK md ops sink pl (fun k=>listed.getD k false=true) (pend.map (·.1)++rem)
 run:PendRun P ops S a pend ag
 st:(pend= []∧rem= [])∨S w
 wp:wpOne P ops S sink Q rem ag w
theorem OneInv.apartPre {listed:Array Bool} {pre:List (Nat×Value)} {l:List Nat} {i:Nat} {o:Oper} (hp:PairsOK md ops) (hi:ops[i]? =some o)
 (hd:DepsIn md ops (fun k=>listed.getD k false=true) i) (hun:listed.getD i false=false) (hpre: ∀j∈pre.map (·.1),listed.getD j false=false) (hn:i∉pre.map (·.1))
 (hord:OrdOK md ops (fun _=>false) (fun k=>listed.getD k false=true) (pre.map (·.1)++i::l)): ∀p∈pre, ∀oj,ops[p.1]? =some oj→oj.apart ops o=true:=by
 intro p hpp oj hoj
 have hpm:p.1∈pre.map (·.1):=List.mem_map_of_mem hpp
 have hne:p.1≠i:=fun e=>hn (e▸hpm)
 rcases hp p.1 i oj o hoj hi hne with h|h|h
 ·exact h
 ·exact absurd h (hord.noWait _ (by simp [hun]) hn p.1 hpm)
 ·obtain⟨o',ho',e,he,hb,heq⟩:=h
  have:=hd o' ho' e he hb
  rw [heq,hpre _ hpm]at this
  cases this
theorem wpAny_of_one {pl:Nat→Bool} (hs: ∀(j:Nat) (oj:Oper),ops[j]? =some oj→NoSel oj) (hp:PairsOK md ops) (hQ:Pn.PanOK Q):
 ∀(fuel:Nat) (S:World→Prop) (listed:Array Bool) (pend:List (Nat×Value)) (rem:List Nat) (a ag:Act) (w:World),
  pend.length+rem.length≤fuel→OneInv P md ops S sink pl Q listed pend rem a ag w→wpAny P md ops Q fuel listed a w:=by
 have stop: ∀(S:World→Prop) (listed:Array Bool) (pend:List (Nat×Value)) (rem:List Nat) (a ag:Act) (w:World),OneInv P md ops S sink pl Q listed pend rem a ag w→Region.ready md ops listed= []→Q .normal a w:=by
  intro S listed pend rem a ag w I hr
  cases hl:pend.map (·.1)++rem with
  |nil=>
   obtain⟨h1,h2⟩:=List.append_eq_nil_iff.1 hl
   have h1':pend= []:=by simpa using h1
   subst h1';subst h2
   have hrun:=I.run
   cases hrun
   exact I.wp
  |cons i l=>
   have ha:=I.apart i (by rw [hl];exact List.mem_cons_self)
   have ho:=I.ord
   rw [hl]at ho
   have:i∈Region.ready md ops listed:=(ready_iff I.size).2 ⟨ha.1,ha.2,ho.1⟩
   rw [hr]at this
   cases this
 intro fuel
 induction fuel with
 |zero=>
  intro S listed pend rem a ag w hlen I
  have hp0:pend= []:=List.eq_nil_of_length_eq_zero (by omega)
  have hr0:rem= []:=List.eq_nil_of_length_eq_zero (by omega)
  subst hp0;subst hr0
  have hready:Region.ready md ops listed= []:=by
   cases h:Region.ready md ops listed with
   |nil=>rfl
   |cons j l=>
    have hj:j∈Region.ready md ops listed:=by rw [h];exact List.mem_cons_self
    obtain⟨hlt,h0,_⟩:=(ready_iff I.size).1 hj
    rcases I.parts j hlt with h1|h1
    ·rw [h0]at h1;cases h1
    ·cases h1
  exact⟨hready,stop _ _ _ _ _ _ _ I hready⟩
 |succ fuel ih=>
  intro S listed pend rem a ag w hlen I
  refine⟨stop _ _ _ _ _ _ _ I,?_⟩
  intro i hi
  obtain⟨hlt,hun,hd⟩:=(ready_iff I.size).1 hi
  obtain⟨o,ho⟩: ∃o,ops[i]? =some o:=⟨_,Array.getElem?_eq_getElem hlt⟩
  -- an operation that is pending comes up
  have hpull: ∀(pend:List (Nat×Value)) (rem:List Nat) (ag:Act),pend.length+rem.length≤fuel+1→OneInv P md ops S sink pl Q listed pend rem a ag w→i∈pend.map (·.1)→
   wpOp P ops Q i (wpAny P md ops Q fuel (listed.setIfInBounds i true)) a w:=by
   intro pend rem ag hlen I hm
   obtain⟨⟨i',v⟩,hmem,rfl⟩:=List.mem_map.1 hm
   obtain⟨pre,post,rfl⟩:=List.append_of_mem hmem
   dsimp only at*
   have hord:=I.ord
   have hnd:=I.nodup
   simp only [List.map_append,List.map_cons,List.append_assoc,List.cons_append]at hord hnd
   have hn:i'∉pre.map (·.1):=by
    intro hh
    have:=List.nodup_append.1 hnd
    exact this.2.2 i' hh i' List.mem_cons_self rfl
   have hpre: ∀j∈pre.map (·.1),listed.getD j false=false:=fun j hj=>(I.apart j (by simp only [List.map_append,List.append_assoc];exact List.mem_append_left _ hj)).2
   obtain⟨h1,h2⟩:=PendRun.pull ho hs pre (OneInv.apartPre hp ho hd hun hpre hn hord) I.run
   have hSw:S w:=I.st.resolve_left (by rintro⟨h,_⟩;simp at h)
   refine h1.wpOp hSw ho ?_
   refine ih S _ (pre++post) rem _ ag w (by simp at hlen⊢;omega) ?_
   have hsub: ∀j,j∈(pre++post).map (·.1)++rem→j∈(pre++(i',v)::post).map (·.1)++rem∧j≠i':=by
    intro j hj
    simp only [List.map_append,List.map_cons,List.append_assoc,List.cons_append]at hj⊢
    refine⟨?_,?_⟩
    ·rcases List.mem_append.1 hj with h|h
     ·exact List.mem_append_left _ h
     ·exact List.mem_append_right _ (List.mem_cons_of_mem _ h)
    ·rintro rfl
     have hnd2:=List.nodup_append.1 hnd
     rcases List.mem_append.1 hj with h|h
     ·exact hn h
     ·exact(List.nodup_cons.1 hnd2.2.1).1 h
   refine⟨by simpa using I.size,closed_set I.size hlt I.closed hd,?_,?_,?_,?_,?_,?_,h2,.inr hSw,I.wp⟩
   ·intro j hj
    rcases I.parts j hj with h|h
    ·exact .inl ((bG (by have:=I.size;omega)).2 (.inl h))
    ·by_cases hji:j=i'
     ·exact .inl ((bG (by have:=I.size;omega)).2 (.inr hji))
     ·right
      simp only [List.map_append,List.map_cons,List.append_assoc,List.cons_append]at h⊢
      rcases List.mem_append.1 h with h|h
      ·exact List.mem_append_left _ h
      ·rcases List.mem_cons.1 h with h|h
       ·exact absurd h hji
       ·exact List.mem_append_right _ h
   ·intro j hj
    obtain⟨h1,h2⟩:=hsub j hj
    refine⟨(I.apart j h1).1,?_⟩
    rw [Go.getD_set_ne false (Ne.symm h2)]
    exact(I.apart j h1).2
   ·simp only [List.map_append,List.append_assoc]
    exact(List.nodup_cons.1 ((List.Perm.nodup_iff List.perm_middle).1 hnd)).2
   ·intro j hj
    refine I.fl j ?_
    simp only [List.map_append,List.map_cons]at hj⊢
    rcases List.mem_append.1 hj with h|h
    ·exact List.mem_append_left _ h
    ·exact List.mem_append_right _ (List.mem_cons_of_mem _ h)
   ·have:=OrdOK.pull (pre.map (·.1)) (fun j hj=>I.fl j (by simp only [List.map_append];exact List.mem_append_left _ hj)) hd hord
    simp only [List.map_append,List.append_assoc]
    exact OrdOK.congr (fun j=>(bG (by have:=I.size;omega)).symm) this
   ·have hsn:=I.snk
    simp only [List.map_append,List.map_cons,List.append_assoc,List.cons_append]at hsn
    have:=SinkOK.pull (pre.map (·.1)) (fun j hj=>I.fl j (by simp only [List.map_append];exact List.mem_append_left _ hj)) hsn
    simp only [List.map_append,List.append_assoc]
    exact SinkOK.congr (fun j=>(bG (by have:=I.size;omega)).symm) this
  -- on along the order till i has been met
  have hgo: ∀(rem:List Nat) (pend:List (Nat×Value)) (ag:Act),pend.length+rem.length≤fuel+1→OneInv P md ops S sink pl Q listed pend rem a ag w→
   wpOp P ops Q i (wpAny P md ops Q fuel (listed.setIfInBounds i true)) a w:=by
   intro rem
   induction rem with
   |nil=>
    intro pend ag hlen I
    rcases I.parts i hlt with h|h
    ·rw [hun]at h;cases h
    ·exact hpull pend [] ag hlen I (by simpa using h)
   |cons c rem ihr=>
    intro pend ag hlen I
    have hc:=I.apart c (by simp)
    obtain⟨oc,hoc⟩: ∃oc,ops[c]? =some oc:=⟨_,Array.getElem?_eq_getElem hc.1⟩
    have hat:=OrdOK.at (pend.map (·.1)) I.ord
    have hwp:=I.wp
    simp only [wpOne,hoc]at hwp
    by_cases hfl:floats oc.op=true
    · -- it floats: it joins those that are pending
     have hnext: ∃v,RunsNow P ops S oc ag v∧wpOne P ops S sink Q rem (ag.put oc.dst v) w:=by
      by_cases hw:Region.wanted oc (yielded ops ag.tmps)=true
      ·rw [if_pos hw,if_pos hfl]at hwp
       obtain⟨v,h1,h2⟩:=hwp
       exact⟨v,.inl ⟨hw,h1⟩,h2⟩
      ·rw [if_neg hw]at hwp
       exact⟨undef,.inr ⟨by simpa using hw,rfl⟩,hwp⟩
     obtain⟨v,hrn,hwp'⟩:=hnext
     have hrun:PendRun P ops S a (pend++ [(c,v)]) (ag.put oc.dst v):=by
      exact I.run.snoc hoc hrn
     have e:(pend++ [(c,v)]).map (·.1)++rem=pend.map (·.1)++c::rem:=by simp
     refine ihr (pend++ [(c,v)]) (ag.put oc.dst v) (by simp at hlen⊢;omega) ⟨I.size,I.closed,?_,?_,?_,?_,?_,?_,hrun,.inr (I.st.resolve_left (by rintro⟨_,h⟩;cases h)),hwp'⟩
     ·rw [e];exact I.parts
     ·rw [e];exact I.apart
     ·rw [e];exact I.nodup
     ·intro j hj
      simp only [List.map_append,List.map_cons,List.map_nil]at hj
      rcases List.mem_append.1 hj with h|h
      ·exact I.fl j h
      ·simp at h;subst h;intro o' ho';rw [hoc]at ho';cases ho';exact hfl
     ·rw [e];exact I.ord
     ·rw [e];exact I.snk
    · -- it acts
     by_cases him:i∈pend.map (·.1)
     ·exact hpull pend (c::rem) ag hlen I him
     ·rcases hat.2.1 with hf|⟨honly,_⟩
      ·exact absurd (hf oc hoc) hfl
      have hci:i=c:=honly i hlt (by simp only [not_or];exact⟨by simp [hun],him⟩) (hd.mono fun j hj=>.inl hj)
      subst hci
      rw [ho]at hoc;cases hoc
      have hpre: ∀j∈pend.map (·.1),listed.getD j false=false:=fun j hj=>(I.apart j (List.mem_append_left _ hj)).2
      have hap:=OneInv.apartPre hp ho hd hun hpre him I.ord
      obtain⟨e1,e2,e3⟩:=PendRun.push hs (hs i o ho) I.run hap
      have hnd:=I.nodup
      have hstep: ∀w', ∀S':World→Prop,((∀u,S' u→S u)∨sink i=true)→S' w'→ ∀a' ag',wpOne P ops S' sink Q rem ag' w'→PendRun P ops S a' pend ag'→wpAny P md ops Q fuel (listed.setIfInBounds i true) a' w':=by
       have hSw:S w:=I.st.resolve_left (by rintro⟨_,h⟩;cases h)
       have hpure:sink i=true→ ∀p∈pend,PureAt ops pl p.1:=fun hsa=>by
        have hsk:=(SinkOK.at (pend.map (·.1)) I.snk).1.resolve_left (fun hf=>absurd (hf o ho) hfl) hsa
        have key: ∀(m:Nat) (pre post:List (Nat×Value)),post.length=m→pend=pre++post→ ∀p∈post,PureAt ops pl p.1:=by
         intro m
         induction m with
         |zero=>intro pre post hl _ p hpp;rw [List.eq_nil_of_length_eq_zero hl]at hpp;cases hpp
         |succ m ihm=>
          intro pre post hl he
          obtain⟨⟨j,u⟩,post',rfl⟩: ∃x xs,post=x::xs:=by
           cases post with
           |nil=>cases hl
           |cons x xs=>exact⟨x,xs,rfl⟩
          have hpost:=ihm (pre++ [(j,u)]) post' (by simpa using hl) (by simpa using he)
          intro p hpp
          rcases List.mem_cons.1 hpp with rfl|hpp
          ·have hjm:j∈pend.map (·.1):=by rw [he];simp
           have hju:=hpre j hjm
           have hord:=I.ord
           rw [he]at hord hnd
           simp only [List.map_append,List.map_cons,List.append_assoc,List.cons_append]at hord hnd
           have hjn:j∉pre.map (·.1):=fun hh=>(List.nodup_append.1 hnd).2.2 j hh j List.mem_cons_self rfl
           have hself: ¬WaitsOn md ops j j:=by
            intro hh
            obtain⟨o',ho',e,he,hb,heq⟩:=hh
            have h0:=(OrdOK.at (pre.map (·.1)) hord).1 o' ho' e he hb
            rw [heq]at h0
            rcases h0 with h0|h0
            ·rw [hju]at h0;cases h0
            ·exact hjn h0
           rcases hsk j (.inr hjm)with hnf|hpu|⟨k,hk,hkn,hwt⟩
           ·exact absurd (I.fl j hjm) hnf
           ·exact hpu
           ·exfalso
            have hwt2:=hwt
            obtain⟨o',ho',e,he',hb,heq⟩:=hwt
            rcases hk with (hk|hk)|hk
            ·have:=I.closed k hk o' ho' e he' hb
             rw [heq,hju]at this;cases this
            ·rw [he]at hk
             simp only [List.map_append,List.map_cons,List.mem_append,List.mem_cons]at hk
             rcases hk with hk|hk|hk
             ·exact hord.noWait _ (by simp [hju]) hjn k hk hwt2
             ·subst hk;exact hself hwt2
             ·obtain⟨q,hq,rfl⟩:=List.mem_map.1 hk
              exact hkn (hpost q hq)
            ·subst hk
             have:=hd o' ho' e he' hb
             rw [heq,hju]at this;cases this
          ·exact hpost p hpp
        exact key pend.length [] pend rfl rfl
       intro w' S' hSS hSw' a' ag' hw' hrun'
       have hrun2:PendRun P ops S' a' pend ag':=by
        rcases hSS with h|h
        ·exact hrun'.mono h
        ·exact hrun'.swap ⟨w,hSw⟩ (hpure h)
       have hSt:(pend= []∧rem= [])∨S' w':=.inr hSw'
       refine ih S' _ pend rem a' ag' w' (by simp at hlen⊢;omega) ?_
       have hsub: ∀j,j∈pend.map (·.1)++rem→j∈pend.map (·.1)++i::rem∧j≠i:=by
        intro j hj
        refine⟨?_,?_⟩
        ·rcases List.mem_append.1 hj with h|h
         ·exact List.mem_append_left _ h
         ·exact List.mem_append_right _ (List.mem_cons_of_mem _ h)
        ·rintro rfl
         rcases List.mem_append.1 hj with h|h
         ·exact him h
         ·exact(List.nodup_cons.1 (List.nodup_append.1 hnd).2.1).1 h
       refine⟨by simpa using I.size,closed_set I.size hlt I.closed hd,?_,?_,?_,I.fl,?_,?_,hrun2,hSt,hw'⟩
       ·intro j hj
        rcases I.parts j hj with h|h
        ·exact .inl ((bG (by have:=I.size;omega)).2 (.inl h))
        ·by_cases hji:j=i
         ·exact .inl ((bG (by have:=I.size;omega)).2 (.inr hji))
         ·right
          rcases List.mem_append.1 h with h|h
          ·exact List.mem_append_left _ h
          ·rcases List.mem_cons.1 h with h|h
           ·exact absurd h hji
           ·exact List.mem_append_right _ h
       ·intro j hj
        obtain⟨h1,h2⟩:=hsub j hj
        refine⟨(I.apart j h1).1,?_⟩
        rw [Go.getD_set_ne false (Ne.symm h2)]
        exact(I.apart j h1).2
       ·exact(List.nodup_cons.1 ((List.Perm.nodup_iff List.perm_middle).1 hnd)).2
       ·exact OrdOK.congr (fun j=>(bG (by have:=I.size;omega)).symm) (OrdOK.pull (pend.map (·.1)) I.fl hd I.ord)
       ·exact SinkOK.congr (fun j=>(bG (by have:=I.size;omega)).symm) (SinkOK.pull (pend.map (·.1)) I.fl I.snk)
      unfold Go.wpOp
      simp only [ho]
      by_cases hw:Region.wanted o (yielded ops ag.tmps)=true
      ·rw [if_pos hw,if_neg hfl]at hwp
       rw [←e2,if_pos hw]
       left
       unfold Oper.wp at hwp⊢
       rw [e1]at hwp
       refine Pn.upon_carry hQ (dfeq I.run) (fun v w' hk=>?_) (fun d w' hk=>?_) hwp
       ·obtain⟨S',h1,h2,h3⟩:=hk;exact hstep w' S' h1 h2 _ _ h3 (e3 v)
       ·obtain⟨S',h1,h2,h3⟩:=hk;exact hstep w' S' h1 h2 _ _ h3 ((PendRun.push hs (hs i o ho) (I.run.defers d) hap).2.2 undef)
      ·rw [if_neg hw]at hwp
       rw [←e2,if_neg hw]
       exact hstep w S (.inl fun _ h=>h) (I.st.resolve_left (by rintro⟨_,h⟩;cases h)) _ _ hwp (e3 undef)
  exact hgo rem pend ag hlen I
theorem wp_one {id:Nat} {a:Act} {w:World} {l:List Oper} (snk pl ord:List Nat) (hm:P.follows .mixedOrders=true) (hB:oneSB .any l.toArray snk pl ord=true) (hS:S w.drew) (hQ:Pn.PanOK Q)
 (h:wpOne P l.toArray S (fun i=>snk.contains i) Q ord a w.drew):(Code.region id l.toArray true).wp P Q a w:=by
 simp only [oneSB,oneB,Bool.and_eq_true,decide_eq_true_eq]at hB
 obtain⟨⟨⟨⟨⟨⟨⟨hsel,hpair⟩,hord⟩,hall⟩,hnd⟩,hlt⟩,hlen⟩,hsb⟩:=hB
 refine wp_region_any hm (wpAny_of_one (pl:=fun i=>pl.contains i) (fun j oj hj cs b=>Region.noSelect_spec hsel j oj cs b hj) (pairsB_spec hpair) hQ _ S _ [] ord a a _ ?_ ⟨by simp,?_,?_,?_,by simpa using hnd,by simp,?_,?_,.nil _,.inr hS,h⟩)
 ·simpa using hlen
 ·intro j hj
  exfalso
  rw [Array.getD_eq_getD_getElem?,Array.getElem?_replicate]at hj
  split at hj<;>cases hj
 ·intro j hj
  right
  have:=List.all_eq_true.1 hall j (List.mem_range.2 hj)
  simpa using this
 ·intro j hj
  refine⟨by simpa using List.all_eq_true.1 hlt j (by simpa using hj),?_⟩
  rw [Array.getD_eq_getD_getElem?,Array.getElem?_replicate]
  split<;>rfl
 ·have:=ordB_spec _ _ (by simp) hord
  simpa using this
 ·exact sinkB_spec _ _ (by simp) (fun j hj=>by simpa using List.all_eq_true.1 hlt j hj) hsb
/-! The steps. -/
section
variable {a : Act} {w : World} {i : Nat} {rest : List Nat} {o : Oper} {sink : Nat → Bool}
theorem wpOne_nil (h:Q .normal a w):wpOne P ops S sink Q [] a w:=h
theorem wpOne_float {v:Value} (ho:ops[i]? =some o) (hf:floats o.op=true) (hw:Region.wanted o (yielded ops a.tmps)=true) (hr: ∀w',S w'→(execOp a.eval o).run P w'=.ok (.value v) w')
 (h:wpOne P ops S sink Q rest (a.put o.dst v) w):wpOne P ops S sink Q (i::rest) a w:=by
 simp only [wpOne,ho,if_pos hw,if_pos hf]
 exact⟨v,hr,h⟩
theorem wpOne_skip (ho:ops[i]? =some o) (hw:Region.wanted o (yielded ops a.tmps)=false) (h:wpOne P ops S sink Q rest (a.put o.dst undef) w):wpOne P ops S sink Q (i::rest) a w:=by
 simp only [wpOne,ho,hw]
 exact h
theorem wpOne_act (ho:ops[i]? =some o) (hf:floats o.op=false) (hw:Region.wanted o (yielded ops a.tmps)=true)
 (h:o.wp P a w (fun a' w'=>S w'∧wpOne P ops S sink Q rest a' w') (Pn.panQ Q)):wpOne P ops S sink Q (i::rest) a w:=by
 simp only [wpOne,ho,if_pos hw,hf]
 exact Oper.wp_mono (fun _ _ h=>⟨S,.inl fun _ h=>h,h.1,h.2⟩) h
theorem wpOne_last (ho:ops[i]? =some o) (hf:floats o.op=false) (hs:sink i=true) (hw:Region.wanted o (yielded ops a.tmps)=true)
 (h:o.wp P a w (wpOne P ops S sink Q []) (Pn.panQ Q)):wpOne P ops S sink Q [i] a w:=by
 simp only [wpOne,ho,if_pos hw,hf]
 exact Oper.wp_mono (fun _ _ h=>⟨fun _=>True,.inr hs,trivial,h⟩) h
theorem wpOne_more (ho:ops[i]? =some o) (hf:floats o.op=false) (hw:Region.wanted o (yielded ops a.tmps)=true)
 (h:o.wp P a w (fun a' w'=> ∃S':World→Prop,(∀u,S' u→S u)∧S' w'∧wpOne P ops S' sink Q rest a' w') (Pn.panQ Q)):wpOne P ops S sink Q (i::rest) a w:=by
 simp only [wpOne,ho,if_pos hw,hf]
 exact Oper.wp_mono (fun _ _ ⟨S',h1,h2,h3⟩=>⟨S',.inl h1,h2,h3⟩) h
theorem wpOne_sink (ho:ops[i]? =some o) (hf:floats o.op=false) (hs:sink i=true) (hw:Region.wanted o (yielded ops a.tmps)=true)
 (h:o.wp P a w (fun a' w'=> ∃S':World→Prop,S' w'∧wpOne P ops S' sink Q rest a' w') (Pn.panQ Q)):wpOne P ops S sink Q (i::rest) a w:=by
 simp only [wpOne,ho,if_pos hw,hf]
 exact Oper.wp_mono (fun _ _ ⟨S',h1,h2⟩=>⟨S',.inr hs,h1,h2⟩) h
end
end
end Go.Proofs.YtjfagifjajielaaGreat.St.Sp
/- The engine: a region that draws its order, in which calls may panic. For whatever program. No condition. -/
namespace Go.Proofs.YtjfagifjajielaaGreat
open Go Go.RowKit
section
variable {P : Program} {n : Nat} {l : List (Nat × Value)} {E : World} {L : List Heaplet} {Q : Exit → Act → World → Prop} {ops : Array Oper} {o : Oper} {sink : Nat → Bool} {i : Nat} {is : List Nat} {Lst : List Heaplet}
theorem PanOK.then {K:Act→World→Prop} (h:Pn.PanOK Q):Pn.PanOK (Exit.then K Q):=fun ch a a' w e hx=>h ch a a' w e hx
theorem PanOK.inB {id:Nat} (h:Pn.PanOK Q):Pn.PanOK (Exit.inBlock id Q):=fun ch a a' w e hx=>h ch a a' w e hx
theorem PanOK.body {fn:Func} {R:Heaplet} {Post Pan:Value→List Heaplet→Prop} :Pn.PanOK (bodyPostX P fn E R Post Pan):=fun ch a a' w e hx hE=>⟨e▸(hx hE).1,(hx hE).2⟩
theorem wp_false {Q':Exit→Act→World→Prop} {a:Act} {w:World} {K:Act→World→Prop} (h:o.wp P a w K (fun _ _ _=>False)):o.wp P a w K Q':=by
 unfold Oper.wp at h⊢
 exact upon_carry (fun _ _ h=>h) (fun _ _ h=>h) h
theorem At.drawnR {id:Nat} {ops:List Oper} (Lst:List Heaplet) (snk pl ord:List Nat) (hm:P.follows .mixedOrders=true) (hB:St.oneSB .any ops.toArray snk pl ord=true) (hs:Lst.Sublist L) (hQ:Pn.PanOK Q)
 (h:At n l E L (St.Sp.wpOne P ops.toArray (Hp E Lst) (fun i=>snk.contains i) Q ord)):At n l E L ((Code.region id ops.toArray true).wp P Q):=fun a w hf hw=>St.Sp.wp_one snk pl ord hm hB (hw.drew.drop hs) hQ (h a w.drew hf hw.drew)
theorem At.rNil {S:World→Prop} (h:At n l E L (Q .normal)):At n l E L (St.Sp.wpOne P ops S sink Q []):=h
theorem nxrf (ho:ops[i]? =some o) (hf:floats o.op=true) (hg:o.guard=none):NxF P n l E L Lst o (St.Sp.wpOne P ops (Hp E Lst) sink Q (i::is)) (St.Sp.wpOne P ops (Hp E Lst) sink Q is):=fun a w v hfr hw hr hy=>
 St.Sp.wpOne_float ho hf (by simp [Region.wanted,hg]) hr hy
theorem nxrl (ho:ops[i]? =some o) (hf:floats o.op=false) (hs:sink i=true) (hg:o.guard=none):Nx P n l E L o (St.Sp.wpOne P ops (Hp E Lst) sink Q [i]) (St.Sp.wpOne P ops (Hp E Lst) sink Q []):=fun a w hfr hw hx=>
 St.Sp.wpOne_last ho hf hs (by simp [Region.wanted,hg]) (wp_false hx)
theorem nxrs (ho:ops[i]? =some o) (hf:floats o.op=false) (hs:sink i=true) (hg:o.guard=none):Nx P n l E L o (St.Sp.wpOne P ops (Hp E Lst) sink Q (i::is)) (fun a w=> ∃S':World→Prop,S' w∧St.Sp.wpOne P ops S' sink Q is a w):=fun a w hfr hw hx=>
 St.Sp.wpOne_sink ho hf hs (by simp [Region.wanted,hg]) (wp_false hx)
theorem nxrm (ho:ops[i]? =some o) (hf:floats o.op=false) (hg:o.guard=none):Nx P n l E L o (St.Sp.wpOne P ops (Hp E Lst) sink Q (i::is)) (fun a w=> ∃S':World→Prop,(∀u,S' u→Hp E Lst u)∧S' w∧St.Sp.wpOne P ops S' sink Q is a w):=fun a w hfr hw hx=>
 St.Sp.wpOne_more ho hf (by simp [Region.wanted,hg]) (wp_false hx)
theorem At.moreR {Lst Lst':List Heaplet} (h1:Lst.Sublist Lst') (hs:Lst'.Sublist L) (h:At n l E L (St.Sp.wpOne P ops (Hp E Lst') sink Q is)):At n l E L (fun a w=> ∃S':World→Prop,(∀u,S' u→Hp E Lst u)∧S' w∧St.Sp.wpOne P ops S' sink Q is a w):=fun a w hf hw=>⟨Hp E Lst',fun _ hu=>hu.drop h1,hw.drop hs,h a w hf hw⟩
theorem At.anyR {Lst:List Heaplet} (hs:Lst.Sublist L) (h:At n l E L (St.Sp.wpOne P ops (Hp E Lst) sink Q is)):At n l E L (fun a w=> ∃S':World→Prop,S' w∧St.Sp.wpOne P ops S' sink Q is a w):=fun a w hf hw=>⟨Hp E Lst,hw.drop hs,h a w hf hw⟩
variable {d : Nat} {ty : TypeId} {pos : String} {aft : Array Edge} {Post Pan : Value → List Heaplet → Prop}
/-- A call that may panic, within. -/
theorem op_callR {f:FuncId} {fn:Func} {xs:List Operand} {args:List Value} {ats:Array TypeId} {L0 Lr F Lst':List Heaplet}
 (ho:ops[i]? =some ⟨some d,.call ⟨.value (.func f),xs.toArray,ats⟩,ty,pos,aft,none⟩) (ha:Evs l xs args) (hc:FnE P f args.toArray L0 Lr Post Pan) (hfn:P.funcs[f]? =some fn) (hb:fn.body.isSome=true) (hne:(fn.name== "runtime.NumGoroutine")=false) (hL:L.Perm (L0++F)) (hr: ∀N∈Lr,N∈F) (hn:Nat.ble (d+1) n=true)
 (hsl:Lst.Sublist Lst') (hsf:Lst'.Sublist F)
 (hp: ∀v L1,Pan v L1→At n l E (L1++F) (Q (.panic (pnk v))))
 (h: ∀v L1,Post v L1→At n ((d,v)::l) E (L1++F) (St.Sp.wpOne P ops (Hp E Lst') sink Q is)):At n l E L (St.Sp.wpOne P ops (Hp E Lst) sink Q (i::is)):=fun a w hf hw=>by
 refine St.Sp.wpOne_more ho rfl rfl ?_
 unfold Oper.wp
 have hw2:=hw.perm hL
 have hrun:(execOp a.eval ⟨some d,.call ⟨.value (.func f),xs.toArray,ats⟩,ty,pos,aft,none⟩).run P w=.ok (.enter f args.toArray) w:=by
  have hne':fn.name≠ "runtime.NumGoroutine" :=by simpa using hne
  have he:a.eval (.func f)=.func (.func f) #[] #[]:=rfl
  simp only [execOp,resolve,invoke,Sem.run_bind,Sem.run_pure,Result.andThen_ok,List.map_toArray,ha.map hf,he,Deferred.ofValue,Array.empty_append,Array.append_empty,run_call hfn hb hne']
 rw [hrun]
 obtain⟨R,hwR,hFR,hF⟩:=hw2.apartRest
 refine Calls.mono (hc E w R hwR fun N hN=>hFR N (hr N hN)) ?_
 rintro e w' (⟨v,L1,rfl,hP,hw'⟩|⟨v,L1,rfl,hP,hw'⟩)
 ·have hw3:=hw'.refine hFR hF
  exact⟨Hp E Lst',fun _ hu=>hu.drop hsl,hw3.drop (hsf.trans (List.sublist_append_right _ _)),h v L1 hP _ _ (hf.put (Nat.le_of_ble_eq_true hn)) hw3⟩
 ·exact⟨⟨_,rfl⟩,hp v L1 hP _ _ hf (hw'.refine hFR hF)⟩
end
end Go.Proofs.YtjfagifjajielaaGreat
/- The engine: parts of the memory handed over as one, to a call that may panic. For whatever program. No condition. -/
namespace Go.Proofs.YtjfagifjajielaaGreat
open Go Go.RowKit
theorem FnE.packR {P:Program} {f:FuncId} {args:Array Value} {Lr:List Heaplet} {Post Post' Pan:Value→List Heaplet→Prop} {N1:Heaplet} {As:List Heaplet} (hA:As.Pairwise Apart) (h:FnE P f args (N1::As) Lr Post Pan)
 (hp: ∀v L,Post v L→ ∃M Bs,L=M::Bs∧(Bs.Pairwise Apart→Post' v [M,joinL Bs])):FnE P f args [N1,joinL As] Lr Post' Pan:=by
 intro E w R hw hr
 have hw1:Hp E (joinL As::([N1]++ [R])) w:=hw.perm (List.Perm.swap _ _ _)
 have hw2:Hp E ((N1::As)++ [R]) w:=by
  have:=hw1.unpackL hA
  refine this.perm ?_
  show(As++([N1]++ [R])).Perm ((N1::As)++ [R])
  rw [←List.append_assoc]
  exact List.Perm.append_right _ List.perm_append_comm
 refine(h E w R hw2 hr).mono ?_
 rintro e w' (⟨v,L,rfl,hP,hh⟩|hx)
 ·obtain⟨M,Bs,rfl,hq⟩:=hp v L hP
  have hh2:Hp E (Bs++([M]++ [R])) w':=hh.perm (by
   show((M::Bs)++ [R]).Perm (Bs++([M]++ [R]))
   rw [←List.append_assoc]
   exact List.Perm.append_right _ (List.perm_append_comm (l₁:= [M])))
  have hs:=(List.pairwise_append.1 hh2.sep).1
  exact .inl ⟨v,_,rfl,hq hs,hh2.packL.perm (List.Perm.swap _ _ _)⟩
 ·exact .inr hx
section
variable {n : Nat} {l : List (Nat × Value)} {E : World} {L : List Heaplet} {K : Act → World → Prop} {As : List Heaplet}
theorem At.pack (h:As.Pairwise Apart→At n l E (joinL As::L) K):At n l E (As++L) K:=fun a w hf hw=>h (List.pairwise_append.1 hw.sep).1 a w hf hw.packL
theorem At.unpack (hA:As.Pairwise Apart) (h:At n l E (As++L) K):At n l E (joinL As::L) K:=fun a w hf hw=>h a w hf (hw.unpackL hA)
end
end Go.Proofs.YtjfagifjajielaaGreat
/- Layer 14: lists of hashes. No condition. -/
namespace Go.Proofs.YtjfagifjajielaaGreat
open Go Go.RowKit
set_option maxRecDepth 100000
section
variable {Np NI Nl Na : Heaplet} {bp bl m c : Nat} {a : Option Addr} {t : It} {ts : List It} {hs : List (List UInt8)} {z : IV} {zs : List IV}
/-- A variable that holds hashes. -/
def HashV (b:Nat) (hs:List (List UInt8)) (N:Heaplet):Prop:= ∃Nl Na a c,[Nl,Na].Pairwise Apart∧N=joinL [Nl,Na]∧Blk Nl b 30 [.slice a hs.length c]∧Row Na 40 32 a hs.length c (hashC hs)∧ ∀x∈hs,x.length=32
def hashesE:It→Except Nat (List (List UInt8)):=eachE (fixE 32)
end
end Go.Proofs.YtjfagifjajielaaGreat
