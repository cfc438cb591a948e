/- Several texts in one: see the remarks ahead of each part. No condition but those told there. -/
import Derived.Test.YtjfagifjajielaaGreatX15
import Derived.Test.YtjfagifjajielaaGreatX5
import Derived.Test.YtjfagifjajielaaGreatX1
import Derived.Test.YtjfagifjajielaaGreatX2
import Derived.Test.YtjfagifjajielaaGreatX16
set_option linter.unusedSimpArgs false
set_option linter.unusedVariables false
namespace Go.Proofs.YtjfagifjajielaaGreat
open Go Go.RowKit
set_option maxRecDepth 100000
theorem FnE.liftB {P:Program} {f:FuncId} {args:Array Value} {L0:List Heaplet} {N R:Heaplet} {Post Pan:Value→List Heaplet→Prop} (h:FnE P f args L0 [N] Post Pan) (hl:N.le R):FnE P f args L0 [R] Post Pan:=fun E w F hp hr=>
 h E w F hp fun M hM=>by rw [List.mem_singleton.1 hM];exact Heaplet.le_trans hl (hr R (by simp))
section
variable {Np NI : Heaplet} {bp k : Nat} {t : It} {ts : List It} {z : IV} {zs : List IV}
theorem FCheck_any (e:Nat):FnE Tryz.prog 30 #[.int .i64 (e:Int)] [] [] (fun v L=>v=.tuple #[]∧L= []∧e=0) (fun v L=>v=gaveV e∧L= []∧e≠0):=by
 by_cases h:e=0
 ·subst h
  exact(FCheck_0.mono (fun v L h=>⟨h.1,h.2,rfl⟩)).x
 ·exact(FCheck_e (e:=(e:Int)) (by omega)).mono (fun _ _ h=>h.elim) (fun v L k=>⟨k.1,k.2,h⟩)
theorem FFixed_p (h:PartsN Np NI bp (z::zs) (t::ts)):FnE Tryz.prog 107 #[.pointer (some ⟨bp,0,none⟩),.int .i64 (k:Int)] [Np] [NI] (fun v L=> ∃Np a c b,v=.slice a b.length c∧L= [Np]∧fixE k t=.ok b∧b.length=k∧PartsN Np NI bp zs ts∧RSl NI 1 a b.length c (u8s b)) (fun v L=> ∃e:Nat,v=gaveV e∧L= []∧fixE k t=.error e):=by
 have h1:=FBytes_p h
 refine FnE.enter (vs:= [.pointer (some ⟨bp,0,none⟩),.int .i64 (k:Int)]) Tryz.func107 U U U ?_
 intro E R hR
 have h1:=h1.liftB (hR NI (by simp))
 change At _ _ E [Np,R] _
 refine aC fun _ s_1=>aA (aR U U (aB (s_1 (aC fun _ s_2=>aA (aH U U (bM (.cons U .nil) (h1) (F:= [R]) Tryz.func90 U U (.refl _) (by simp) U ?_ ?_))))))
 ·rintro _ _ ⟨e,rfl,rfl,he⟩
  show At _ _ _ [R] _
  refine aY ((cP (L1:= []) (.refl _) aJ ?_))
  exact⟨e,rfl,rfl,by simp only [fixE,he]⟩
 rintro _ _ ⟨Mp,a,c,b,rfl,rfl,e,hp,hr⟩
 show At _ _ _ [Mp,R] _
 refine aR U U (aB (s_2 (aC fun _ s_3=>aA (aH U U (cF aE se22 U U (aH U U (dF aE U U U (bM (.cons U .nil) (FMust_any (decide ((b.length:Int)=(k:Int)))) (F:= [Mp,R]) Tryz.func31 U U (.refl _) (by simp) U ?_ ?_))))))))
 ·rintro _ _ ⟨rfl,rfl,hb⟩
  show At _ _ _ [Mp,R] _
  refine aY ((cK (cP (L1:= []) (.refl _) aJ ?_)))
  have hb:=of_decide_eq_false hb
  exact⟨2,rfl,rfl,by simp only [fixE,e];rw [if_neg (by omega)]⟩
 rintro _ _ ⟨rfl,rfl,hb⟩
 show At _ _ _ [Mp,R] _
 refine aB (s_3 (aC fun _ s_4=>aA (aH U U (aR U U (aB (s_4 (a0 ((At.retX (cI (L1:= [Mp]) U (.tmp U .nil) (.refl _) aJ ?_))))))))))
 have hb:=of_decide_eq_true hb
 exact⟨Mp,a,c,b,rfl,rfl,by simp only [fixE,e];rw [if_pos (by omega)],by omega,hp,hr⟩
theorem FHash_p (h:PartsN Np NI bp (z::zs) (t::ts)):FnE Tryz.prog 106 #[.pointer (some ⟨bp,0,none⟩)] [Np] [NI] (fun v L=> ∃Np b,v=.agg (u8s b).toArray∧L= [Np]∧fixE 32 t=.ok b∧b.length=32∧PartsN Np NI bp zs ts) (fun v L=> ∃e:Nat,v=gaveV e∧L= []∧fixE 32 t=.error e):=by
 have h1:=FFixed_p (k:=32) h
 refine FnE.enter (vs:= [.pointer (some ⟨bp,0,none⟩)]) Tryz.func106 U U U ?_
 intro E R hR
 have hNR:=hR NI (by simp)
 have h1:=h1.liftB hNR
 change At _ _ E [Np,R] _
 refine aC fun _ s_1=>aA (bK bU ze40 U (fun N2 b2 B2=>?_))
 change Blk N2 b2 _ [.int .u8 0,.int .u8 0,.int .u8 0,.int .u8 0,.int .u8 0,.int .u8 0,.int .u8 0,.int .u8 0,.int .u8 0,.int .u8 0,.int .u8 0,.int .u8 0,.int .u8 0,.int .u8 0,.int .u8 0,.int .u8 0,.int .u8 0,.int .u8 0,.int .u8 0,.int .u8 0,.int .u8 0,.int .u8 0,.int .u8 0,.int .u8 0,.int .u8 0,.int .u8 0,.int .u8 0,.int .u8 0,.int .u8 0,.int .u8 0,.int .u8 0,.int .u8 0]at B2
 refine aB (s_1 (aC fun _ s_2=>aA (aH U U (aM (bO (aM (bM (.cons U (.cons U .nil)) (h1) (F:= [N2,R]) Tryz.func107 U U (.refl _) (by simp) U ?_ ?_)))))))
 ·rintro _ _ ⟨e,rfl,rfl,he⟩
  show At _ _ _ [N2,R] _
  refine aY ((cK (cP (L1:= []) (.refl _) aJ ?_)))
  exact⟨e,rfl,rfl,he⟩
 rintro _ _ ⟨Mp,a,c,b,rfl,rfl,e,hbl,hp,hr⟩
 show At _ _ _ [Mp,N2,R] _
 have hrR:=hr.le hNR
 obtain⟨bT,oT,hto,hrT⟩:=hrR.2.2.2 (by omega)
 subst hto
 refine op_toArr aE ae40 U (by omega) U ?_
 refine op_loadAgg aE ag40 U hrT (by rw [bL];exact hbl) mem2 U ?_
 refine aF cL sz40 U U U (by rw [bL];exact hbl) (all8x2 _) B2 (by rw [bL,hbl];exact Nat.le_refl _) sel1 (fun N2 B2=>?_)
 rw [bG (by rw [bL,hbl];rfl)]at B2
 refine aB (s_2 (a0 ((At.retX (cI (L1:= [Mp]) U (.cell U (bQ (ds:=u8s b) ag40 B2 (bY (by rw [bL,hbl])) (by rw [bL,hbl]) bI) .nil) (.cons _ (.refl _)) aJ ?_)))))
 exact⟨Mp,b,rfl,rfl,e,hbl,hp⟩
theorem FAddr_p (h:PartsN Np NI bp (z::zs) (t::ts)):FnE Tryz.prog 59 #[.pointer (some ⟨bp,0,none⟩)] [Np] [NI] (fun v L=> ∃Np b,v=.agg (u8s b).toArray∧L= [Np]∧fixE 20 t=.ok b∧b.length=20∧PartsN Np NI bp zs ts) (fun v L=> ∃e:Nat,v=gaveV e∧L= []∧fixE 20 t=.error e):=by
 have h1:=FFixed_p (k:=20) h
 refine FnE.enter (vs:= [.pointer (some ⟨bp,0,none⟩)]) Tryz.func59 U U U ?_
 intro E R hR
 have hNR:=hR NI (by simp)
 have h1:=h1.liftB hNR
 change At _ _ E [Np,R] _
 refine aC fun _ s_1=>aA (bK bU ze28 U (fun N2 b2 B2=>?_))
 change Blk N2 b2 _ [.int .u8 0,.int .u8 0,.int .u8 0,.int .u8 0,.int .u8 0,.int .u8 0,.int .u8 0,.int .u8 0,.int .u8 0,.int .u8 0,.int .u8 0,.int .u8 0,.int .u8 0,.int .u8 0,.int .u8 0,.int .u8 0,.int .u8 0,.int .u8 0,.int .u8 0,.int .u8 0]at B2
 refine aB (s_1 (aC fun _ s_2=>aA (aH U U (aM (bO (aM (bM (.cons U (.cons U .nil)) (h1) (F:= [N2,R]) Tryz.func107 U U (.refl _) (by simp) U ?_ ?_)))))))
 ·rintro _ _ ⟨e,rfl,rfl,he⟩
  show At _ _ _ [N2,R] _
  refine aY ((cK (cP (L1:= []) (.refl _) aJ ?_)))
  exact⟨e,rfl,rfl,he⟩
 rintro _ _ ⟨Mp,a,c,b,rfl,rfl,e,hbl,hp,hr⟩
 show At _ _ _ [Mp,N2,R] _
 have hrR:=hr.le hNR
 obtain⟨bT,oT,hto,hrT⟩:=hrR.2.2.2 (by omega)
 subst hto
 refine op_toArr aE ae28 U (by omega) U ?_
 refine op_loadAgg aE ag28 U hrT (by rw [bL];exact hbl) mem2 U ?_
 refine aF cL sz28 U U U (by rw [bL];exact hbl) (all8x2 _) B2 (by rw [bL,hbl];exact Nat.le_refl _) sel1 (fun N2 B2=>?_)
 rw [bG (by rw [bL,hbl];rfl)]at B2
 refine aB (s_2 (a0 ((At.retX (cI (L1:= [Mp]) U (.cell U (bQ (ds:=u8s b) ag28 B2 (bY (by rw [bL,hbl])) (by rw [bL,hbl]) bI) .nil) (.cons _ (.refl _)) aJ ?_)))))
 exact⟨Mp,b,rfl,rfl,e,hbl,hp⟩
theorem FWord_p (h:PartsN Np NI bp (z::zs) (t::ts)):FnE Tryz.prog 88 #[.pointer (some ⟨bp,0,none⟩)] [Np] [NI] (fun v L=> ∃Np x,v=wo x∧L= [Np]∧wordE t=.ok x∧x<WW∧PartsN Np NI bp zs ts) (fun v L=> ∃e:Nat,v=gaveV e∧L= []∧wordE t=.error e):=by
 have h1:=FBytes_p h
 refine FnE.enter (vs:= [.pointer (some ⟨bp,0,none⟩)]) Tryz.func88 U U U ?_
 intro E R hR
 have hNR:=hR NI (by simp)
 have h1:=h1.liftB hNR
 change At _ _ E [Np,R] _
 refine aC fun _ s_1=>aA (bK bU ze26 U (fun N2 b2 B2=>?_))
 change Blk N2 b2 _ [.int .u64 0,.int .u64 0,.int .u64 0,.int .u64 0]at B2
 refine aB (s_1 (aC fun _ s_2=>aA (aH U U (aM (bO (aM (bM (.cons U .nil) (h1) (F:= [N2,R]) Tryz.func90 U U (.refl _) (by simp) U ?_ ?_)))))))
 ·rintro _ _ ⟨e,rfl,rfl,he⟩
  show At _ _ _ [N2,R] _
  refine aY ((cK (cP (L1:= []) (.refl _) aJ ?_)))
  exact⟨e,rfl,rfl,by simp only [wordE,he]⟩
 rintro _ _ ⟨Mp,a,c,b,rfl,rfl,e,hp,hr⟩
 show At _ _ _ [Mp,N2,R] _
 refine bD bU (.cons U .nil) (Number_f (hr.le hNR)) Tryz.func141 U U (by simp) U ?_
 rintro _ _ ⟨wa,wb,wc,wd,rfl,rfl,hv⟩
 show At _ _ _ [Mp,N2,R] _
 refine aH U U (aO aE U U U (aO aE U U U (bK bU ze26 U (fun N3 b3 B3=>?_))))
 change Blk N3 b3 _ [.int .u64 0,.int .u64 0,.int .u64 0,.int .u64 0]at B3
 refine aF cL sz26 U U U U U B3 (by simp) dB (fun N3 B3=>?_)
 simp only [setL,List.set]at B3
 refine aR U U (aB (s_2 (aC fun _ s_3=>aA (aH U U (bM (.cons U .nil) (FCheck_any (numE b)) (F:= [N3,Mp,N2,R]) Tryz.func30 U U (.refl _) (by simp) U ?_ ?_)))))
 ·rintro _ _ ⟨rfl,rfl,hz⟩
  show At _ _ _ [N3,Mp,N2,R] _
  refine aY ((bJ (bH (cK (cP (L1:= []) (.refl _) aJ ?_)))))
  exact⟨numE b,rfl,rfl,by simp only [wordE,e];rw [if_neg hz]⟩
 rintro _ _ ⟨rfl,rfl,hz⟩
 show At _ _ _ [N3,Mp,N2,R] _
 refine aB (s_3 (aC fun _ s_4=>aA (aV (ds:= [_,_,_,_]) aE ag26 U B3 U U bI U (aF cL sz26 U U U U U B2 (by simp) sel2 (fun N2 B2=>?_)))))
 simp only [setL,List.set]at B2
 refine aB (s_4 (a0 ((At.retX (bH (cI (L1:= [Mp]) U (.cell U (bQ (ds:= [_,_,_,_]) ag26 B2 U U bI) .nil) (.cons _ (.refl _)) aJ ?_))))))
 have hw:v64 [wa,wb,wc,wd]=be b:=by rw [hv,numV,if_pos hz]
 refine⟨Mp,be b,?_,rfl,by simp only [wordE,e];rw [if_pos hz],hw▸v64_lt4 rfl,hp⟩
 rw [←hw];exact wo_list (w:= [wa,wb,wc,wd]) rfl
theorem WSmall_b {x:Nat} (hx:x<WW):Fn Tryz.prog 108 #[wo x] [] [] (fun v L=>v=.tuple #[.int .u64 ((if x<2^64 then x else 0:Nat):Int),.bool (decide (x<2^64))]∧L= []):=by
 by_cases h:x<2^64
 ·rw [if_pos h,decide_eq_true h];exact WSmall_f hx h
 ·rw [if_neg h,decide_eq_false h];exact WSmall_no hx h
theorem FSmall_p (h:PartsN Np NI bp (z::zs) (t::ts)):FnE Tryz.prog 58 #[.pointer (some ⟨bp,0,none⟩)] [Np] [NI] (fun v L=> ∃Np x,v=.int .u64 ((x:Nat):Int)∧L= [Np]∧smallE t=.ok x∧x<2^64∧PartsN Np NI bp zs ts) (fun v L=> ∃e:Nat,v=gaveV e∧L= []∧smallE t=.error e):=by
 have h1:=FWord_p h
 refine FnE.enter (vs:= [.pointer (some ⟨bp,0,none⟩)]) Tryz.func58 U U U ?_
 intro E R hR
 have hNR:=hR NI (by simp)
 have h1:=h1.liftB hNR
 change At _ _ E [Np,R] _
 refine aC fun _ s_1=>aA (aR U U (aB (s_1 (aC fun _ s_2=>aA (aH U U (bM (.cons U .nil) (h1) (F:= [R]) Tryz.func88 U U (.refl _) (by simp) U ?_ ?_))))))
 ·rintro _ _ ⟨e,rfl,rfl,he⟩
  show At _ _ _ [R] _
  refine aY ((cP (L1:= []) (.refl _) aJ ?_))
  exact⟨e,rfl,rfl,by simp only [smallE,he]⟩
 rintro _ _ ⟨Mp,x,rfl,rfl,e,hx,hp⟩
 show At _ _ _ [Mp,R] _
 refine bD bU (.cons U .nil) (WSmall_b hx) Tryz.func108 U U (by simp) U ?_
 rintro _ _ ⟨rfl,rfl⟩
 show At _ _ _ [Mp,R] _
 refine aH U U (aO aE U U U (aO aE U U U (aR U U (aR U U (aB (s_2 (aC fun _ s_3=>aC fun _ s_4=>aA (aH U U (op_notP aE U U (aB (s_4 (aQ U (fun c12=>?_) (fun c12=>?_)))))))))))))
 ·refine aA (bM (.cons U .nil) (FCheck_e (by decide)) (F:= [Mp,R]) Tryz.func30 U U (.refl _) (by simp) U ?_ ?_)
  ·rintro _ _ ⟨rfl,rfl⟩
   show At _ _ _ [Mp,R] _
   refine aY ((cK (cP (L1:= []) (.refl _) aJ ?_)))
   exact⟨3,rfl,rfl,by simp only [smallE,e];rw [if_neg c12]⟩
  intro _ _ h_;exact h_.elim
 refine aT (aI (s_3 (aC fun _ s_5=>aA (aH U U (aR U U (aB (s_5 (a0 ((At.retX (cI (L1:= [Mp]) U (.tmp U .nil) (.refl _) aJ ?_)))))))))))
 have hlt:x<2^64:=Decidable.not_not.1 c12
 rw [if_pos hlt]
 exact⟨Mp,x,rfl,rfl,by simp only [smallE,e];rw [if_pos hlt],hlt,hp⟩
end
def intC (ks:List Nat):List Value:=ks.map fun k:Nat=>Value.int .i64 (k:Int)
theorem intC_get {ks:List Nat} {i:Nat} (h:i<ks.length):(intC ks)[i]? =some (.int .i64 ((ks.getD i 0:Nat):Int)):=by
 rw [intC,List.getElem?_map,List.getElem?_eq_getElem h,List.getD_eq_getElem?_getD,List.getElem?_eq_getElem h];rfl
theorem no_next {P:Nat→Prop} {i:Nat} (h: ∀j,j<i→P j) (hi:P i): ∀j,j<i+1→P j:=fun j hj=>by
 rcases Nat.lt_or_ge j i with k|k
 ·exact h j k
 ·rw [show j=i by omega];exact hi
theorem getD_at {ks:List Nat} {i:Nat} (h:i<ks.length):ks.getD i 0=ks[i]:=by
 rw [List.getD_eq_getElem?_getD,List.getElem?_eq_getElem h];rfl
section
variable {Np NI M : Heaplet} {bp n cap m c : Nat} {ao a : Option Addr} {t : It} {ts : List It} {x z : IV} {zs : List IV} {ks : List Nat}
theorem listE_of (h:ItN NI t x):(x.l=false∧listE t=.error 2)∨(x.l=true∧ ∃its xs,listE t=.ok its∧RSl NI 3 x.ai x.ni x.ci (cellsI xs)∧ItsN NI its xs):=by
 obtain⟨l,bs,its⟩:=t
 simp only [ItN]at h
 obtain⟨h1,_,xs,h3,h4⟩:=h
 cases l with
 |false=>exact .inl ⟨h1,rfl⟩
 |true=>exact .inr ⟨h1,its,xs,rfl,h3,h4⟩
theorem FOpened_p (h:ItN NI t x):FnE Tryz.prog 33 #[.agg #[.bool x.l,.slice x.ab x.nb x.cb,.slice x.ai x.ni x.ci]] [] [NI] (fun v L=> ∃Np bp its zs,v=.pointer (some ⟨bp,0,none⟩)∧L= [Np]∧listE t=.ok its∧PartsN Np NI bp zs its∧RSl NI 3 x.ai x.ni x.ci (cellsI zs)) (fun v L=> ∃e:Nat,v=gaveV e∧L= []∧listE t=.error e):=by
 have hq:=listE_of h
 refine FnE.enter (vs:= [.agg #[.bool x.l,.slice x.ab x.nb x.cb,.slice x.ai x.ni x.ci]]) Tryz.func33 U U U ?_
 intro E R hR
 change At _ _ E [R] _
 refine aC fun _ s_1=>aA (op_box bU U U U (fun N1 b1 B1=>aR U U (aB (s_1 (aC fun _ s_2=>aA (aD aE fl91_0 U U (aK aE sc4 U B1 U bI U ?_)))))))
 refine bM (.cons U .nil) (FMust_any x.l) (F:= [N1,R]) Tryz.func31 U U (.refl _) (by simp) U ?_ ?_
 ·rintro _ _ ⟨rfl,rfl,hb⟩
  show At _ _ _ [N1,R] _
  refine aY ((cK (cP (L1:= []) (.refl _) aJ ?_)))
  rcases hq with ⟨_,e⟩|⟨h,_⟩
  ·exact⟨2,rfl,rfl,e⟩
  ·rw [hb]at h;cases h
 rintro _ _ ⟨rfl,rfl,hb⟩
 show At _ _ _ [N1,R] _
 refine aB (s_2 (aC fun _ s_3=>aA (aD aE fl91_2 U U (aK aE sc89 U B1 U bI U ?_))))
 refine cM (out:= [_]) aE ze157 pl157 (.cons U .nil) U U (op_box bU U U U (fun N9 b9 B9=>aR U U (aB (s_3 (a0 ((At.retX (bH (cI (L1:= [N9]) U (.tmp U .nil) (.refl _) aJ ?_)))))))))
 rcases hq with ⟨h,_⟩|⟨_,its,xs,e,h3,h4⟩
 ·rw [hb]at h;cases h
 ·exact⟨N9,b9,its,xs,rfl,rfl,e,⟨_,_,_,B9,h3,h4⟩,h3⟩
theorem PartsN.len (h:PartsN Np NI bp zs ts): ∃ao cap,Blk Np bp 157 [.slice ao ts.length cap]∧ts.length≤cap∧cap≤maxLen:=by
 obtain⟨ao,n,cap,B,hs,hi⟩:=h
 have hn:=hs.1
 rw [cellsI_len,hi.length]at hn
 have:n=ts.length:=by omega
 subst this
 exact⟨ao,cap,B,hs.2.1,hs.2.2.1⟩
theorem FJust_p (h:PartsN Np NI bp zs ts) (hk:RSl M 1 a m c (intC ks)) (hm:m≤1099511627776):FnE Tryz.prog 51 #[.pointer (some ⟨bp,0,none⟩),.slice a m c] [Np] [M] (fun v L=>v=.int .i64 (ts.length:Int)∧L= [Np]∧ts.length∈ks) (fun v L=>v=gaveV 2∧L= []∧ts.length∉ks):=by
 obtain⟨ao,cap,B,_,hcap⟩:=h.len
 unfold maxLen at hcap
 have hkl:ks.length=m:=by have:=hk.1;rw [intC,List.length_map]at this;omega
 refine FnE.enter (vs:= [.pointer (some ⟨bp,0,none⟩),.slice a m c]) Tryz.func51 U U U ?_
 intro E R hR
 have hk:=hk.le (hR M (by simp))
 have Bp:=B
 change At _ _ E [Np,R] _
 refine aC fun _ s_1=>aA (aR U U (aB (s_1 (aC fun _ s_2=>aC fun _ s_3=>aA (aH U U (cF aE se162 U U (aH U U (aB (s_3 (bZ (At.loop (fun fr_ hp_ ms_=> ∃(i:Nat),fr_= [(0,.pointer (some ⟨bp,0,none⟩)),(7,.slice a m c),(8,.int .i64 (m:Int)),(9,.int .i64 (i:Int))]∧hp_= [Np,R]∧m- i=ms_∧(i≤m)∧(∀j,j<i→ks.getD j 0≠ts.length)) ?_ aJ ⟨0,rfl,rfl,rfl,Nat.zero_le _,fun j hj=>absurd hj (Nat.not_lt_zero _)⟩ ?_)))))))))))
 ·repeat first|apply cW|exact .nil|exact lkI rfl (by omega)|rfl
 rintro _ _ _ ⟨i,rfl,rfl,rfl,hi,hno⟩
 refine aC fun _ s_4=>aA (op_lss aE U U U (aB (s_4 (aC fun _ s_5=>aQ U (fun c10=>?_) (fun c10=>?_)))))
 ·refine aT (aI (s_5 (aC fun _ s_6=>bZ (aC fun _ s_7=>aA (cZ aE se162 U U hk (show _=(((i:Nat)):Int)from by omega) (by omega) U ?_)))))
  refine cO aE sc3 U hk (by first|exact get8 (by omega)|exact get64 (by omega)|exact get32 (by omega)|exact intC_get (by omega)) (by simp) U ?_
  refine aR U U (aB (s_7 (aC fun _ s_8=>aA (aH U U (aW aE U U (aD aE fl157_0 U U (aK aE sc89 U Bp U bI U ?_)))))))
  refine cF aE se89 U U (aH U U (dF aE U U U (aB (s_8 (aQ U (fun c19=>?_) (fun c19=>?_))))))
  ·refine aC fun _ s_9=>aA (aH U U (aR U U (aB (s_9 (a0 (At.inRet (aS (aS (At.inRet (aS ((At.retX (cI (L1:= [Np]) U (.tmp U .nil) (.refl _) aJ ?_)))))))))))))
   have hh:ks.getD i 0=ts.length:=by omega
   have hm2:ts.length∈ks:=by rw [←hh,getD_at (by omega)];exact List.getElem_mem _
   rw [hh]
   exact⟨rfl,rfl,hm2⟩
  refine aT (cS (aI (s_6 (aA (cU aE U U (by omega) (by omega) U (aH U U (aB (At.back ?_ aJ ⟨i+1,rfl,rfl,rfl,by omega,no_next (P:=fun j=>ks.getD j 0≠ts.length) hno (fun h=>c19 (by omega))⟩ ?_))))))))
  ·repeat first|apply cW|exact .nil|exact lkI rfl (by omega)|rfl
  ·omega
 refine At.exit (bB (bB (dE (aI (s_2 (aC fun _ s_10=>aA (bM (.cons U .nil) (FMust_f) (F:= [Np,R]) Tryz.func31 U U (.refl _) (by simp) U ?_ ?_)))))))
 ·rintro _ _ ⟨rfl,rfl⟩
  show At _ _ _ [Np,R] _
  refine aY ((cK (cP (L1:= []) (.refl _) aJ (⟨rfl,rfl,fun hmem=>?_⟩))))
  obtain⟨j,hj,e⟩:=List.getElem_of_mem hmem
  exact hno j (by omega) (by rw [getD_at hj];exact e)
 intro _ _ h_;exact h_.elim
end
section
variable {P : Program} {n : Nat} {l : List (Nat × Value)} {E : World} {L : List Heaplet} {d : Nat} {ty : TypeId} {pos : _} {aft : _} {Q : Exit → Act → World → Prop} {rest : List Oper} {ops : Array Oper} {Post Pan : Value → List Heaplet → Prop}
theorem op_callVE {f:FuncId} {fn:Func} {c:Operand} {xs:List Operand} {args caps:List Value} {ats:Array TypeId} {L0 Lr F:List Heaplet}
 (hcv:ev l c=some (.func (.func f) #[] caps.toArray)) (ha:Evs l xs args) (hc:FnE P f (args++caps).toArray L0 Lr Post Pan) (hfn:P.funcs[f]? =some fn) (hb:fn.body.isSome=true) (hne:(fn.name== "runtime.NumGoroutine")=false) (hL:L.Perm (L0++F)) (hr: ∀N∈Lr,N∈F) (hn:Nat.ble (d+1) n=true)
 (hp: ∀v L1,Pan v L1→At n l E (L1++F) (Q (.panic (pnk v))))
 (h: ∀v L1,Post v L1→At n ((d,v)::l) E (L1++F) (wpList P ops Q rest)):At n l E L (wpList P ops Q (⟨some d,.call ⟨.value c,xs.toArray,ats⟩,ty,pos,aft,none⟩::rest)):=fun a w hf hw=>by
 refine wpList_plain U fun K hK=>?_
 unfold Oper.wp
 have hw2:=hw.perm hL
 have hrun:(execOp a.eval ⟨some d,.call ⟨.value c,xs.toArray,ats⟩,ty,pos,aft,none⟩).run P w=.ok (.enter f (args++caps).toArray) w:=by
  have hne':fn.name≠ "runtime.NumGoroutine" :=by simpa using hne
  have he:=hf.eval hcv
  have hap:args.toArray++caps.toArray=(args++caps).toArray:=by simp
  simp only [execOp,resolve,invoke,Sem.run_bind,Sem.run_pure,Result.andThen_ok,List.map_toArray,ha.map hf,he,Deferred.ofValue,Array.empty_append,hap,run_call hfn hb hne']
 rw [hrun]
 obtain⟨R,hwR,hFR,hF⟩:=hw2.apartRest
 refine Calls.mono (hc E w R hwR fun N hN=>hFR N (hr N hN)) ?_
 rintro e w' (⟨v,L1,rfl,hP,hw'⟩|⟨v,L1,rfl,hP,hw'⟩)
 ·exact hK _ _ (h v L1 hP _ _ (hf.put (Nat.le_of_ble_eq_true hn)) (hw'.refine hFR hF))
 ·exact hp v L1 hP _ _ hf (hw'.refine hFR hF)
end
def mapE {α:Type} (g:It→Except Nat α):List It→Except Nat (List α)
 | []=>.ok []
 |t::ts=>match g t with
  |.error e=>.error e
  |.ok a=>match mapE g ts with
   |.error e=>.error e
   |.ok l=>.ok (a::l)
def eachE {α:Type} (g:It→Except Nat α) (t:It):Except Nat (List α):=match listE t with
 |.error e=>.error e
 |.ok its=>mapE g its
def restE {α:Type} (g:It→Except Nat α) (done:List α) (ts:List It):Except Nat (List α):=match mapE g ts with
 |.error e=>.error e
 |.ok l=>.ok (done++l)
theorem restE_nil {α:Type} (g:It→Except Nat α) (done:List α):restE g done []=.ok done:=by simp [restE,mapE]
theorem restE_ok {α:Type} {g:It→Except Nat α} {done:List α} {t:It} {ts:List It} {a:α} (h:g t=.ok a):restE g done (t::ts)=restE g (done++ [a]) ts:=by
 simp only [restE,mapE,h]
 cases mapE g ts with
 |error e=>rfl
 |ok l=>simp
theorem restE_bad {α:Type} {g:It→Except Nat α} {done:List α} {t:It} {ts:List It} {e:Nat} (h:g t=.error e):restE g done (t::ts)=.error e:=by
 simp only [restE,mapE,h]
theorem restE_0 {α:Type} (g:It→Except Nat α) (ts:List It):restE g [] ts=mapE g ts:=by
 simp only [restE]
 cases mapE g ts with
 |error e=>rfl
 |ok l=>simp
section
variable {α : Type} {El : It → Prop} {g : It → Except Nat α} {Inv : List IV → List α → Heaplet → Prop} {z : IV} {zs : List IV} {Np NI NO : Heaplet} {bp : Nat} {t : It} {ts : List It} {f : FuncId} {fn : Func} {caps : List Value}
theorem FEach_p (h:PartsN Np NI bp (z::zs) (t::ts)) (hI:Inv [] [] NO) (hk: ∀its,listE t=.ok its→its.length≤1099511627776) (hel: ∀its,listE t=.ok its→ ∀y∈its,El y) (hfn:Tryz.prog.funcs[f]? =some fn) (hb:fn.body.isSome=true) (hne:(fn.name== "runtime.NumGoroutine")=false)
 (hc: ∀(Nq NO:Heaplet) (bq:Nat) (z:IV) (zs ys:List IV) (t:It) (ts:List It) (l:List α),PartsN Nq NI bq (z::zs) (t::ts)→Inv ys l NO→ys.length=l.length→l.length<1099511627776→El t→FnE Tryz.prog f ([Value.pointer (some ⟨bq,0,none⟩)]++caps).toArray [Nq,NO] [NI] (fun _ L=> ∃Nq NO a,L= [Nq,NO]∧g t=.ok a∧PartsN Nq NI bq zs ts∧Inv (ys++ [z]) (l++ [a]) NO) (fun v L=> ∃e:Nat,v=gaveV e∧L= []∧g t=.error e)):
 FnE Tryz.prog 53 #[.pointer (some ⟨bp,0,none⟩),.func (.func f) #[] caps.toArray] [Np,NO] [NI] (fun v L=> ∃Np NO l ys,v=.tuple #[]∧L= [Np,NO]∧eachE g t=.ok l∧PartsN Np NI bp zs ts∧Inv ys l NO∧RSl NI 3 z.ai z.ni z.ci (cellsI ys)) (fun v L=> ∃e:Nat,v=gaveV e∧L= []∧eachE g t=.error e):=by
 have h1:=FNext_p h
 refine FnE.enter (vs:= [.pointer (some ⟨bp,0,none⟩),.func (.func f) #[] caps.toArray]) Tryz.func53 U U U ?_
 intro E R hR
 have hNR:=hR NI (by simp)
 have h1:=h1.liftB hNR
 change At _ _ E [Np,NO,R] _
 refine aC fun _ s_1=>aA (aH U U (cA cL (.cons U .nil) (h1) (F:= [NO,R]) Tryz.func52 U U aJ (by simp) U ?_))
 rintro _ _ ⟨Mp,rfl,rfl,hp,hx⟩
 show At _ _ _ [Mp,NO,R] _
 change At _ ((6,.agg #[.bool z.l,.slice z.ab z.nb z.cb,.slice z.ai z.ni z.ci])::_) _ _ _
 refine bM (.cons U .nil) ((FOpened_p hx).liftB hNR) (F:= [Mp,NO,R]) Tryz.func33 U U (.refl _) (by simp) U ?_ ?_
 ·rintro _ _ ⟨e,rfl,rfl,he⟩
  show At _ _ _ [Mp,NO,R] _
  refine aY ((bH (cK (cP (L1:= []) (.refl _) aJ ?_))))
  exact⟨e,rfl,rfl,by simp only [eachE,he]⟩
 rintro _ _ ⟨Nq,bq,its,zq,rfl,rfl,he,hq,hzq⟩
 show At _ _ _ [Nq,Mp,NO,R] _
 have hkl:=hk its he
 refine aR U U (aB (s_1 (bZ (aN (aM (aN (aN (At.loop (fun fr_ hp_ ms_=> ∃(done:List α) (rest:List It) (ys zr:List IV) (Nr NS:Heaplet),fr_= [(0,.pointer (some ⟨bp,0,none⟩)),(1,.func (.func f) #[] caps.toArray),(4,.pointer (some ⟨bq,0,none⟩))]∧hp_= [Nr,NS,Mp,R]∧rest.length=ms_∧(PartsN Nr NI bq zr rest)∧(Inv ys done NS)∧(ys++zr=zq)∧(ys.length=done.length)∧(mapE g its=restE g done rest)∧(∀y∈rest,El y)∧(done.length+rest.length=its.length)) ?_ aJ ⟨[],its,[],zq,Nq,NO,rfl,rfl,rfl,hq,hI,rfl,rfl,(restE_0 g its).symm,hel its he,by simp⟩ ?_))))))))
 ·repeat first|apply cW|exact .nil|exact lkI rfl (by omega)|rfl
 rintro _ _ _ ⟨done,rest,ys,zr,Nr,NS,rfl,rfl,rfl,hr,hi,hyz,hyl,hm,hsub,hcnt⟩
 refine aC fun _ s_2=>aC fun _ s_3=>aA ?_
 obtain⟨ar,cr,Br,hle,hcm⟩:=hr.len
 refine aH U U (aW aE U U (aD aE fl157_0 U U (aK aE sc89 U Br U bI U ?_)))
 refine cF aE se89 U U (op_gtr aE U U U (aB (s_3 (aQ U (fun c13=>?_) (fun c13=>?_)))))
 ·obtain⟨t',rest',rfl⟩: ∃t' rest',rest=t'::rest':=by
   cases rest with
   |nil=>exact absurd c13 (by simp)
   |cons a b=>exact⟨a,b,rfl⟩
  obtain⟨z',zr',rfl⟩:=hr.cons
  have hln:(t'::rest').length=rest'.length+1:=rfl
  refine aT (aI (s_2 (bZ (aA (aH U U (aH U U (op_callVE U (.cons U .nil) ((hc Nr NS bq z' zr' ys t' rest' done hr hi hyl (by omega) (hsub _ (by simp))).liftB hNR) (F:= [Mp,R]) hfn hb hne (.refl _) (by simp) U ?_ ?_)))))))
  ·rintro _ _ ⟨e,rfl,rfl,hy⟩
   show At _ _ _ [Mp,R] _
   refine At.inPan (aY (At.inPan ((cK (cP (L1:= []) (.refl _) aJ ?_)))))
   exact⟨e,rfl,rfl,by simp only [eachE,he,hm,restE_bad hy]⟩
  rintro _ _ ⟨M1,M2,y,rfl,hy,hr',hi'⟩
  show At _ _ _ [M1,M2,Mp,R] _
  refine cX (cS (aI ?_))
  refine At.back ?_ aJ ⟨done++ [y],rest',ys++ [z'],zr',M1,M2,rfl,rfl,rfl,hr',hi',by rw [List.append_assoc];exact hyz,by simp [hyl],by rw [hm,restE_ok hy],fun z hz=>hsub z (List.mem_cons_of_mem _ hz),by rw [List.length_append,List.length_singleton];omega⟩ ?_
  ·repeat first|apply cW|exact .nil|exact lkI rfl (by omega)|rfl
  ·omega
 refine At.exit (bB (bB (dE (At.norX (cK (aM (bO (aM (At.retNE (L1:= [Mp,NS]) U .nil U (.refl _) aJ ?_)))))))))
 have h0:rest= []:=List.length_eq_zero_iff.1 (by omega)
 subst h0
 obtain rfl:zr= []:=hr.nil
 rw [List.append_nil]at hyz
 exact⟨Mp,NS,done,ys,rfl,rfl,by simp only [eachE,he,hm,restE_nil],hp,hi,hyz▸hzq⟩
end
end Go.Proofs.YtjfagifjajielaaGreat
namespace Go.Proofs.YtjfagifjajielaaGreat.Pn
open Go
variable {P : Program} {ops : Array Oper} {md : Region.Mode} {Q : Exit → Act → World → Prop}
def panQ (Q:Exit→Act→World→Prop):Exit→Act→World→Prop:=fun e a w=>(∃ch,e=.panic ch)∧Q e a w
def PanOK (Q:Exit→Act→World→Prop):Prop:= ∀ch (a a':Act) (w:World),a.defers=a'.defers→Q (.panic ch) a w→Q (.panic ch) a' w
def wpOne (P:Program) (ops:Array Oper) (sink:Nat→Bool) (Q:Exit→Act→World→Prop):List Nat→Act→World→Prop
 | [],a,w=>Q .normal a w
 |i::rest,a,w=>
  match ops[i]? with
  |none=>False
  |some o=>
   if Region.wanted o (yielded ops a.tmps)then
    if floats o.op then floatOK P o.op a.eval=true∧o.wp P a w (wpOne P ops sink Q rest) (fun _ _ _=>False)
    else o.wp P a w (fun a' w'=>(sink i=true∨Agree w w')∧wpOne P ops sink Q rest a' w') (panQ Q)
   else wpOne P ops sink Q rest (a.put o.dst undef) w
variable {sink : Nat → Bool}
theorem dfeq {w:World} {a ag:Act} {l:List (Nat×Value)} (h:PendRun P ops w a l ag):ag.defers=a.defers:=by
 induction h with
 |nil a=>rfl
 | @cons a ag i v o l _ _ _ ih=>exact ih.trans (by unfold Act.put;cases o.dst<;>rfl)
theorem upon_carry {o:Oper} {a ag:Act} {K K':Act→World→Prop} {r:Result Next} (hQ:PanOK Q) (hdf:ag.defers=a.defers) (hv: ∀v w',K (ag.put o.dst v) w'→K' (a.put o.dst v) w')
 (hd: ∀d w',K ({ ag with defers:=d::ag.defers }.put o.dst undef) w'→K' ({ a with defers:=d::a.defers }.put o.dst undef) w')
 (h:o.upon P ag K (panQ Q) r):o.upon P a K' Q r:=by
 cases r with
 |ok n w'=>
  cases n<;>simp only [Oper.upon]at h⊢
  case value v=>exact hv _ _ h
  case skip=>exact hv _ _ h
  case defer d=>exact hd _ _ h
  case enter f args=>
   refine Calls.mono h fun e w'' he=>?_
   cases e with
   |returned v=>exact hv _ _ he
   |panicked c=>exact hQ _ _ _ _ hdf he.2
   |outgrown=>obtain⟨_,_,⟨_,hx⟩,_⟩:=he;cases hx
  case row row args=>exact Rows.mono h fun u w'' he=>hv _ _ he
 |halt x w'=>
  cases x<;>simp only [Oper.upon]at h⊢
  case panic v=>exact hQ _ _ _ _ hdf h.2
structure OneInv (P:Program) (md:Region.Mode) (ops:Array Oper) (sink:Nat→Bool) (Q:Exit→Act→World→Prop) (listed:Array Bool) (pend:List (Nat×Value)) (rem:List Nat) (a ag:Act) (w:World):Prop where
 size:listed.size=ops.size
 closed: ∀j,listed.getD j false=true→DepsIn md ops (fun k=>listed.getD k false=true) j
 parts: ∀j,j<ops.size→listed.getD j false=true∨j∈pend.map (·.1)++rem
 apart: ∀j∈pend.map (·.1)++rem,j<ops.size∧listed.getD j false=false
 nodup:(pend.map (·.1)++rem).Nodup
 fl: ∀j∈pend.map (·.1),FloatsAt ops j
 ord:OrdOK md ops sink (fun k=>listed.getD k false=true) (pend.map (·.1)++rem)
 run:PendRun P ops w a pend ag
 wp:wpOne P ops sink Q rem ag w
theorem OneInv.apartPre {listed:Array Bool} {pre:List (Nat×Value)} {l:List Nat} {i:Nat} {o:Oper} (hp:PairsOK md ops) (hi:ops[i]? =some o)
 (hd:DepsIn md ops (fun k=>listed.getD k false=true) i) (hun:listed.getD i false=false) (hpre: ∀j∈pre.map (·.1),listed.getD j false=false) (hn:i∉pre.map (·.1))
 (hord:OrdOK md ops sink (fun k=>listed.getD k false=true) (pre.map (·.1)++i::l)): ∀p∈pre, ∀oj,ops[p.1]? =some oj→oj.apart ops o=true:=by
 intro p hpp oj hoj
 have hpm:p.1∈pre.map (·.1):=List.mem_map_of_mem hpp
 have hne:p.1≠i:=fun e=>hn (e▸hpm)
 rcases hp p.1 i oj o hoj hi hne with h|h|h
 ·exact h
 ·exact absurd h (hord.noWait _ (by simp [hun]) hn p.1 hpm)
 ·obtain⟨o',ho',e,he,hb,heq⟩:=h
  have:=hd o' ho' e he hb
  rw [heq,hpre _ hpm]at this
  cases this
theorem wpAny_of_one (hs: ∀(j:Nat) (oj:Oper),ops[j]? =some oj→NoSel oj) (hp:PairsOK md ops) (hQ:PanOK Q):
 ∀(fuel:Nat) (listed:Array Bool) (pend:List (Nat×Value)) (rem:List Nat) (a ag:Act) (w:World),
  pend.length+rem.length≤fuel→OneInv P md ops sink Q listed pend rem a ag w→wpAny P md ops Q fuel listed a w:=by
 have stop: ∀(listed:Array Bool) (pend:List (Nat×Value)) (rem:List Nat) (a ag:Act) (w:World),OneInv P md ops sink Q listed pend rem a ag w→Region.ready md ops listed= []→Q .normal a w:=by
  intro listed pend rem a ag w I hr
  cases hl:pend.map (·.1)++rem with
  |nil=>
   obtain⟨h1,h2⟩:=List.append_eq_nil_iff.1 hl
   have h1':pend= []:=by simpa using h1
   subst h1';subst h2
   have hrun:=I.run
   cases hrun
   exact I.wp
  |cons i l=>
   have ha:=I.apart i (by rw [hl];exact List.mem_cons_self)
   have ho:=I.ord
   rw [hl]at ho
   have:i∈Region.ready md ops listed:=(ready_iff I.size).2 ⟨ha.1,ha.2,ho.1⟩
   rw [hr]at this
   cases this
 intro fuel
 induction fuel with
 |zero=>
  intro listed pend rem a ag w hlen I
  have hp0:pend= []:=List.eq_nil_of_length_eq_zero (by omega)
  have hr0:rem= []:=List.eq_nil_of_length_eq_zero (by omega)
  subst hp0;subst hr0
  have hready:Region.ready md ops listed= []:=by
   cases h:Region.ready md ops listed with
   |nil=>rfl
   |cons j l=>
    have hj:j∈Region.ready md ops listed:=by rw [h];exact List.mem_cons_self
    obtain⟨hlt,h0,_⟩:=(ready_iff I.size).1 hj
    rcases I.parts j hlt with h1|h1
    ·rw [h0]at h1;cases h1
    ·cases h1
  exact⟨hready,stop _ _ _ _ _ _ I hready⟩
 |succ fuel ih=>
  intro listed pend rem a ag w hlen I
  refine⟨stop _ _ _ _ _ _ I,?_⟩
  intro i hi
  obtain⟨hlt,hun,hd⟩:=(ready_iff I.size).1 hi
  obtain⟨o,ho⟩: ∃o,ops[i]? =some o:=⟨_,Array.getElem?_eq_getElem hlt⟩
  -- an operation that is pending comes up
  have hpull: ∀(pend:List (Nat×Value)) (rem:List Nat) (ag:Act),pend.length+rem.length≤fuel+1→OneInv P md ops sink Q listed pend rem a ag w→i∈pend.map (·.1)→
   wpOp P ops Q i (wpAny P md ops Q fuel (listed.setIfInBounds i true)) a w:=by
   intro pend rem ag hlen I hm
   obtain⟨⟨i',v⟩,hmem,rfl⟩:=List.mem_map.1 hm
   obtain⟨pre,post,rfl⟩:=List.append_of_mem hmem
   dsimp only at*
   have hord:=I.ord
   have hnd:=I.nodup
   simp only [List.map_append,List.map_cons,List.append_assoc,List.cons_append]at hord hnd
   have hn:i'∉pre.map (·.1):=by
    intro hh
    have:=List.nodup_append.1 hnd
    exact this.2.2 i' hh i' List.mem_cons_self U
   have hpre: ∀j∈pre.map (·.1),listed.getD j false=false:=fun j hj=>(I.apart j (by simp only [List.map_append,List.append_assoc];exact List.mem_append_left _ hj)).2
   obtain⟨h1,h2⟩:=PendRun.pull ho hs pre (OneInv.apartPre hp ho hd hun hpre hn hord) I.run
   refine h1.wpOp ho ?_
   refine ih _ (pre++post) rem _ ag w (by simp at hlen⊢;omega) ?_
   have hsub: ∀j,j∈(pre++post).map (·.1)++rem→j∈(pre++(i',v)::post).map (·.1)++rem∧j≠i':=by
    intro j hj
    simp only [List.map_append,List.map_cons,List.append_assoc,List.cons_append]at hj⊢
    refine⟨?_,?_⟩
    ·rcases List.mem_append.1 hj with h|h
     ·exact List.mem_append_left _ h
     ·exact List.mem_append_right _ (List.mem_cons_of_mem _ h)
    ·rintro rfl
     have hnd2:=List.nodup_append.1 hnd
     rcases List.mem_append.1 hj with h|h
     ·exact hn h
     ·exact(List.nodup_cons.1 hnd2.2.1).1 h
   refine⟨by simpa using I.size,closed_set I.size hlt I.closed hd,?_,?_,?_,?_,?_,h2,I.wp⟩
   ·intro j hj
    rcases I.parts j hj with h|h
    ·exact .inl ((dC (by have:=I.size;omega)).2 (.inl h))
    ·by_cases hji:j=i'
     ·exact .inl ((dC (by have:=I.size;omega)).2 (.inr hji))
     ·right
      simp only [List.map_append,List.map_cons,List.append_assoc,List.cons_append]at h⊢
      rcases List.mem_append.1 h with h|h
      ·exact List.mem_append_left _ h
      ·rcases List.mem_cons.1 h with h|h
       ·exact absurd h hji
       ·exact List.mem_append_right _ h
   ·intro j hj
    obtain⟨h1,h2⟩:=hsub j hj
    refine⟨(I.apart j h1).1,?_⟩
    rw [Go.getD_set_ne false (Ne.symm h2)]
    exact(I.apart j h1).2
   ·simp only [List.map_append,List.append_assoc]
    exact(List.nodup_cons.1 ((List.Perm.nodup_iff List.perm_middle).1 hnd)).2
   ·intro j hj
    refine I.fl j ?_
    simp only [List.map_append,List.map_cons]at hj⊢
    rcases List.mem_append.1 hj with h|h
    ·exact List.mem_append_left _ h
    ·exact List.mem_append_right _ (List.mem_cons_of_mem _ h)
   ·have:=OrdOK.pull (pre.map (·.1)) (fun j hj=>I.fl j (by simp only [List.map_append];exact List.mem_append_left _ hj)) hd hord
    simp only [List.map_append,List.append_assoc]
    exact OrdOK.congr (fun j=>(dC (by have:=I.size;omega)).symm) this
  -- on along the order till i has been met
  have hgo: ∀(rem:List Nat) (pend:List (Nat×Value)) (ag:Act),pend.length+rem.length≤fuel+1→OneInv P md ops sink Q listed pend rem a ag w→
   wpOp P ops Q i (wpAny P md ops Q fuel (listed.setIfInBounds i true)) a w:=by
   intro rem
   induction rem with
   |nil=>
    intro pend ag hlen I
    rcases I.parts i hlt with h|h
    ·rw [hun]at h;cases h
    ·exact hpull pend [] ag hlen I (by simpa using h)
   |cons c rem ihr=>
    intro pend ag hlen I
    have hc:=I.apart c (by simp)
    obtain⟨oc,hoc⟩: ∃oc,ops[c]? =some oc:=⟨_,Array.getElem?_eq_getElem hc.1⟩
    have hat:=OrdOK.at (pend.map (·.1)) I.ord
    have hwp:=I.wp
    simp only [wpOne,hoc]at hwp
    by_cases hfl:floats oc.op=true
    · -- it floats: it joins those that are pending
     have hnext: ∃v,RunsNow P ops w oc ag v∧wpOne P ops sink Q rem (ag.put oc.dst v) w:=by
      by_cases hw:Region.wanted oc (yielded ops ag.tmps)=true
      ·rw [if_pos hw,if_pos hfl]at hwp
       exact runsNow_of_wp hw hwp.1 hwp.2
      ·rw [if_neg hw]at hwp
       exact⟨undef,.inr ⟨by simpa using hw,rfl⟩,hwp⟩
     obtain⟨v,hrn,hwp'⟩:=hnext
     have hrun:PendRun P ops w a (pend++ [(c,v)]) (ag.put oc.dst v):=by
      exact I.run.snoc hoc hrn
     have e:(pend++ [(c,v)]).map (·.1)++rem=pend.map (·.1)++c::rem:=by simp
     refine ihr (pend++ [(c,v)]) (ag.put oc.dst v) (by simp at hlen⊢;omega) ⟨I.size,I.closed,?_,?_,?_,?_,?_,hrun,hwp'⟩
     ·rw [e];exact I.parts
     ·rw [e];exact I.apart
     ·rw [e];exact I.nodup
     ·intro j hj
      simp only [List.map_append,List.map_cons,List.map_nil]at hj
      rcases List.mem_append.1 hj with h|h
      ·exact I.fl j h
      ·simp at h;subst h;intro o' ho';rw [hoc]at ho';cases ho';exact hfl
     ·rw [e];exact I.ord
    · -- it acts
     by_cases him:i∈pend.map (·.1)
     ·exact hpull pend (c::rem) ag hlen I him
     ·rcases hat.2.1 with hf|⟨honly,hsink⟩
      ·exact absurd (hf oc hoc) hfl
      have hci:i=c:=honly i hlt (by simp only [not_or];exact⟨by simp [hun],him⟩) (hd.mono fun j hj=>.inl hj)
      subst hci
      rw [ho]at hoc;cases hoc
      have hpre: ∀j∈pend.map (·.1),listed.getD j false=false:=fun j hj=>(I.apart j (List.mem_append_left _ hj)).2
      have hap:=OneInv.apartPre hp ho hd hun hpre him I.ord
      obtain⟨e1,e2,e3⟩:=PendRun.push hs (hs i o ho) I.run hap
      have hnd:=I.nodup
      have hstep: ∀w',(sink i=true∨Agree w w')→ ∀a' ag',wpOne P ops sink Q rem ag' w'→PendRun P ops w a' pend ag'→wpAny P md ops Q fuel (listed.setIfInBounds i true) a' w':=by
       intro w' hsa a' ag' hw' hrun'
       have hrun2:PendRun P ops w' a' pend ag':=by
        rcases hsa with hsa|hsa
        · -- the sink: nothing is pending
         have hnil:pend= []:=by
          rcases List.eq_nil_or_concat pend with h|⟨pre,⟨j,u⟩,h⟩
          ·exact h
          ·exfalso
           rw [List.concat_eq_append]at h
           subst h
           have hjm:j∈(pre++ [(j,u)]).map (·.1):=by simp
           have hju:=hpre j hjm
           obtain⟨k,hk,hwt⟩:=hsink hsa j (.inr hjm)
           have hord:=I.ord
           simp only [List.map_append,List.map_cons,List.map_nil,List.append_assoc,List.singleton_append]at hord hnd
           have hjn:j∉pre.map (·.1):=fun hh=>(List.nodup_append.1 hnd).2.2 j hh j List.mem_cons_self rfl
           have hself: ¬WaitsOn md ops j j:=by
            intro hh
            obtain⟨o',ho',e,he,hb,heq⟩:=hh
            have h0:=(OrdOK.at (pre.map (·.1)) hord).1 o' ho' e he hb
            rw [heq]at h0
            rcases h0 with h0|h0
            ·rw [hju]at h0;cases h0
            ·exact hjn h0
           obtain⟨o',ho',e,he,hb,heq⟩:=hwt
           rcases hk with (hk|hk)|hk
           ·have:=I.closed k hk o' ho' e he hb
            rw [heq,hju]at this;cases this
           ·simp only [List.map_append,List.map_cons,List.map_nil,List.mem_append,List.mem_singleton]at hk
            rcases hk with hk|hk
            ·exact hord.noWait _ (by simp [hju]) hjn k hk ⟨o',ho',e,he,hb,heq⟩
            ·subst hk;exact hself ⟨o',ho',e,he,hb,heq⟩
           ·subst hk
            have:=hd o' ho' e he hb
            rw [heq,hju]at this;cases this
         subst hnil
         cases hrun'
         exact .nil _
        ·exact hrun'.mono hsa
       refine ih _ pend rem a' ag' w' (by simp at hlen⊢;omega) ?_
       have hsub: ∀j,j∈pend.map (·.1)++rem→j∈pend.map (·.1)++i::rem∧j≠i:=by
        intro j hj
        refine⟨?_,?_⟩
        ·rcases List.mem_append.1 hj with h|h
         ·exact List.mem_append_left _ h
         ·exact List.mem_append_right _ (List.mem_cons_of_mem _ h)
        ·rintro rfl
         rcases List.mem_append.1 hj with h|h
         ·exact him h
         ·exact(List.nodup_cons.1 (List.nodup_append.1 hnd).2.1).1 h
       refine⟨by simpa using I.size,closed_set I.size hlt I.closed hd,?_,?_,?_,I.fl,?_,hrun2,hw'⟩
       ·intro j hj
        rcases I.parts j hj with h|h
        ·exact .inl ((dC (by have:=I.size;omega)).2 (.inl h))
        ·by_cases hji:j=i
         ·exact .inl ((dC (by have:=I.size;omega)).2 (.inr hji))
         ·right
          rcases List.mem_append.1 h with h|h
          ·exact List.mem_append_left _ h
          ·rcases List.mem_cons.1 h with h|h
           ·exact absurd h hji
           ·exact List.mem_append_right _ h
       ·intro j hj
        obtain⟨h1,h2⟩:=hsub j hj
        refine⟨(I.apart j h1).1,?_⟩
        rw [Go.getD_set_ne false (Ne.symm h2)]
        exact(I.apart j h1).2
       ·exact(List.nodup_cons.1 ((List.Perm.nodup_iff List.perm_middle).1 hnd)).2
       ·exact OrdOK.congr (fun j=>(dC (by have:=I.size;omega)).symm) (OrdOK.pull (pend.map (·.1)) I.fl hd I.ord)
      unfold Go.wpOp
      simp only [ho]
      by_cases hw:Region.wanted o (yielded ops ag.tmps)=true
      ·rw [if_pos hw,if_neg hfl]at hwp
       rw [←e2,if_pos hw]
       left
       unfold Oper.wp at hwp⊢
       rw [e1]at hwp
       refine upon_carry hQ (dfeq I.run) (fun v w' hk=>?_) (fun d w' hk=>?_) hwp
       ·exact hstep w' hk.1 _ _ hk.2 (e3 v)
       ·exact hstep w' hk.1 _ _ hk.2 ((PendRun.push hs (hs i o ho) (I.run.defers d) hap).2.2 undef)
      ·rw [if_neg hw]at hwp
       rw [←e2,if_neg hw]
       exact hstep w (.inr (Agree.refl w)) _ _ hwp (e3 undef)
  exact hgo rem pend ag hlen I
theorem wp_one {id:Nat} {a:Act} {w:World} {l:List Oper} (snk ord:List Nat) (hm:P.follows .mixedOrders=true) (hB:oneB .any l.toArray snk ord=true)
 (hQ:PanOK Q) (h:wpOne P l.toArray (fun i=>snk.contains i) Q ord a w.drew):(Code.region id l.toArray true).wp P Q a w:=by
 simp only [oneB,Bool.and_eq_true,decide_eq_true_eq]at hB
 obtain⟨⟨⟨⟨⟨⟨hsel,hpair⟩,hord⟩,hall⟩,hnd⟩,hlt⟩,hlen⟩:=hB
 refine wp_region_any hm (wpAny_of_one (fun j oj hj cs b=>Region.noSelect_spec hsel j oj cs b hj) (pairsB_spec hpair) hQ _ _ [] ord a a _ ?_ ⟨by simp,?_,?_,?_,by simpa using hnd,by simp,?_,.nil _,h⟩)
 ·simpa using hlen
 ·intro j hj
  exfalso
  rw [Array.getD_eq_getD_getElem?,Array.getElem?_replicate]at hj
  split at hj<;>cases hj
 ·intro j hj
  right
  have:=List.all_eq_true.1 hall j (List.mem_range.2 hj)
  simpa using this
 ·intro j hj
  refine⟨by simpa using List.all_eq_true.1 hlt j (by simpa using hj),?_⟩
  rw [Array.getD_eq_getD_getElem?,Array.getElem?_replicate]
  split<;>rfl
 ·exact ordB_spec _ _ (by simp) hord
section
variable {a : Act} {w : World} {i : Nat} {rest : List Nat} {o : Oper}
theorem wpOne_nil (h:Q .normal a w):wpOne P ops sink Q [] a w:=h
theorem wpOne_float (ho:ops[i]? =some o) (hf:floats o.op=true) (hw:Region.wanted o (yielded ops a.tmps)=true) (hok:floatOK P o.op a.eval=true)
 (h: ∀K:Act→World→Prop,(∀a w,wpOne P ops sink Q rest a w→K a w)→o.wp P a w K (fun _ _ _=>False)):wpOne P ops sink Q (i::rest) a w:=by
 simp only [wpOne,ho,if_pos hw,if_pos hf]
 exact⟨hok,h _ fun _ _ h=>h⟩
theorem wpOne_skip (ho:ops[i]? =some o) (hw:Region.wanted o (yielded ops a.tmps)=false) (h:wpOne P ops sink Q rest (a.put o.dst undef) w):wpOne P ops sink Q (i::rest) a w:=by
 simp only [wpOne,ho,hw]
 exact h
theorem wpOne_sink (ho:ops[i]? =some o) (hf:floats o.op=false) (hs:sink i=true) (hw:Region.wanted o (yielded ops a.tmps)=true)
 (h: ∀K:Act→World→Prop,(∀a w,wpOne P ops sink Q rest a w→K a w)→o.wp P a w K (panQ Q)):wpOne P ops sink Q (i::rest) a w:=by
 simp only [wpOne,ho,if_pos hw,hf,hs]
 exact h _ fun _ _ h=>⟨.inl trivial,h⟩
theorem wpOne_act (ho:ops[i]? =some o) (hf:floats o.op=false) (hw:Region.wanted o (yielded ops a.tmps)=true)
 (h: ∀K:Act→World→Prop,(∀a' w',(Agree w w'∧wpOne P ops sink Q rest a' w')→K a' w')→o.wp P a w K (panQ Q)):wpOne P ops sink Q (i::rest) a w:=by
 simp only [wpOne,ho,if_pos hw,hf]
 exact h _ fun _ _ h=>⟨.inr h.1,h.2⟩
end
end Go.Proofs.YtjfagifjajielaaGreat.Pn
namespace Go.Proofs.YtjfagifjajielaaGreat.St.Sp
open Go Go.Proofs.YtjfagifjajielaaGreat
section
variable {P : Program} {ops : Array Oper} {md : Region.Mode} {S : World → Prop} {sink : Nat → Bool} {Q : Exit → Act → World → Prop}
def wpOne (P:Program) (ops:Array Oper):(World→Prop)→(Nat→Bool)→(Exit→Act→World→Prop)→List Nat→Act→World→Prop
 |_,_,Q,[],a,w=>Q .normal a w
 |S,sink,Q,i::rest,a,w=>
  match ops[i]? with
  |none=>False
  |some o=>
   if Region.wanted o (yielded ops a.tmps)then
    if floats o.op then ∃v,(∀w',S w'→(execOp a.eval o).run P w'=.ok (.value v) w')∧wpOne P ops S sink Q rest (a.put o.dst v) w
    else o.wp P a w (fun a' w'=> ∃S':World→Prop,((∀u,S' u→S u)∨sink i=true)∧S' w'∧wpOne P ops S' sink Q rest a' w') (Pn.panQ Q)
   else wpOne P ops S sink Q rest (a.put o.dst undef) w
theorem dfeq {a ag:Act} {l:List (Nat×Value)} (h:PendRun P ops S a l ag):ag.defers=a.defers:=by
 induction h with
 |nil a=>rfl
 | @cons a ag i v o l _ _ _ ih=>exact ih.trans (by unfold Act.put;cases o.dst<;>rfl)
structure OneInv (P:Program) (md:Region.Mode) (ops:Array Oper) (S:World→Prop) (sink pl:Nat→Bool) (Q:Exit→Act→World→Prop) (listed:Array Bool) (pend:List (Nat×Value)) (rem:List Nat) (a ag:Act) (w:World):Prop where
 size:listed.size=ops.size
 closed: ∀j,listed.getD j false=true→DepsIn md ops (fun k=>listed.getD k false=true) j
 parts: ∀j,j<ops.size→listed.getD j false=true∨j∈pend.map (·.1)++rem
 apart: ∀j∈pend.map (·.1)++rem,j<ops.size∧listed.getD j false=false
 nodup:(pend.map (·.1)++rem).Nodup
 fl: ∀j∈pend.map (·.1),FloatsAt ops j
 ord:OrdOK md ops (fun _=>false) (fun k=>listed.getD k false=true) (pend.map (·.1)++rem)
 snk:SinkOK md ops sink pl (fun k=>listed.getD k false=true) (pend.map (·.1)++rem)
 run:PendRun P ops S a pend ag
 st:(pend= []∧rem= [])∨S w
 wp:wpOne P ops S sink Q rem ag w
theorem OneInv.apartPre {listed:Array Bool} {pre:List (Nat×Value)} {l:List Nat} {i:Nat} {o:Oper} (hp:PairsOK md ops) (hi:ops[i]? =some o)
 (hd:DepsIn md ops (fun k=>listed.getD k false=true) i) (hun:listed.getD i false=false) (hpre: ∀j∈pre.map (·.1),listed.getD j false=false) (hn:i∉pre.map (·.1))
 (hord:OrdOK md ops (fun _=>false) (fun k=>listed.getD k false=true) (pre.map (·.1)++i::l)): ∀p∈pre, ∀oj,ops[p.1]? =some oj→oj.apart ops o=true:=by
 intro p hpp oj hoj
 have hpm:p.1∈pre.map (·.1):=List.mem_map_of_mem hpp
 have hne:p.1≠i:=fun e=>hn (e▸hpm)
 rcases hp p.1 i oj o hoj hi hne with h|h|h
 ·exact h
 ·exact absurd h (hord.noWait _ (by simp [hun]) hn p.1 hpm)
 ·obtain⟨o',ho',e,he,hb,heq⟩:=h
  have:=hd o' ho' e he hb
  rw [heq,hpre _ hpm]at this
  cases this
theorem wpAny_of_one {pl:Nat→Bool} (hs: ∀(j:Nat) (oj:Oper),ops[j]? =some oj→NoSel oj) (hp:PairsOK md ops) (hQ:Pn.PanOK Q):
 ∀(fuel:Nat) (S:World→Prop) (listed:Array Bool) (pend:List (Nat×Value)) (rem:List Nat) (a ag:Act) (w:World),
  pend.length+rem.length≤fuel→OneInv P md ops S sink pl Q listed pend rem a ag w→wpAny P md ops Q fuel listed a w:=by
 have stop: ∀(S:World→Prop) (listed:Array Bool) (pend:List (Nat×Value)) (rem:List Nat) (a ag:Act) (w:World),OneInv P md ops S sink pl Q listed pend rem a ag w→Region.ready md ops listed= []→Q .normal a w:=by
  intro S listed pend rem a ag w I hr
  cases hl:pend.map (·.1)++rem with
  |nil=>
   obtain⟨h1,h2⟩:=List.append_eq_nil_iff.1 hl
   have h1':pend= []:=by simpa using h1
   subst h1';subst h2
   have hrun:=I.run
   cases hrun
   exact I.wp
  |cons i l=>
   have ha:=I.apart i (by rw [hl];exact List.mem_cons_self)
   have ho:=I.ord
   rw [hl]at ho
   have:i∈Region.ready md ops listed:=(ready_iff I.size).2 ⟨ha.1,ha.2,ho.1⟩
   rw [hr]at this
   cases this
 intro fuel
 induction fuel with
 |zero=>
  intro S listed pend rem a ag w hlen I
  have hp0:pend= []:=List.eq_nil_of_length_eq_zero (by omega)
  have hr0:rem= []:=List.eq_nil_of_length_eq_zero (by omega)
  subst hp0;subst hr0
  have hready:Region.ready md ops listed= []:=by
   cases h:Region.ready md ops listed with
   |nil=>rfl
   |cons j l=>
    have hj:j∈Region.ready md ops listed:=by rw [h];exact List.mem_cons_self
    obtain⟨hlt,h0,_⟩:=(ready_iff I.size).1 hj
    rcases I.parts j hlt with h1|h1
    ·rw [h0]at h1;cases h1
    ·cases h1
  exact⟨hready,stop _ _ _ _ _ _ _ I hready⟩
 |succ fuel ih=>
  intro S listed pend rem a ag w hlen I
  refine⟨stop _ _ _ _ _ _ _ I,?_⟩
  intro i hi
  obtain⟨hlt,hun,hd⟩:=(ready_iff I.size).1 hi
  obtain⟨o,ho⟩: ∃o,ops[i]? =some o:=⟨_,Array.getElem?_eq_getElem hlt⟩
  -- an operation that is pending comes up
  have hpull: ∀(pend:List (Nat×Value)) (rem:List Nat) (ag:Act),pend.length+rem.length≤fuel+1→OneInv P md ops S sink pl Q listed pend rem a ag w→i∈pend.map (·.1)→
   wpOp P ops Q i (wpAny P md ops Q fuel (listed.setIfInBounds i true)) a w:=by
   intro pend rem ag hlen I hm
   obtain⟨⟨i',v⟩,hmem,rfl⟩:=List.mem_map.1 hm
   obtain⟨pre,post,rfl⟩:=List.append_of_mem hmem
   dsimp only at*
   have hord:=I.ord
   have hnd:=I.nodup
   simp only [List.map_append,List.map_cons,List.append_assoc,List.cons_append]at hord hnd
   have hn:i'∉pre.map (·.1):=by
    intro hh
    have:=List.nodup_append.1 hnd
    exact this.2.2 i' hh i' List.mem_cons_self U
   have hpre: ∀j∈pre.map (·.1),listed.getD j false=false:=fun j hj=>(I.apart j (by simp only [List.map_append,List.append_assoc];exact List.mem_append_left _ hj)).2
   obtain⟨h1,h2⟩:=PendRun.pull ho hs pre (OneInv.apartPre hp ho hd hun hpre hn hord) I.run
   have hSw:S w:=I.st.resolve_left (by rintro⟨h,_⟩;simp at h)
   refine h1.wpOp hSw ho ?_
   refine ih S _ (pre++post) rem _ ag w (by simp at hlen⊢;omega) ?_
   have hsub: ∀j,j∈(pre++post).map (·.1)++rem→j∈(pre++(i',v)::post).map (·.1)++rem∧j≠i':=by
    intro j hj
    simp only [List.map_append,List.map_cons,List.append_assoc,List.cons_append]at hj⊢
    refine⟨?_,?_⟩
    ·rcases List.mem_append.1 hj with h|h
     ·exact List.mem_append_left _ h
     ·exact List.mem_append_right _ (List.mem_cons_of_mem _ h)
    ·rintro rfl
     have hnd2:=List.nodup_append.1 hnd
     rcases List.mem_append.1 hj with h|h
     ·exact hn h
     ·exact(List.nodup_cons.1 hnd2.2.1).1 h
   refine⟨by simpa using I.size,closed_set I.size hlt I.closed hd,?_,?_,?_,?_,?_,?_,h2,.inr hSw,I.wp⟩
   ·intro j hj
    rcases I.parts j hj with h|h
    ·exact .inl ((dC (by have:=I.size;omega)).2 (.inl h))
    ·by_cases hji:j=i'
     ·exact .inl ((dC (by have:=I.size;omega)).2 (.inr hji))
     ·right
      simp only [List.map_append,List.map_cons,List.append_assoc,List.cons_append]at h⊢
      rcases List.mem_append.1 h with h|h
      ·exact List.mem_append_left _ h
      ·rcases List.mem_cons.1 h with h|h
       ·exact absurd h hji
       ·exact List.mem_append_right _ h
   ·intro j hj
    obtain⟨h1,h2⟩:=hsub j hj
    refine⟨(I.apart j h1).1,?_⟩
    rw [Go.getD_set_ne false (Ne.symm h2)]
    exact(I.apart j h1).2
   ·simp only [List.map_append,List.append_assoc]
    exact(List.nodup_cons.1 ((List.Perm.nodup_iff List.perm_middle).1 hnd)).2
   ·intro j hj
    refine I.fl j ?_
    simp only [List.map_append,List.map_cons]at hj⊢
    rcases List.mem_append.1 hj with h|h
    ·exact List.mem_append_left _ h
    ·exact List.mem_append_right _ (List.mem_cons_of_mem _ h)
   ·have:=OrdOK.pull (pre.map (·.1)) (fun j hj=>I.fl j (by simp only [List.map_append];exact List.mem_append_left _ hj)) hd hord
    simp only [List.map_append,List.append_assoc]
    exact OrdOK.congr (fun j=>(dC (by have:=I.size;omega)).symm) this
   ·have hsn:=I.snk
    simp only [List.map_append,List.map_cons,List.append_assoc,List.cons_append]at hsn
    have:=SinkOK.pull (pre.map (·.1)) (fun j hj=>I.fl j (by simp only [List.map_append];exact List.mem_append_left _ hj)) hsn
    simp only [List.map_append,List.append_assoc]
    exact SinkOK.congr (fun j=>(dC (by have:=I.size;omega)).symm) this
  -- on along the order till i has been met
  have hgo: ∀(rem:List Nat) (pend:List (Nat×Value)) (ag:Act),pend.length+rem.length≤fuel+1→OneInv P md ops S sink pl Q listed pend rem a ag w→
   wpOp P ops Q i (wpAny P md ops Q fuel (listed.setIfInBounds i true)) a w:=by
   intro rem
   induction rem with
   |nil=>
    intro pend ag hlen I
    rcases I.parts i hlt with h|h
    ·rw [hun]at h;cases h
    ·exact hpull pend [] ag hlen I (by simpa using h)
   |cons c rem ihr=>
    intro pend ag hlen I
    have hc:=I.apart c (by simp)
    obtain⟨oc,hoc⟩: ∃oc,ops[c]? =some oc:=⟨_,Array.getElem?_eq_getElem hc.1⟩
    have hat:=OrdOK.at (pend.map (·.1)) I.ord
    have hwp:=I.wp
    simp only [wpOne,hoc]at hwp
    by_cases hfl:floats oc.op=true
    · -- it floats: it joins those that are pending
     have hnext: ∃v,RunsNow P ops S oc ag v∧wpOne P ops S sink Q rem (ag.put oc.dst v) w:=by
      by_cases hw:Region.wanted oc (yielded ops ag.tmps)=true
      ·rw [if_pos hw,if_pos hfl]at hwp
       obtain⟨v,h1,h2⟩:=hwp
       exact⟨v,.inl ⟨hw,h1⟩,h2⟩
      ·rw [if_neg hw]at hwp
       exact⟨undef,.inr ⟨by simpa using hw,rfl⟩,hwp⟩
     obtain⟨v,hrn,hwp'⟩:=hnext
     have hrun:PendRun P ops S a (pend++ [(c,v)]) (ag.put oc.dst v):=by
      exact I.run.snoc hoc hrn
     have e:(pend++ [(c,v)]).map (·.1)++rem=pend.map (·.1)++c::rem:=by simp
     refine ihr (pend++ [(c,v)]) (ag.put oc.dst v) (by simp at hlen⊢;omega) ⟨I.size,I.closed,?_,?_,?_,?_,?_,?_,hrun,.inr (I.st.resolve_left (by rintro⟨_,h⟩;cases h)),hwp'⟩
     ·rw [e];exact I.parts
     ·rw [e];exact I.apart
     ·rw [e];exact I.nodup
     ·intro j hj
      simp only [List.map_append,List.map_cons,List.map_nil]at hj
      rcases List.mem_append.1 hj with h|h
      ·exact I.fl j h
      ·simp at h;subst h;intro o' ho';rw [hoc]at ho';cases ho';exact hfl
     ·rw [e];exact I.ord
     ·rw [e];exact I.snk
    · -- it acts
     by_cases him:i∈pend.map (·.1)
     ·exact hpull pend (c::rem) ag hlen I him
     ·rcases hat.2.1 with hf|⟨honly,_⟩
      ·exact absurd (hf oc hoc) hfl
      have hci:i=c:=honly i hlt (by simp only [not_or];exact⟨by simp [hun],him⟩) (hd.mono fun j hj=>.inl hj)
      subst hci
      rw [ho]at hoc;cases hoc
      have hpre: ∀j∈pend.map (·.1),listed.getD j false=false:=fun j hj=>(I.apart j (List.mem_append_left _ hj)).2
      have hap:=OneInv.apartPre hp ho hd hun hpre him I.ord
      obtain⟨e1,e2,e3⟩:=PendRun.push hs (hs i o ho) I.run hap
      have hnd:=I.nodup
      have hstep: ∀w', ∀S':World→Prop,((∀u,S' u→S u)∨sink i=true)→S' w'→ ∀a' ag',wpOne P ops S' sink Q rem ag' w'→PendRun P ops S a' pend ag'→wpAny P md ops Q fuel (listed.setIfInBounds i true) a' w':=by
       have hSw:S w:=I.st.resolve_left (by rintro⟨_,h⟩;cases h)
       have hpure:sink i=true→ ∀p∈pend,PureAt ops pl p.1:=fun hsa=>by
        have hsk:=(SinkOK.at (pend.map (·.1)) I.snk).1.resolve_left (fun hf=>absurd (hf o ho) hfl) hsa
        have key: ∀(m:Nat) (pre post:List (Nat×Value)),post.length=m→pend=pre++post→ ∀p∈post,PureAt ops pl p.1:=by
         intro m
         induction m with
         |zero=>intro pre post hl _ p hpp;rw [List.eq_nil_of_length_eq_zero hl]at hpp;cases hpp
         |succ m ihm=>
          intro pre post hl he
          obtain⟨⟨j,u⟩,post',rfl⟩: ∃x xs,post=x::xs:=by
           cases post with
           |nil=>cases hl
           |cons x xs=>exact⟨x,xs,rfl⟩
          have hpost:=ihm (pre++ [(j,u)]) post' (by simpa using hl) (by simpa using he)
          intro p hpp
          rcases List.mem_cons.1 hpp with rfl|hpp
          ·have hjm:j∈pend.map (·.1):=by rw [he];simp
           have hju:=hpre j hjm
           have hord:=I.ord
           rw [he]at hord hnd
           simp only [List.map_append,List.map_cons,List.append_assoc,List.cons_append]at hord hnd
           have hjn:j∉pre.map (·.1):=fun hh=>(List.nodup_append.1 hnd).2.2 j hh j List.mem_cons_self rfl
           have hself: ¬WaitsOn md ops j j:=by
            intro hh
            obtain⟨o',ho',e,he,hb,heq⟩:=hh
            have h0:=(OrdOK.at (pre.map (·.1)) hord).1 o' ho' e he hb
            rw [heq]at h0
            rcases h0 with h0|h0
            ·rw [hju]at h0;cases h0
            ·exact hjn h0
           rcases hsk j (.inr hjm)with hnf|hpu|⟨k,hk,hkn,hwt⟩
           ·exact absurd (I.fl j hjm) hnf
           ·exact hpu
           ·exfalso
            have hwt2:=hwt
            obtain⟨o',ho',e,he',hb,heq⟩:=hwt
            rcases hk with (hk|hk)|hk
            ·have:=I.closed k hk o' ho' e he' hb
             rw [heq,hju]at this;cases this
            ·rw [he]at hk
             simp only [List.map_append,List.map_cons,List.mem_append,List.mem_cons]at hk
             rcases hk with hk|hk|hk
             ·exact hord.noWait _ (by simp [hju]) hjn k hk hwt2
             ·subst hk;exact hself hwt2
             ·obtain⟨q,hq,rfl⟩:=List.mem_map.1 hk
              exact hkn (hpost q hq)
            ·subst hk
             have:=hd o' ho' e he' hb
             rw [heq,hju]at this;cases this
          ·exact hpost p hpp
        exact key pend.length [] pend U U
       intro w' S' hSS hSw' a' ag' hw' hrun'
       have hrun2:PendRun P ops S' a' pend ag':=by
        rcases hSS with h|h
        ·exact hrun'.mono h
        ·exact hrun'.swap ⟨w,hSw⟩ (hpure h)
       have hSt:(pend= []∧rem= [])∨S' w':=.inr hSw'
       refine ih S' _ pend rem a' ag' w' (by simp at hlen⊢;omega) ?_
       have hsub: ∀j,j∈pend.map (·.1)++rem→j∈pend.map (·.1)++i::rem∧j≠i:=by
        intro j hj
        refine⟨?_,?_⟩
        ·rcases List.mem_append.1 hj with h|h
         ·exact List.mem_append_left _ h
         ·exact List.mem_append_right _ (List.mem_cons_of_mem _ h)
        ·rintro rfl
         rcases List.mem_append.1 hj with h|h
         ·exact him h
         ·exact(List.nodup_cons.1 (List.nodup_append.1 hnd).2.1).1 h
       refine⟨by simpa using I.size,closed_set I.size hlt I.closed hd,?_,?_,?_,I.fl,?_,?_,hrun2,hSt,hw'⟩
       ·intro j hj
        rcases I.parts j hj with h|h
        ·exact .inl ((dC (by have:=I.size;omega)).2 (.inl h))
        ·by_cases hji:j=i
         ·exact .inl ((dC (by have:=I.size;omega)).2 (.inr hji))
         ·right
          rcases List.mem_append.1 h with h|h
          ·exact List.mem_append_left _ h
          ·rcases List.mem_cons.1 h with h|h
           ·exact absurd h hji
           ·exact List.mem_append_right _ h
       ·intro j hj
        obtain⟨h1,h2⟩:=hsub j hj
        refine⟨(I.apart j h1).1,?_⟩
        rw [Go.getD_set_ne false (Ne.symm h2)]
        exact(I.apart j h1).2
       ·exact(List.nodup_cons.1 ((List.Perm.nodup_iff List.perm_middle).1 hnd)).2
       ·exact OrdOK.congr (fun j=>(dC (by have:=I.size;omega)).symm) (OrdOK.pull (pend.map (·.1)) I.fl hd I.ord)
       ·exact SinkOK.congr (fun j=>(dC (by have:=I.size;omega)).symm) (SinkOK.pull (pend.map (·.1)) I.fl I.snk)
      unfold Go.wpOp
      simp only [ho]
      by_cases hw:Region.wanted o (yielded ops ag.tmps)=true
      ·rw [if_pos hw,if_neg hfl]at hwp
       rw [←e2,if_pos hw]
       left
       unfold Oper.wp at hwp⊢
       rw [e1]at hwp
       refine Pn.upon_carry hQ (dfeq I.run) (fun v w' hk=>?_) (fun d w' hk=>?_) hwp
       ·obtain⟨S',h1,h2,h3⟩:=hk;exact hstep w' S' h1 h2 _ _ h3 (e3 v)
       ·obtain⟨S',h1,h2,h3⟩:=hk;exact hstep w' S' h1 h2 _ _ h3 ((PendRun.push hs (hs i o ho) (I.run.defers d) hap).2.2 undef)
      ·rw [if_neg hw]at hwp
       rw [←e2,if_neg hw]
       exact hstep w S (.inl fun _ h=>h) (I.st.resolve_left (by rintro⟨_,h⟩;cases h)) _ _ hwp (e3 undef)
  exact hgo rem pend ag hlen I
theorem wp_one {id:Nat} {a:Act} {w:World} {l:List Oper} (snk pl ord:List Nat) (hm:P.follows .mixedOrders=true) (hB:oneSB .any l.toArray snk pl ord=true) (hS:S w.drew) (hQ:Pn.PanOK Q)
 (h:wpOne P l.toArray S (fun i=>snk.contains i) Q ord a w.drew):(Code.region id l.toArray true).wp P Q a w:=by
 simp only [oneSB,oneB,Bool.and_eq_true,decide_eq_true_eq]at hB
 obtain⟨⟨⟨⟨⟨⟨⟨hsel,hpair⟩,hord⟩,hall⟩,hnd⟩,hlt⟩,hlen⟩,hsb⟩:=hB
 refine wp_region_any hm (wpAny_of_one (pl:=fun i=>pl.contains i) (fun j oj hj cs b=>Region.noSelect_spec hsel j oj cs b hj) (pairsB_spec hpair) hQ _ S _ [] ord a a _ ?_ ⟨by simp,?_,?_,?_,by simpa using hnd,by simp,?_,?_,.nil _,.inr hS,h⟩)
 ·simpa using hlen
 ·intro j hj
  exfalso
  rw [Array.getD_eq_getD_getElem?,Array.getElem?_replicate]at hj
  split at hj<;>cases hj
 ·intro j hj
  right
  have:=List.all_eq_true.1 hall j (List.mem_range.2 hj)
  simpa using this
 ·intro j hj
  refine⟨by simpa using List.all_eq_true.1 hlt j (by simpa using hj),?_⟩
  rw [Array.getD_eq_getD_getElem?,Array.getElem?_replicate]
  split<;>rfl
 ·have:=ordB_spec _ _ (by simp) hord
  simpa using this
 ·exact sinkB_spec _ _ (by simp) (fun j hj=>by simpa using List.all_eq_true.1 hlt j hj) hsb
section
variable {a : Act} {w : World} {i : Nat} {rest : List Nat} {o : Oper} {sink : Nat → Bool}
theorem wpOne_nil (h:Q .normal a w):wpOne P ops S sink Q [] a w:=h
theorem wpOne_float {v:Value} (ho:ops[i]? =some o) (hf:floats o.op=true) (hw:Region.wanted o (yielded ops a.tmps)=true) (hr: ∀w',S w'→(execOp a.eval o).run P w'=.ok (.value v) w')
 (h:wpOne P ops S sink Q rest (a.put o.dst v) w):wpOne P ops S sink Q (i::rest) a w:=by
 simp only [wpOne,ho,if_pos hw,if_pos hf]
 exact⟨v,hr,h⟩
theorem wpOne_skip (ho:ops[i]? =some o) (hw:Region.wanted o (yielded ops a.tmps)=false) (h:wpOne P ops S sink Q rest (a.put o.dst undef) w):wpOne P ops S sink Q (i::rest) a w:=by
 simp only [wpOne,ho,hw]
 exact h
theorem wpOne_act (ho:ops[i]? =some o) (hf:floats o.op=false) (hw:Region.wanted o (yielded ops a.tmps)=true)
 (h:o.wp P a w (fun a' w'=>S w'∧wpOne P ops S sink Q rest a' w') (Pn.panQ Q)):wpOne P ops S sink Q (i::rest) a w:=by
 simp only [wpOne,ho,if_pos hw,hf]
 exact Oper.wp_mono (fun _ _ h=>⟨S,.inl fun _ h=>h,h.1,h.2⟩) h
theorem wpOne_last (ho:ops[i]? =some o) (hf:floats o.op=false) (hs:sink i=true) (hw:Region.wanted o (yielded ops a.tmps)=true)
 (h:o.wp P a w (wpOne P ops S sink Q []) (Pn.panQ Q)):wpOne P ops S sink Q [i] a w:=by
 simp only [wpOne,ho,if_pos hw,hf]
 exact Oper.wp_mono (fun _ _ h=>⟨fun _=>True,.inr hs,trivial,h⟩) h
theorem wpOne_more (ho:ops[i]? =some o) (hf:floats o.op=false) (hw:Region.wanted o (yielded ops a.tmps)=true)
 (h:o.wp P a w (fun a' w'=> ∃S':World→Prop,(∀u,S' u→S u)∧S' w'∧wpOne P ops S' sink Q rest a' w') (Pn.panQ Q)):wpOne P ops S sink Q (i::rest) a w:=by
 simp only [wpOne,ho,if_pos hw,hf]
 exact Oper.wp_mono (fun _ _ ⟨S',h1,h2,h3⟩=>⟨S',.inl h1,h2,h3⟩) h
theorem wpOne_sink (ho:ops[i]? =some o) (hf:floats o.op=false) (hs:sink i=true) (hw:Region.wanted o (yielded ops a.tmps)=true)
 (h:o.wp P a w (fun a' w'=> ∃S':World→Prop,S' w'∧wpOne P ops S' sink Q rest a' w') (Pn.panQ Q)):wpOne P ops S sink Q (i::rest) a w:=by
 simp only [wpOne,ho,if_pos hw,hf]
 exact Oper.wp_mono (fun _ _ ⟨S',h1,h2⟩=>⟨S',.inr hs,h1,h2⟩) h
end
end
end Go.Proofs.YtjfagifjajielaaGreat.St.Sp
namespace Go.Proofs.YtjfagifjajielaaGreat
open Go Go.RowKit
section
variable {P : Program} {n : Nat} {l : List (Nat × Value)} {E : World} {L : List Heaplet} {Q : Exit → Act → World → Prop} {ops : Array Oper} {o : Oper} {sink : Nat → Bool} {i : Nat} {is : List Nat} {Lst : List Heaplet}
theorem PanOK.then {K:Act→World→Prop} (h:Pn.PanOK Q):Pn.PanOK (Exit.then K Q):=fun ch a a' w e hx=>h ch a a' w e hx
theorem PanOK.inB {id:Nat} (h:Pn.PanOK Q):Pn.PanOK (Exit.inBlock id Q):=fun ch a a' w e hx=>h ch a a' w e hx
theorem PanOK.body {fn:Func} {R:Heaplet} {Post Pan:Value→List Heaplet→Prop} :Pn.PanOK (bodyPostX P fn E R Post Pan):=fun ch a a' w e hx hE=>⟨e▸(hx hE).1,(hx hE).2⟩
theorem wp_false {Q':Exit→Act→World→Prop} {a:Act} {w:World} {K:Act→World→Prop} (h:o.wp P a w K (fun _ _ _=>False)):o.wp P a w K Q':=by
 unfold Oper.wp at h⊢
 exact upon_carry (fun _ _ h=>h) (fun _ _ h=>h) h
theorem At.drawnR {id:Nat} {ops:List Oper} (Lst:List Heaplet) (snk pl ord:List Nat) (hm:P.follows .mixedOrders=true) (hB:St.oneSB .any ops.toArray snk pl ord=true) (hs:Lst.Sublist L) (hQ:Pn.PanOK Q)
 (h:At n l E L (St.Sp.wpOne P ops.toArray (Hp E Lst) (fun i=>snk.contains i) Q ord)):At n l E L ((Code.region id ops.toArray true).wp P Q):=fun a w hf hw=>St.Sp.wp_one snk pl ord hm hB (hw.drew.drop hs) hQ (h a w.drew hf hw.drew)
theorem At.rNil {S:World→Prop} (h:At n l E L (Q .normal)):At n l E L (St.Sp.wpOne P ops S sink Q []):=h
theorem nxrf (ho:ops[i]? =some o) (hf:floats o.op=true) (hg:o.guard=none):NxF P n l E L Lst o (St.Sp.wpOne P ops (Hp E Lst) sink Q (i::is)) (St.Sp.wpOne P ops (Hp E Lst) sink Q is):=fun a w v hfr hw hr hy=>
 St.Sp.wpOne_float ho hf (by simp [Region.wanted,hg]) hr hy
theorem nxrl (ho:ops[i]? =some o) (hf:floats o.op=false) (hs:sink i=true) (hg:o.guard=none):Nx P n l E L o (St.Sp.wpOne P ops (Hp E Lst) sink Q [i]) (St.Sp.wpOne P ops (Hp E Lst) sink Q []):=fun a w hfr hw hx=>
 St.Sp.wpOne_last ho hf hs (by simp [Region.wanted,hg]) (wp_false hx)
theorem nxrs (ho:ops[i]? =some o) (hf:floats o.op=false) (hs:sink i=true) (hg:o.guard=none):Nx P n l E L o (St.Sp.wpOne P ops (Hp E Lst) sink Q (i::is)) (fun a w=> ∃S':World→Prop,S' w∧St.Sp.wpOne P ops S' sink Q is a w):=fun a w hfr hw hx=>
 St.Sp.wpOne_sink ho hf hs (by simp [Region.wanted,hg]) (wp_false hx)
theorem nxrm (ho:ops[i]? =some o) (hf:floats o.op=false) (hg:o.guard=none):Nx P n l E L o (St.Sp.wpOne P ops (Hp E Lst) sink Q (i::is)) (fun a w=> ∃S':World→Prop,(∀u,S' u→Hp E Lst u)∧S' w∧St.Sp.wpOne P ops S' sink Q is a w):=fun a w hfr hw hx=>
 St.Sp.wpOne_more ho hf (by simp [Region.wanted,hg]) (wp_false hx)
theorem At.moreR {Lst Lst':List Heaplet} (h1:Lst.Sublist Lst') (hs:Lst'.Sublist L) (h:At n l E L (St.Sp.wpOne P ops (Hp E Lst') sink Q is)):At n l E L (fun a w=> ∃S':World→Prop,(∀u,S' u→Hp E Lst u)∧S' w∧St.Sp.wpOne P ops S' sink Q is a w):=fun a w hf hw=>⟨Hp E Lst',fun _ hu=>hu.drop h1,hw.drop hs,h a w hf hw⟩
theorem At.anyR {Lst:List Heaplet} (hs:Lst.Sublist L) (h:At n l E L (St.Sp.wpOne P ops (Hp E Lst) sink Q is)):At n l E L (fun a w=> ∃S':World→Prop,S' w∧St.Sp.wpOne P ops S' sink Q is a w):=fun a w hf hw=>⟨Hp E Lst,hw.drop hs,h a w hf hw⟩
variable {d : Nat} {ty : TypeId} {pos : String} {aft : Array Edge} {Post Pan : Value → List Heaplet → Prop}
theorem op_callR {f:FuncId} {fn:Func} {xs:List Operand} {args:List Value} {ats:Array TypeId} {L0 Lr F Lst':List Heaplet}
 (ho:ops[i]? =some ⟨some d,.call ⟨.value (.func f),xs.toArray,ats⟩,ty,pos,aft,none⟩) (ha:Evs l xs args) (hc:FnE P f args.toArray L0 Lr Post Pan) (hfn:P.funcs[f]? =some fn) (hb:fn.body.isSome=true) (hne:(fn.name== "runtime.NumGoroutine")=false) (hL:L.Perm (L0++F)) (hr: ∀N∈Lr,N∈F) (hn:Nat.ble (d+1) n=true)
 (hsl:Lst.Sublist Lst') (hsf:Lst'.Sublist F)
 (hp: ∀v L1,Pan v L1→At n l E (L1++F) (Q (.panic (pnk v))))
 (h: ∀v L1,Post v L1→At n ((d,v)::l) E (L1++F) (St.Sp.wpOne P ops (Hp E Lst') sink Q is)):At n l E L (St.Sp.wpOne P ops (Hp E Lst) sink Q (i::is)):=fun a w hf hw=>by
 refine St.Sp.wpOne_more ho U U ?_
 unfold Oper.wp
 have hw2:=hw.perm hL
 have hrun:(execOp a.eval ⟨some d,.call ⟨.value (.func f),xs.toArray,ats⟩,ty,pos,aft,none⟩).run P w=.ok (.enter f args.toArray) w:=by
  have hne':fn.name≠ "runtime.NumGoroutine" :=by simpa using hne
  have he:a.eval (.func f)=.func (.func f) #[] #[]:=rfl
  simp only [execOp,resolve,invoke,Sem.run_bind,Sem.run_pure,Result.andThen_ok,List.map_toArray,ha.map hf,he,Deferred.ofValue,Array.empty_append,Array.append_empty,run_call hfn hb hne']
 rw [hrun]
 obtain⟨R,hwR,hFR,hF⟩:=hw2.apartRest
 refine Calls.mono (hc E w R hwR fun N hN=>hFR N (hr N hN)) ?_
 rintro e w' (⟨v,L1,rfl,hP,hw'⟩|⟨v,L1,rfl,hP,hw'⟩)
 ·have hw3:=hw'.refine hFR hF
  exact⟨Hp E Lst',fun _ hu=>hu.drop hsl,hw3.drop (hsf.trans (List.sublist_append_right _ _)),h v L1 hP _ _ (hf.put (Nat.le_of_ble_eq_true hn)) hw3⟩
 ·exact⟨⟨_,rfl⟩,hp v L1 hP _ _ hf (hw'.refine hFR hF)⟩
end
theorem FnE.packR {P:Program} {f:FuncId} {args:Array Value} {Lr:List Heaplet} {Post Post' Pan:Value→List Heaplet→Prop} {N1:Heaplet} {As:List Heaplet} (hA:As.Pairwise Apart) (h:FnE P f args (N1::As) Lr Post Pan)
 (hp: ∀v L,Post v L→ ∃M Bs,L=M::Bs∧(Bs.Pairwise Apart→Post' v [M,joinL Bs])):FnE P f args [N1,joinL As] Lr Post' Pan:=by
 intro E w R hw hr
 have hw1:Hp E (joinL As::([N1]++ [R])) w:=hw.perm (List.Perm.swap _ _ _)
 have hw2:Hp E ((N1::As)++ [R]) w:=by
  have:=hw1.unpackL hA
  refine this.perm ?_
  show(As++([N1]++ [R])).Perm ((N1::As)++ [R])
  rw [←List.append_assoc]
  exact List.Perm.append_right _ List.perm_append_comm
 refine(h E w R hw2 hr).mono ?_
 rintro e w' (⟨v,L,rfl,hP,hh⟩|hx)
 ·obtain⟨M,Bs,rfl,hq⟩:=hp v L hP
  have hh2:Hp E (Bs++([M]++ [R])) w':=hh.perm (by
   show((M::Bs)++ [R]).Perm (Bs++([M]++ [R]))
   rw [←List.append_assoc]
   exact List.Perm.append_right _ (List.perm_append_comm (l₁:= [M])))
  have hs:=(List.pairwise_append.1 hh2.sep).1
  exact .inl ⟨v,_,rfl,hq hs,hh2.packL.perm (List.Perm.swap _ _ _)⟩
 ·exact .inr hx
section
variable {n : Nat} {l : List (Nat × Value)} {E : World} {L : List Heaplet} {K : Act → World → Prop} {As : List Heaplet}
theorem At.pack (h:As.Pairwise Apart→At n l E (joinL As::L) K):At n l E (As++L) K:=fun a w hf hw=>h (List.pairwise_append.1 hw.sep).1 a w hf hw.packL
theorem At.unpack (hA:As.Pairwise Apart) (h:At n l E (As++L) K):At n l E (joinL As::L) K:=fun a w hf hw=>h a w hf (hw.unpackL hA)
end
set_option maxRecDepth 100000
section
variable {Np NI Nl Na : Heaplet} {bp bl m c : Nat} {a : Option Addr} {t : It} {ts : List It} {hs : List (List UInt8)} {z : IV} {zs : List IV}
theorem FHashes1_0 (h:PartsN Np NI bp (z::zs) (t::ts)) (B:Blk Nl bl 30 [.slice a m c]) (r:Row Na 40 32 a m c (hashC hs)) (hm:m<1099511627776) (h32: ∀x∈hs,x.length=32):
 FnE Tryz.prog 143 #[.pointer (some ⟨bp,0,none⟩),.pointer (some ⟨bl,0,none⟩)] [Np,Nl,Na] [NI] (fun _ L=> ∃Np Nl Na b a c,L= [Np,Nl,Na]∧fixE 32 t=.ok b∧b.length=32∧PartsN Np NI bp zs ts∧Blk Nl bl 30 [.slice a (m+1) c]∧Row Na 40 32 a (m+1) c (hashC (hs++ [b]))) (fun v L=> ∃e:Nat,v=gaveV e∧L= []∧fixE 32 t=.error e):=by
 have h1:=FHash_p h
 refine FnE.enter (vs:= [.pointer (some ⟨bp,0,none⟩),.pointer (some ⟨bl,0,none⟩)]) Tryz.func143 U U U ?_
 intro E R hR
 have hNR:=hR NI (by simp)
 have h1:=h1.liftB hNR
 have Bl:=B
 change At _ _ E [Np,Nl,Na,R] _
 refine aN (aM (aN (aN (At.drawnR [Nl,R] [4,5] [] [0,1,2,3,4,5] (by kernel_rfl) (by kernel_rfl) (.cons _ (.cons _ (.refl _))) (by repeat first|exact PanOK.body|apply PanOK.then|apply PanOK.inB) ?_))))
 refine aK (nxrf U U U) sc30 U Bl U bI U ?_
 refine aP (nxrf U U U) U U (op_callR U (.cons U .nil) (h1) (F:= [Na,Nl,R]) (Lst':= [Nl,R]) Tryz.func106 U U (.refl _) (by simp) U (.refl _) (.cons _ (.refl _)) ?_ ?_)
 ·rintro _ _ ⟨e,rfl,rfl,he⟩
  show At _ _ _ [Na,Nl,R] _
  refine bH (cK (cP (L1:= []) (.refl _) aJ ?_))
  exact⟨e,rfl,rfl,he⟩
 rintro _ _ ⟨Mp,b,rfl,rfl,he,hb,hp⟩
 show At _ _ _ [Mp,Na,Nl,R] _
 refine op_lit (Nx.agree (nxrm rfl rfl rfl)) Tryz.underlying30 ze40 sz40 (.cons rfl .nil) rfl rfl (by(intro p hp;rw [List.mem_singleton.1 hp];show(u8s b).length=32;rw [bL,hb])) rfl rfl rfl (fun N6 a6 r6=>?_)
 simp only [flatV,List.flatMap_cons,List.flatMap_nil,Value.cells,List.append_nil,List.cons_append,List.nil_append]at r6
 have s6:=r6.rsl
 refine aL (aL (aM (aL (aL (At.moreR (Lst:= [Nl,R]) (Lst':= [N6,Nl,R]) (.cons _ (.refl _)) (.cons _ (.cons _ (.refl _))) ?_)))))
 change RSl N6 32 a6 1 1 (u8s b)at s6
 rw [show u8s b=hashC [b] by simp [hashC]]at s6
 refine op_append (nxrs U U U U) Tryz.underlying30 Tryz.underlying30 te40 U U r (by assumption) (by simp) (hashC_one _) (by omega) (by omega) sel1 U (fun N7 a7 p7 r7=>?_)
 have s7:=r7.rsl
 refine At.anyR (.refl _) ?_
 rw [hashC,hashC, ←List.flatMap_append]at r7
 change Row N7 _ 32 a7 (m+1) p7 (hashC (hs++ [b]))at r7
 refine aF (nxrl U U U U) sz30 U U U U U Bl (by simp) sel3 (fun Nl Bl=>?_)
 simp only [setL,List.set]at Bl
 refine At.rNil (At.norX (bW (aN (aM (aM (aN (At.retNE (L1:= [Mp,Nl,N7]) U .nil U (.refl _) aJ ?_)))))))
 exact⟨Mp,Nl,N7,b,a7,p7,rfl,he,hb,hp,Bl,r7⟩
def HashV (b:Nat) (hs:List (List UInt8)) (N:Heaplet):Prop:= ∃Nl Na a c,[Nl,Na].Pairwise Apart∧N=joinL [Nl,Na]∧Blk Nl b 30 [.slice a hs.length c]∧Row Na 40 32 a hs.length c (hashC hs)∧ ∀x∈hs,x.length=32
theorem FHashes1_p {NO:Heaplet} (h:PartsN Np NI bp (z::zs) (t::ts)) (hV:HashV bl hs NO) (hm:hs.length<1099511627776):
 FnE Tryz.prog 143 ([Value.pointer (some ⟨bp,0,none⟩)]++ [Value.pointer (some ⟨bl,0,none⟩)]).toArray [Np,NO] [NI] (fun _ L=> ∃Np NO b,L= [Np,NO]∧fixE 32 t=.ok b∧PartsN Np NI bp zs ts∧HashV bl (hs++ [b]) NO) (fun v L=> ∃e:Nat,v=gaveV e∧L= []∧fixE 32 t=.error e):=by
 obtain⟨Nl,Na,a,c,hA,rfl,B,r,h32⟩:=hV
 refine FnE.packR hA (FHashes1_0 h B r hm h32) fun v L hp=>?_
 obtain⟨Mp,Ml,Ma,b,a',c',rfl,he,hb,hq,B',r'⟩:=hp
 refine⟨Mp,[Ml,Ma],rfl,fun hA'=>⟨Mp,_,b,rfl,he,hq,Ml,Ma,a',c',hA',rfl,?_,?_,fun x hx=>?_⟩⟩
 ·rw [List.length_append];exact B'
 ·rw [List.length_append];exact r'
 ·rcases List.mem_append.1 hx with hx|hx
  ·exact h32 x hx
  ·rw [List.mem_singleton.1 hx];exact hb
def hashesE:It→Except Nat (List (List UInt8)):=eachE (fixE 32)
theorem FHashes_p (h:PartsN Np NI bp (z::zs) (t::ts)) (hk: ∀its,listE t=.ok its→its.length≤1099511627776):FnE Tryz.prog 92 #[.pointer (some ⟨bp,0,none⟩)] [Np] [NI] (fun v L=> ∃Np Na a c hs,v=.slice a hs.length c∧L= [Np,Na]∧hashesE t=.ok hs∧PartsN Np NI bp zs ts∧Row Na 40 32 a hs.length c (hashC hs)∧ ∀x∈hs,x.length=32) (fun v L=> ∃e:Nat,v=gaveV e∧L= []∧hashesE t=.error e):=by
 refine FnE.enter (vs:= [.pointer (some ⟨bp,0,none⟩)]) Tryz.func92 U U U ?_
 intro E R hR
 have hNR:=hR NI (by simp)
 change At _ _ E [Np,R] _
 refine aC fun _ s_1=>aA (aR U U (aB (s_1 (aC fun _ s_2=>aA (bK bU ze30 U (fun N3 b3 B3=>?_))))))
 change Blk N3 b3 _ [.slice none 0 0]at B3
 refine aB (s_2 (aC fun _ s_3=>aA (aH U U (op_mkF aE .nil (.cons U .nil) U (cV (aN (aN (aM (aN (At.pack (As:= [N3,nilH]) (fun hANO=>?_)))))))))))
 obtain⟨NO,eNO⟩: ∃N,N=joinL [N3,nilH]:=⟨_,rfl⟩
 rw [←eNO]
 have hE:=FEach_p (g:=fixE 32) (Inv:=fun _=>HashV b3) (f:=143) (caps:= [Value.pointer (some ⟨b3,0,none⟩)]) h (NO:=NO) ⟨N3,nilH,none,0,hANO,eNO,B3,Row.nil _ _ _,fun x hx=>by cases hx⟩ hk (El:=fun _=>True) (fun _ _ _ _=>trivial) Tryz.func143 rfl rfl fun Nq NO bq z zs ys t ts l h1 h2 _ h3 _=>FHashes1_p h1 h2 h3
 refine aM (bO (aM (bM (.cons U (.cons U .nil)) (hE.liftB hNR) (F:= [R]) Tryz.func53 U U (.refl _) (by simp) U ?_ ?_)))
 ·rintro _ _ ⟨e,rfl,rfl,he⟩
  show At _ _ _ [R] _
  refine aY ((cP (L1:= []) (.refl _) aJ ?_))
  exact⟨e,rfl,rfl,he⟩
 rintro _ _ ⟨Mp,NV,l,ys,rfl,rfl,he,hp,⟨N3,Na,a,c,hA,eNV,B3,r,h32⟩,_⟩
 show At _ _ _ [Mp,NV,R] _
 refine aB (s_3 (aC fun _ s_4=>aA (aM (bO (aM ?_)))))
 try rw [eNV]
 refine At.unpack hA ?_
 show At _ _ _ [N3,Na,Mp,R] _
 refine aK aE sc30 U B3 U bI U ?_
 refine aR U U (aB (s_4 (a0 ((At.retX (cK (aM (bO (aM (cI (L1:= [Mp,Na]) U (.tmp U .nil) (.refl _) aJ ?_))))))))))
 exact⟨Mp,Na,a,c,l,rfl,rfl,he,hp,r,h32⟩
end
end Go.Proofs.YtjfagifjajielaaGreat
