/- Several texts in one: see the remarks ahead of each part. No condition but those told there. -/
import Derived.Test.YtjfagifjajielaaGreatX1
import Derived.Test.YtjfagifjajielaaGreatX15
import Derived.Test.YtjfagifjajielaaGreatX8
import Derived.Test.YtjfagifjajielaaGreatX14
set_option linter.unusedSimpArgs false
set_option linter.unusedVariables false
namespace Go.Proofs.YtjfagifjajielaaGreat
open Go Go.RowKit
structure Bag (e:TypeId) (N:Heaplet) (vs:List Value) (xs:List (List UInt8)):Prop where
 len:vs.length=xs.length
 row: ∀(i:Nat) (x:List UInt8),xs[i]? =some x→ ∃p c,vs[i]? =some (Value.slice p x.length c)∧Row N e 1 p x.length c (u8s x)
 apart: ∀(i j:Nat) (p q:Option Addr) (n m c d:Nat),i≠j→vs[i]? =some (Value.slice p n c)→vs[j]? =some (Value.slice q m d)→p=none∨p≠q
structure Bags (N:Heaplet) (vs:List Value) (xs:List (List UInt8)):Prop where
 len:vs.length=xs.length
 rsl: ∀(i:Nat) (x:List UInt8),xs[i]? =some x→ ∃p c,vs[i]? =some (Value.slice p x.length c)∧RSl N 1 p x.length c (u8s x)
theorem Bag.nil (e:TypeId) (N:Heaplet):Bag e N [] []:=⟨rfl,fun i x h=>by simp at h,fun i j p q n m c d _ h=>by simp at h⟩
theorem Bags.nil (N:Heaplet):Bags N [] []:=⟨rfl,fun i x h=>by simp at h⟩
theorem Bags.le {N M:Heaplet} {vs:List Value} {xs:List (List UInt8)} (h:Bags N vs xs) (hl:N.le M):Bags M vs xs:=⟨h.len,fun i x hx=>let ⟨p,c,h1,h2⟩:=h.rsl i x hx;⟨p,c,h1,h2.le hl⟩⟩
theorem Bag.le {e:TypeId} {N M:Heaplet} {vs:List Value} {xs:List (List UInt8)} (h:Bag e N vs xs) (hl:N.le M):Bag e M vs xs:=⟨h.len,fun i x hx=>let ⟨p,c,h1,h2⟩:=h.row i x hx;⟨p,c,h1,h2.le hl⟩,h.apart⟩
theorem snoc_get {α:Type} {xs:List α} {y z:α} {i:Nat} (h:(xs++ [y])[i]? =some z):(i<xs.length∧xs[i]? =some z)∨(i=xs.length∧z=y):=by
 rcases Nat.lt_or_ge i xs.length with hi|hi
 ·rw [List.getElem?_append_left hi]at h;exact .inl ⟨hi,h⟩
 ·rw [List.getElem?_append_right hi]at h
  rcases Nat.eq_zero_or_pos (i- xs.length)with h0|h0
  ·rw [h0]at h;simp at h;exact .inr ⟨by omega,h.symm⟩
  ·rw [List.getElem?_eq_none (by simp;omega)]at h;cases h
theorem get_snoc_l {α:Type} {xs:List α} {y z:α} {i:Nat} (h:xs[i]? =some z):(xs++ [y])[i]? =some z:=by
 rw [List.getElem?_append_left (List.getElem?_eq_some_iff.1 h).1];exact h
theorem get_snoc_r {α:Type} {xs:List α} {y:α} {i:Nat} (h:i=xs.length):(xs++ [y])[i]? =some y:=by subst h;simp
theorem Bags.snoc {N M:Heaplet} {vs:List Value} {xs:List (List UInt8)} {x:List UInt8} {p:Option Addr} {c:Nat} (h:Bags N vs xs) (hr:RSl M 1 p x.length c (u8s x)) (ha:Apart M N):Bags (join2 M N) (vs++ [Value.slice p x.length c]) (xs++ [x]):=by
 refine⟨by simp [h.len],fun i y hy=>?_⟩
 rcases snoc_get hy with ⟨hi,hy⟩|⟨hi,rfl⟩
 ·obtain⟨q,d,h1,h2⟩:=h.rsl i y hy
  exact⟨q,d,get_snoc_l h1,h2.le (join2_right ha)⟩
 ·exact⟨p,c,get_snoc_r (by rw [hi,h.len]),hr.le join2_left⟩
theorem Bag.snoc {e:TypeId} {N M:Heaplet} {vs:List Value} {xs:List (List UInt8)} {x:List UInt8} {p:Option Addr} {c:Nat} (h:Bag e N vs xs) (hr:Row M e 1 p x.length c (u8s x)) (ha:Apart M N):Bag e (join2 M N) (vs++ [Value.slice p x.length c]) (xs++ [x]):=by
 have old: ∀i q m d,i<vs.length→vs[i]? =some (Value.slice q m d)→p=none∨q=none∨p≠q:=fun i q m d hi hv=>by
  obtain⟨y,hy⟩: ∃y,xs[i]? =some y:=⟨_,List.getElem?_eq_getElem (by rw [←h.len];exact hi)⟩
  obtain⟨q',d',h1,h2⟩:=h.row i y hy
  rw [hv]at h1
  simp only [Option.some.injEq,Value.slice.injEq]at h1
  obtain⟨rfl,rfl,rfl⟩:=h1
  rcases hr.block with ⟨hp,_⟩|⟨b,o,hp,hb⟩
  ·exact .inl hp
  ·rcases h2.block with ⟨hq,_⟩|⟨b',o',hq,hb'⟩
   ·exact .inr (.inl hq)
   ·refine .inr (.inr fun e=>?_)
    rw [hp,hq]at e
    cases e
    rcases ha b with h|h
    ·rw [hb]at h;cases h
    ·rw [hb']at h;cases h
 refine⟨by simp [h.len],fun i y hy=>?_,fun i j q r n m c' d hij hi hj=>?_⟩
 ·rcases snoc_get hy with ⟨hi,hy⟩|⟨hi,rfl⟩
  ·obtain⟨q,d,h1,h2⟩:=h.row i y hy
   exact⟨q,d,get_snoc_l h1,h2.le (join2_right ha)⟩
  ·exact⟨p,c,get_snoc_r (by rw [hi,h.len]),hr.le join2_left⟩
 ·rcases snoc_get hi with ⟨li,hi'⟩|⟨li,hi'⟩<;>rcases snoc_get hj with ⟨lj,hj'⟩|⟨lj,hj'⟩
  ·exact h.apart i j q r n m c' d hij hi' hj'
  ·simp only [Value.slice.injEq]at hj'
   obtain⟨rfl,_⟩:=hj'
   rcases old i q n c' li hi' with h|h|h
   ·by_cases hq:q=none
    ·exact .inl hq
    ·exact .inr fun e=>hq (e.trans h)
   ·exact .inl h
   ·exact .inr fun e=>h e.symm
  ·simp only [Value.slice.injEq]at hi'
   obtain⟨rfl,_⟩:=hi'
   rcases old j r m d lj hj' with h|h|h
   ·exact .inl h
   ·by_cases hq:q=none
    ·exact .inl hq
    ·exact .inr fun e=>hq (e.trans h)
   ·exact .inr h
  ·omega
theorem Bag.set {e:TypeId} {N N':Heaplet} {vs:List Value} {xs:List (List UInt8)} {i n c:Nat} {x:List UInt8} {p:Option Addr} (h:Bag e N vs xs) (hv:vs[i]? =some (Value.slice p n c)) (hr:Row N' e 1 p n c (u8s x)) (ho:Off p N N'):Bag e N' vs (xs.set i x):=by
 refine⟨by simp [h.len],fun j y hy=>?_,h.apart⟩
 by_cases hij:i=j
 ·subst hij
  have hlt:i<xs.length:=by
   have:=(List.getElem?_eq_some_iff.1 hy).1
   simpa using this
  rw [List.getElem?_set_self hlt]at hy
  cases hy
  have hlen:x.length=n:=by have:=hr.1;simpa using this
  subst hlen
  exact⟨p,c,hv,hr⟩
 ·rw [List.getElem?_set_ne hij]at hy
  obtain⟨q,d,h1,h2⟩:=h.row j y hy
  exact⟨q,d,h1,h2.off ho (h.apart j i q p _ _ _ _ (fun e=>hij e.symm) h1 hv)⟩
def joinL:List Heaplet→Heaplet
 | []=>nilH
 |N::t=>join2 N (joinL t)
theorem apart_joinL {A:Heaplet} : ∀ {Ns:List Heaplet},(∀N∈Ns,Apart A N)→Apart A (joinL Ns):=by
 intro Ns
 induction Ns with
 |nil=>intro _ k;exact .inr rfl
 |cons N t ih=>
  intro h k
  rcases h N (by simp) k with h1|h1
  ·exact .inl h1
  ·rcases ih (fun M hM=>h M (by simp [hM])) k with h2|h2
   ·exact .inl h2
   ·exact .inr (by simp [joinL,join2,h1,h2])
theorem Hp.packL {E:World} {w:World} : ∀ {Ns L:List Heaplet},Hp E (Ns++L) w→Hp E (joinL Ns::L) w:=by
 intro Ns
 induction Ns with
 |nil=>
  intro L h
  exact⟨h.os,h.tape,h.output,fun N hN=>by
   rcases List.mem_cons.1 hN with rfl|hN
   ·intro k o hk;cases hk
   ·exact h.sub N hN,by rw [List.pairwise_cons];exact⟨fun _ _ _=>.inl rfl,h.sep⟩⟩
 |cons N t ih=>
  intro L h
  have h1:Hp E (t++(N::L)) w:=h.perm (List.perm_middle.symm)
  exact((ih h1).perm (.swap ..)).merge
theorem le_joinL {Ns:List Heaplet} (hs:Ns.Pairwise Apart) {N:Heaplet} (hN:N∈Ns):N.le (joinL Ns):=by
 induction Ns with
 |nil=>cases hN
 |cons A t ih=>
  have hp:=List.pairwise_cons.1 hs
  rcases List.mem_cons.1 hN with rfl|hN
  ·exact join2_left
  ·exact Heaplet.le_trans (ih hp.2 hN) (join2_right (apart_joinL hp.1))
theorem Hp.unpackL {E:World} {L:List Heaplet} {w:World} {Ns:List Heaplet} (hs:Ns.Pairwise Apart) (h:Hp E (joinL Ns::L) w):Hp E (Ns++L) w:=by
 have hp:=List.pairwise_cons.1 h.sep
 refine⟨h.os,h.tape,h.output,fun N hN=>?_,?_⟩
 ·rcases List.mem_append.1 hN with hN|hN
  ·exact Heaplet.le_trans (le_joinL hs hN) (h.sub _ (by simp))
  ·exact h.sub N (by simp [hN])
 ·rw [List.pairwise_append]
  exact⟨hs,hp.2,fun a ha b hb=>(hp.1 b hb).le (le_joinL hs ha) (Heaplet.le_refl _)⟩
theorem Fn.pack {P:Program} {f:FuncId} {args:Array Value} {L0 Lr:List Heaplet} {Post Post':Value→List Heaplet→Prop} {As:List Heaplet} (hA:As.Pairwise Apart) (h:Fn P f args (As++L0) Lr Post)
 (hp: ∀v L,Post v L→ ∃Bs L1,L=Bs++L1∧(Bs.Pairwise Apart→Post' v (joinL Bs::L1))):Fn P f args (joinL As::L0) Lr Post':=by
 intro E w R hw hr
 have hw2:Hp E (As++L0++ [R]) w:=by
  rw [List.append_assoc]
  exact hw.unpackL hA
 refine(h E w R hw2 hr).mono ?_
 rintro e w' ⟨v,L,rfl,hP,hh⟩
 obtain⟨Bs,L1,rfl,hq⟩:=hp v L hP
 rw [List.append_assoc]at hh
 have hs:=(List.pairwise_append.1 hh.sep).1
 exact⟨v,_,rfl,hq hs,hh.packL⟩
def It.bytes:It→List UInt8
 |.mk _ bs _=>bs
def It.items:It→List It
 |.mk _ _ its=>its
def slB (x:IV):Value:=.slice x.ab x.nb x.cb
mutual
def DepB (M:Heaplet):It→IV→Prop
 |.mk _ _ its,x=> ∃xs,RSl M 3 x.ai x.ni x.ci (cellsI xs)∧Bag 5 M (xs.map slB) (its.map It.bytes)∧DepBs M its xs
def DepBs (M:Heaplet):List It→List IV→Prop
 | [],xs=>xs= []
 |t::ts,xs=> ∃x r,xs=x::r∧DepB M t x∧DepBs M ts r
end
mutual
theorem DepB.le {N M:Heaplet} (hl:N.le M): ∀ {t:It} {x:IV},DepB N t x→DepB M t x
 |.mk l bs its,x,h=>by
  simp only [DepB]at h⊢
  obtain⟨xs,h1,h2,h3⟩:=h
  exact⟨xs,h1.le hl,h2.le hl,DepBs.le hl h3⟩
theorem DepBs.le {N M:Heaplet} (hl:N.le M): ∀ {ts:List It} {xs:List IV},DepBs N ts xs→DepBs M ts xs
 | [],xs,h=>by simp only [DepBs]at h⊢;exact h
 |t::ts,xs,h=>by
  simp only [DepBs]at h⊢
  obtain⟨x,r,h1,h2,h3⟩:=h
  exact⟨x,r,h1,DepB.le hl h2,DepBs.le hl h3⟩
end
theorem DepBs.nil (M:Heaplet):DepBs M [] []:=by simp only [DepBs]
theorem DepBs.snoc {M:Heaplet} : ∀ {ts:List It} {xs:List IV} {t:It} {x:IV},DepBs M ts xs→DepB M t x→DepBs M (ts++ [t]) (xs++ [x])
 | [],xs,t,x,h,k=>by
  simp only [DepBs]at h
  subst h
  show DepBs M [t] [x]
  simp only [DepBs]
  exact⟨x,[],rfl,k,rfl⟩
 |u::ts,xs,t,x,h,k=>by
  simp only [DepBs]at h
  obtain⟨y,r,rfl,h2,h3⟩:=h
  show DepBs M (u::(ts++ [t])) (y::(r++ [x]))
  simp only [DepBs]
  exact⟨y,r++ [x],rfl,h2,DepBs.snoc h3 k⟩
def OwnTop (M:Heaplet) (t:It) (x:IV):Prop:=DepB M t x∧ ∃NB NR NS xs,[NB,NR,NS].Pairwise Apart∧M=joinL [NB,NR,NS]∧Row NB 5 1 x.ab x.nb x.cb (u8s t.bytes)∧Row NR 91 3 x.ai x.ni x.ci (cellsI xs)∧xs.length=x.ni∧Bag 5 NS (xs.map slB) (t.items.map It.bytes)
def Small (t:It) (n:Nat):Prop:=t.bytes.length≤n∧ ∀u∈t.items,u.bytes.length≤n
theorem join_nil (N:Heaplet):join2 N nilH=N:=by
 funext k
 simp only [join2]
 cases N k<;>rfl
theorem nil_join (N:Heaplet):join2 nilH N=N:=by
 funext k
 simp only [join2]
 rfl
theorem apart_nil (N:Heaplet):Apart N nilH:=fun _=>.inr rfl
theorem nil_apart (N:Heaplet):Apart nilH N:=fun _=>.inl rfl
theorem own_text {N:Heaplet} {p:List UInt8} {x:IV} (h:Row N 5 1 x.ab x.nb x.cb (u8s p)) (h0:x.ni=0) (h1:x.ai=none) (h2:x.ci=0) (l:Bool):OwnTop N (.mk l p []) x:=by
 refine⟨by simp only [DepB];rw [h0,h1,h2];exact⟨[],RSl.nil _ _,Bag.nil _ _,DepBs.nil _⟩,N,nilH,nilH,[],?_,?_,h,?_,by rw [h0];rfl,Bag.nil _ _⟩
 ·simp only [List.pairwise_cons,List.mem_cons,List.not_mem_nil,or_false]
  exact⟨fun M hM=>by rcases hM with rfl|rfl<;>exact apart_nil _,fun M hM=>nil_apart _,fun M hM=>hM.elim,.nil⟩
 ·simp only [joinL,join_nil,nil_join]
 ·rw [h0,h1,h2];exact Row.nil _ _ _
theorem own_list {Nr Ns:Heaplet} {done:List It} {xs:List IV} {ai:Option Addr} {ni ci:Nat} (ha:Apart Nr Ns) (hr:Row Nr 91 3 ai ni ci (cellsI xs)) (hn:xs.length=ni) (hb:Bag 5 Ns (xs.map slB) (done.map It.bytes)) (hob:DepBs Ns done xs):OwnTop (join2 Nr Ns) (.mk true [] done) ⟨true,none,0,0,ai,ni,ci⟩:=by
 refine⟨by simp only [DepB];exact⟨xs,hr.rsl.le join2_left,hb.le (join2_right ha),hob.le (join2_right ha)⟩,nilH,Nr,Ns,xs,?_,?_,Row.nil _ _ _,hr,hn,hb⟩
 ·simp only [List.pairwise_cons,List.mem_cons,List.not_mem_nil,or_false]
  exact⟨fun M hM=>nil_apart _,fun M hM=>by subst hM;exact ha,fun M hM=>hM.elim,.nil⟩
 ·simp only [joinL,join_nil,nil_join]
theorem OwnTop.row {M:Heaplet} {t:It} {x:IV} (h:OwnTop M t x):Row M 5 1 x.ab x.nb x.cb (u8s t.bytes):=by
 obtain⟨_,NB,NR,NS,xs,h1,rfl,h3,_⟩:=h
 exact h3.le (le_joinL h1 (by simp))
theorem small_more {done:List It} {t:It} {n:Nat} (h: ∀u∈done,u.bytes.length≤n) (ht:t.bytes.length≤n): ∀u∈done++ [t],u.bytes.length≤n:=by
 intro u hu
 rcases List.mem_append.1 hu with hu|hu
 ·exact h u hu
 ·rw [List.mem_singleton.1 hu];exact ht
theorem Bag.more {Ns M:Heaplet} {done:List It} {xs:List IV} {t:It} {x:IV} (h:Bag 5 Ns (xs.map slB) (done.map It.bytes)) (hr:Row M 5 1 x.ab x.nb x.cb (u8s t.bytes)) (ha:Apart Ns M):Bag 5 (join2 Ns M) ((xs++ [x]).map slB) ((done++ [t]).map It.bytes):=by
 have hl:t.bytes.length=x.nb:=by have:=hr.1;simpa using this
 have h2:Row M 5 1 x.ab t.bytes.length x.cb (u8s t.bytes):=by rw [hl];exact hr
 have:=h.snoc h2 ha.symm
 rw [List.map_append,List.map_append]
 show Bag _ _ (xs.map slB++ [slB x]) (done.map It.bytes++ [t.bytes])
 rw [slB, ←hl]
 refine this.le ?_
 intro k o hk
 simp only [join2]at hk⊢
 rcases ha k with h0|h0
 ·rw [h0];rw [h0]at hk
  cases hm:M k with
  |none=>rw [hm]at hk;cases hk
  |some o'=>rw [hm]at hk;simpa using hk
 ·rw [h0]at hk
  cases hn:Ns k with
  |none=>rw [hn]at hk;cases hk
  |some o'=>rw [hn]at hk;simpa using hk
def DecO (ao:Option Addr) (n cap:Nat) (b:List UInt8) (r:Except Nat (It×List UInt8)) (v:Value) (L:List Heaplet):Prop:=
 (∃t q M, ∃x:IV, ∃aq cq,r=.ok (t,q)∧v=.tuple #[.agg #[.bool x.l,.slice x.ab x.nb x.cb,.slice x.ai x.ni x.ci],.slice aq q.length cq,.int .i64 0]∧L= [M]∧ItN M t x∧OwnTop M t x∧Small t b.length∧ ∀N,RSl N 1 ao n cap (u8s b)→RSl N 1 aq q.length cq (u8s q))∨
 (∃e:Nat,r=.error e∧v=.tuple #[.agg #[.bool false,.slice none 0 0,.slice none 0 0],.slice none 0 0,.int .i64 (e:Int)]∧L= []∧e≠0)
theorem decode_noneO {N:Heaplet} {ao:Option Addr} {n cap:Nat} {b:List UInt8} (h:RSl N 1 ao n cap (u8s b)) (hn:n≤1099511627776) (hc:cutF b=none) (k:Nat) (q:Int):
 Fn Tryz.prog 87 #[.slice ao n cap,.int .i64 q] [] [N] (DecO ao n cap b (decF k b)):=by
 have hd:decF k b=.error 2:=by cases k<;>simp [decF,hc]
 refine Fn.enter (vs:= [.slice ao n cap,.int .i64 q]) Tryz.func87 U U U ?_
 intro E R hR
 have h:=h.le (hR N (by simp))
 change At _ _ E [R] _
 refine aC fun _ s_1=>aA (bK bU ze91 U (fun N4 b4 B4=>?_))
 change Blk N4 b4 _ [.bool false,.slice none 0 0,.slice none 0 0]at B4
 refine aR U U (aR U U (aB (s_1 (aC fun _ s_2=>aA (aH U U (bD bU (.cons U .nil) (cut_none h hn hc) Tryz.func140 U U (by simp) U ?_))))))
 rintro _ _ ⟨rfl,rfl⟩
 show At _ _ _ [N4,R] _
 refine aH U U (aO aE U U U (aO aE U U U (aR U U (aR U U (aB (s_2 (aC fun _ s_3=>aC fun _ s_4=>aA (aH U U (op_eqNilT aE (by kernel_rfl) U U (aB (s_4 (At.condT U (aC fun _ s_5=>aA (cM (out:= [.bool false,.slice none 0 0,.slice none 0 0]) aE ze91 pl91 .nil U U (aF cL sz91 U U U U U B4 (by simp) dB (fun N4 B4=>?_))))))))))))))))
 simp only [setL,List.set]at B4
 refine aR U U (aR U U (aB (s_5 (a0 (aS ((bE (L1:= []) U (.cell U (bQ (ds:= [_,_,_]) ag91 B4 U U bI) (.tmp U (.tmp U .nil))) U (.cons _ (.refl _)) aJ ?_)))))))
 exact .inr ⟨2,hd,rfl,rfl,by decide⟩
theorem decode_textO {N:Heaplet} {ao:Option Addr} {n cap:Nat} {b p r:List UInt8} (h:RSl N 1 ao n cap (u8s b)) (hn:n≤1099511627776) (hc:cutF b=some (false,p,r)) (k:Nat) (q:Int):
 Fn Tryz.prog 87 #[.slice ao n cap,.int .i64 q] [] [N] (DecO ao n cap b (decF k b)):=by
 have hd:decF k b=.ok (.mk false p [],r):=by cases k<;>simp [decF,hc]
 have hlen:=h.len8
 have hcl:=(cutF_len hc).1
 refine Fn.enter (vs:= [.slice ao n cap,.int .i64 q]) Tryz.func87 U U U ?_
 intro E R hR
 have h:=h.le (hR N (by simp))
 change At _ _ E [R] _
 refine aC fun _ s_1=>aA (bK bU ze91 U (fun N4 b4 B4=>?_))
 change Blk N4 b4 _ [.bool false,.slice none 0 0,.slice none 0 0]at B4
 refine aR U U (aR U U (aB (s_1 (aC fun _ s_2=>aA (aH U U (bD bU (.cons U .nil) (cut_some h hn hc) Tryz.func140 U U (by simp) U ?_))))))
 rintro _ _ ⟨a1,c1,a2,c2,rfl,rfl,h1,h2⟩
 show At _ _ _ [N4,R] _
 refine aH U U (aO aE U U U (aO aE U U U (aR U U (aR U U (aB (s_2 (aC fun _ s_3=>aC fun _ s_4=>aA (aH U U (op_eqNilF aE (by kernel_rfl) U U (aB (s_4 (dA U (aT (aI (s_3 (aC fun _ s_5=>aC fun _ s_6=>aA (aH U U (op_assertY aE (by kernel_rfl) U U (aH U U (aO aE U U U (aO aE U U U (aR U U (aR U U (aB (s_6 (aC fun _ s_7=>aA (aH U U (aB (s_7 (At.condT U (aC fun _ s_8=>aA (aH U U ?_))))))))))))))))))))))))))))))))
 refine op_append0 bU Tryz.underlying22 Tryz.underlying211 te5 rfl rfl (by assumption) (by simp) (by first|exact one_u8s _|exact one_u64s _|exact one_u32s _|(intro u hu;simp at hu;subst hu;rfl)) (by omega) (by omega) rfl (fun N31 a31 p31 r31=>?_)
 have s31:=r31.rsl
 refine cM (out:= [.bool false,_,.slice none 0 0]) aE ze91 pl91 (.cons U .nil) U U (aH U U (aF cL sz91 U U U U U B4 (by simp) sel1 (fun N4 B4=>?_)))
 simp only [setL,List.set]at B4
 refine aR U U (aR U U (aB (s_8 (a0 (aS ((bE (L1:= [N31]) U (.cell U (bQ (ds:= [_,_,_]) ag91 B4 U U bI) (.tmp U (.tmp U .nil))) U (.cons _ (.refl _)) aJ ?_)))))))
 exact .inl ⟨_,_,N31,⟨false,a31,p.length,p31,none,0,0⟩,a2,c2,hd,rfl,rfl,ItN.mk s31 (xs:= []) (RSl.nil _ _) rfl,own_text r31 U U U _,⟨by show p.length≤b.length;omega,fun u hu=>absurd hu List.not_mem_nil⟩,h2⟩
theorem decode_deepO {N:Heaplet} {ao:Option Addr} {n cap:Nat} {b p r:List UInt8} (h:RSl N 1 ao n cap (u8s b)) (hn:n≤1099511627776) (hc:cutF b=some (true,p,r)):
 Fn Tryz.prog 87 #[.slice ao n cap,.int .i64 1024] [] [N] (DecO ao n cap b (decF 0 b)):=by
 have hd:decF 0 b=.error 7:=by simp [decF,hc]
 refine Fn.enter (vs:= [.slice ao n cap,.int .i64 1024]) Tryz.func87 U U U ?_
 intro E R hR
 have h:=h.le (hR N (by simp))
 change At _ _ E [R] _
 refine aC fun _ s_1=>aA (bK bU ze91 U (fun N4 b4 B4=>?_))
 change Blk N4 b4 _ [.bool false,.slice none 0 0,.slice none 0 0]at B4
 refine aR U U (aR U U (aB (s_1 (aC fun _ s_2=>aA (aH U U (bD bU (.cons U .nil) (cut_some h hn hc) Tryz.func140 U U (by simp) U ?_))))))
 rintro _ _ ⟨a1,c1,a2,c2,rfl,rfl,h1,h2⟩
 show At _ _ _ [N4,R] _
 refine aH U U (aO aE U U U (aO aE U U U (aR U U (aR U U (aB (s_2 (aC fun _ s_3=>aC fun _ s_4=>aA (aH U U (op_eqNilF aE (by kernel_rfl) U U (aB (s_4 (dA U (aT (aI (s_3 (aC fun _ s_5=>aC fun _ s_6=>aA (aH U U (op_assertN aE (by kernel_rfl) ze211 U U U (aH U U (aO aE U U U (aO aE U U U (aR U U (aR U U (aB (s_6 (aC fun _ s_7=>aA (aH U U (aB (s_7 (dA U (aT (aI (s_5 (aC fun _ s_8=>aC fun _ s_9=>aA (aH U U ?_)))))))))))))))))))))))))))))))))))
 refine dF aE U U U (aB (s_9 (aQ U (fun c35=>?_) (fun c35=>?_))))
 rotate_left
 ·exact absurd U c35
 refine aC fun _ s_10=>aA (cM (out:= [.bool false,.slice none 0 0,.slice none 0 0]) aE ze91 pl91 .nil U U (aF cL sz91 U U U U U B4 (by simp) dB (fun N4 B4=>?_)))
 simp only [setL,List.set]at B4
 refine aR U U (aR U U (aB (s_10 (a0 (aS ((bE (L1:= []) U (.cell U (bQ (ds:= [_,_,_]) ag91 B4 U U bI) (.tmp U (.tmp U .nil))) U (.cons _ (.refl _)) aJ ?_)))))))
 exact .inr ⟨7,hd,rfl,rfl,by decide⟩
theorem decode_itsO {N:Heaplet} {ao:Option Addr} {n cap:Nat} {b p r:List UInt8} (h:RSl N 1 ao n cap (u8s b)) (hn:n≤1099511627776) (hc:cutF b=some (true,p,r)) (k:Nat) (q:Int) (hq:q+k+1=1024) (hk0:0≤q)
 (ih: ∀(N:Heaplet) (ao:Option Addr) (n cap:Nat) (b:List UInt8) (q:Int),RSl N 1 ao n cap (u8s b)→n≤1099511627776→q+k=1024→0≤q→Fn Tryz.prog 87 #[.slice ao n cap,.int .i64 q] [] [N] (DecO ao n cap b (decF k b))):
 Fn Tryz.prog 87 #[.slice ao n cap,.int .i64 q] [] [N] (DecO ao n cap b (decF (k+1) b)):=by
 have hlen:=h.len8
 have hcl:=(cutF_len hc).1
 refine Fn.enter (vs:= [.slice ao n cap,.int .i64 q]) Tryz.func87 U U U ?_
 intro E R hR
 have h:=h.le (hR N (by simp))
 change At _ _ E [R] _
 refine aC fun _ s_1=>aA (bK bU ze91 U (fun N4 b4 B4=>?_))
 change Blk N4 b4 _ [.bool false,.slice none 0 0,.slice none 0 0]at B4
 refine aR U U (aR U U (aB (s_1 (aC fun _ s_2=>aA (aH U U (bD bU (.cons U .nil) (cut_some h hn hc) Tryz.func140 U U (by simp) U ?_))))))
 rintro _ _ ⟨a1,c1,a2,c2,rfl,rfl,h1,h2⟩
 show At _ _ _ [N4,R] _
 refine aH U U (aO aE U U U (aO aE U U U (aR U U (aR U U (aB (s_2 (aC fun _ s_3=>aC fun _ s_4=>aA (aH U U (op_eqNilF aE (by kernel_rfl) U U (aB (s_4 (dA U (aT (aI (s_3 (aC fun _ s_5=>aC fun _ s_6=>aA (aH U U (op_assertN aE (by kernel_rfl) ze211 U U U (aH U U (aO aE U U U (aO aE U U U (aR U U (aR U U (aB (s_6 (aC fun _ s_7=>aA (aH U U (aB (s_7 (dA U (aT (aI (s_5 (aC fun _ s_8=>aC fun _ s_9=>aA (aH U U ?_)))))))))))))))))))))))))))))))))))
 refine dF aE U U U (aB (s_9 (aQ U (fun c35=>?_) (fun c35=>?_))))
 ·exfalso;omega
 refine aT (aI (s_8 (aC fun _ s_10=>aA (cM (out:= [_,.slice none 0 0,.slice none 0 0]) aE ze91 pl91 (.cons U .nil) U U (bK bU ze91 U (fun N11 b11 B11=>?_))))))
 change Blk N11 b11 _ [.bool false,.slice none 0 0,.slice none 0 0]at B11
 refine aF cL sz91 U U U U U B11 (by simp) dB (fun N11 B11=>?_)
 simp only [setL,List.set]at B11
 refine aB (s_10 (aC fun _ s_11=>aC fun _ s_12=>aA (aH U U (op_assert1 aE (by kernel_rfl) U U (aR U U (aB (s_12 (bZ (cV (cV (aL (bO (aM (aN (aL ?_)))))))))))))))
 refine At.loop (fun fr_ hp_ ms_=> ∃(p':List UInt8) (ac:Option Addr) (m cc:Nat) (done:List It) (xs:List IV) (ai:Option Addr) (ni ci:Nat) (N11 Nr Ns:Heaplet),fr_= [(0,.slice ao n cap),(1,.int .i64 q),(4,.pointer (some ⟨b4,0,none⟩)),(8,.slice a2 r.length c2),(11,.pointer (some ⟨b11,0,none⟩)),(12,.slice ac m cc)]∧hp_= [N4,N11,Nr,Ns,R]∧m=ms_∧(RSl R 1 ac m cc (u8s p'))∧(Blk N11 b11 91 [.bool true,.slice none 0 0,.slice ai ni ci])∧(Row Nr 91 3 ai ni ci (cellsI xs))∧(xs.length=ni)∧(ItsN Ns done xs)∧(Bag 5 Ns (xs.map slB) (done.map It.bytes))∧(DepBs Ns done xs)∧(∀u∈done,u.bytes.length≤p.length)∧(itF (decF k) p=exMap (done++ ·) (itF (decF k) p'))∧(ni+m≤p.length)) ?_ aJ ⟨p,a1,p.length,c1,[],[],none,0,0,N11,nilH,nilH,rfl,rfl,rfl,h1,B11,Row.nil _ _ _,rfl,rfl,Bag.nil _ _,DepBs.nil _,fun u hu=>absurd hu List.not_mem_nil,by cases itF (decF k) p<;>rfl,by omega⟩ ?_
 ·repeat first|apply cW|exact .nil|exact lkI rfl (by omega)|rfl
 rintro _ _ _ ⟨p',ac,m,cc,done,xs,ai,ni,ci,N11,Nr,Ns,rfl,rfl,rfl,sc,B11,rr,hni,hs,hbag,hob,hsm,H,hcnt⟩
 have hlp:=sc.len8
 have sr:=rr.rsl
 refine aC fun _ s_13=>aC fun _ s_14=>aA (aH U U (cF aE se22 U U (op_gtr aE U U U (aB (s_14 (aQ U (fun c42=>?_) (fun c42=>?_)))))))
 ·refine aT (aI (s_13 (bZ (aC fun _ s_15=>aA (aH U U (aH U U (cU aE U U (by omega) (by omega) U (bD bU (.cons U (.cons U .nil)) (ih R ac m cc p' (q+1) sc (by omega) (by omega) (by omega)) Tryz.func87 U U (by simp) U ?_))))))))
  rintro _ _ (⟨t,q',M47,x,aq,cq,he,rfl,rfl,hi,ho,hsz,hqq⟩|⟨e,he,rfl,rfl,hne⟩)
  ·show At _ _ _ [M47,N4,N11,Nr,Ns,R] _
   refine aH U U (aO aE U U U (aO aE U U U (aO aE U U U (bK bU ze91 U (fun N13 b13 B13=>?_)))))
   change Blk N13 b13 _ [.bool false,.slice none 0 0,.slice none 0 0]at B13
   refine aF cL sz91 U U U U U B13 (by simp) dB (fun N13 B13=>?_)
   simp only [setL,List.set]at B13
   refine aR U U (aR U U (aB (s_15 (aC fun _ s_16=>aC fun _ s_17=>aA (aH U U (dG aE U U U (aB (s_17 (dA U (aT (aI (s_16 (aC fun _ s_18=>aA (aD aE fl91_2 U U (aK aE sc89 U B11 U mem3 U ?_)))))))))))))))
   refine aV (ds:= [_,_,_]) aE ag91 U B13 U U bI U (op_lit bU Tryz.underlying89 ze91 sz91 (.cons U .nil) U U (by simp [Value.cells]) U U U (fun N58 a58 r58=>?_))
   simp only [flatV,List.flatMap_cons,List.flatMap_nil,Value.cells,List.append_nil,List.cons_append,List.nil_append]at r58
   have s58:=r58.rsl
   refine op_append cL Tryz.underlying89 Tryz.underlying89 te91 rfl rfl rr (by assumption) (by simp) (by intro u hu;simp at hu;rcases hu with rfl|rfl|rfl<;>rfl) (by omega) (by omega) sel5 rfl (fun N59 a59 p59 r59=>?_)
   have s59:=r59.rsl
   refine aD aE fl91_2 U U (aF cL sz89 U U U U U B11 (by simp) sel5 (fun N11 B11=>?_))
   simp only [setL,List.set]at B11
   refine aB (s_18 (aA (aH U U (aR U U (cX (cS (aI (aZ (bC (aG (aG (aG (aG (bC (aZ (At.merge (fun hap=>dH (bW (aL (bO (aN (aN (aL ?_)))))))))))))))))))))))
   refine At.back ?_ aJ ⟨q',aq,q'.length,cq,done++ [t],xs++ [x],a59,ni+1,p59,N11,N59,join2 Ns M47,rfl,rfl,rfl,hqq R sc,B11,by rw [cellsI,List.flatMap_append];exact r59,by simp [hni],(hs.le join2_left).snoc (hi.le (join2_right hap)),hbag.more ho.row hap,(hob.le join2_left).snoc (ho.1.le (join2_right hap)),small_more hsm (by have:=hsz.1;omega),by rw [H,itF_ok (fun b t q h=>decF_lt h) (by omega) he,exMap_map];congr 1;funext l;simp,by have:=decF_lt he;omega⟩ ?_
   ·repeat first|apply cW|exact .nil|exact lkI rfl (by omega)|rfl
   ·exact(by have:=decF_lt he;omega)
  show At _ _ _ [N4,N11,Nr,Ns,R] _
  refine aH U U (aO aE U U U (aO aE U U U (aO aE U U U (bK bU ze91 U (fun N13 b13 B13=>?_)))))
  change Blk N13 b13 _ [.bool false,.slice none 0 0,.slice none 0 0]at B13
  refine aF cL sz91 U U U U U B13 (by simp) dB (fun N13 B13=>?_)
  simp only [setL,List.set]at B13
  refine aR U U (aR U U (aB (s_15 (aC fun _ s_19=>aC fun _ s_20=>aA (aH U U (dG aE U U U (aB (s_20 (aQ U (fun c52=>?_) (fun c52=>?_))))))))))
  rotate_left
  ·exfalso;omega
  refine aC fun _ s_21=>aA (cM (out:= [.bool false,.slice none 0 0,.slice none 0 0]) aE ze91 pl91 .nil U U (aH U U (aF cL sz91 U U U U U B4 (by simp) sel1 (fun N4 B4=>?_))))
  simp only [setL,List.set]at B4
  refine aR U U (aR U U (aB (s_21 (a0 (aS (At.inRet (aS (At.inRet (aS ((dH (bW (bJ (bH (bE (L1:= []) U (.cell U (bQ (ds:= [_,_,_]) ag91 B4 U U bI) (.tmp U (.tmp U .nil))) U (.cons _ (.refl _)) aJ ?_)))))))))))))))
  exact .inr ⟨e,by simp [decF,hc,H,itF_error (show 0<p'.length by omega) he,exMap],rfl,rfl,hne⟩
 refine At.exit (bB (bB (dE (aI (s_11 (aC fun _ s_22=>aA (aV (ds:= [_,_,_]) aE ag91 U B11 U U mem1 U (aH U U (aF cL sz91 U U U U U B4 (by simp) dB (fun N4 B4=>?_))))))))))
 simp only [setL,List.set]at B4
 refine aR U U (aR U U (aB (s_22 (a0 ((aL (aM (aM (aL (aL (At.merge (fun hap=>bJ (aM (bO (aM (bE (L1:= [(join2 Nr Ns)]) U (.cell U (bQ (ds:= [_,_,_]) ag91 B4 U U bI) (.tmp U (.tmp U .nil))) U (.cons _ (.refl _)) aJ ?_))))))))))))))))
 have hp0:p'= []:=List.eq_nil_of_length_eq_zero (by omega)
 subst hp0
 refine .inl ⟨.mk true [] done,r,join2 Nr Ns,⟨true,none,0,0,ai,ni,ci⟩,a2,c2,?_,rfl,rfl,ItN.mk (RSl.nil _ _) (sr.le join2_left) (hs.le (join2_right hap)),own_list hap rr hni hbag hob,⟨Nat.zero_le _,fun u hu=>by have:=hsm u hu;omega⟩,h2⟩
 simp [decF,hc,H,itF_nil,exMap]
theorem decode_o (k:Nat): ∀(N:Heaplet) (ao:Option Addr) (n cap:Nat) (b:List UInt8) (q:Int),RSl N 1 ao n cap (u8s b)→n≤1099511627776→q+k=1024→0≤q→Fn Tryz.prog 87 #[.slice ao n cap,.int .i64 q] [] [N] (DecO ao n cap b (decF k b)):=by
 induction k with
 |zero=>
  intro N ao n cap b q h hn hq h0
  obtain rfl:q=1024:=by omega
  match hc:cutF b with
  |none=>exact decode_noneO h hn hc 0 _
  |some (false,p,r)=>exact decode_textO h hn hc 0 _
  |some (true,p,r)=>exact decode_deepO h hn hc
 |succ k ih=>
  intro N ao n cap b q h hn hq h0
  match hc:cutF b with
  |none=>exact decode_noneO h hn hc _ _
  |some (false,p,r)=>exact decode_textO h hn hc _ _
  |some (true,p,r)=>exact decode_itsO h hn hc k q (by omega) h0 ih
def DecodeO (nb:Nat) (r:Except Nat It) (v:Value) (L:List Heaplet):Prop:=
 (∃t M, ∃x:IV,r=.ok t∧v=.tuple #[.agg #[.bool x.l,.slice x.ab x.nb x.cb,.slice x.ai x.ni x.ci],.int .i64 0]∧L= [M]∧ItN M t x∧OwnTop M t x∧Small t nb)∨
 (∃e:Nat,r=.error e∧v=.tuple #[.agg #[.bool false,.slice none 0 0,.slice none 0 0],.int .i64 (e:Int)]∧L= []∧e≠0)
theorem Decode_o {N:Heaplet} {ao:Option Addr} {n cap:Nat} {b:List UInt8} (h:RSl N 1 ao n cap (u8s b)) (hn:n≤1099511627776):
 Fn Tryz.prog 32 #[.slice ao n cap] [] [N] (DecodeO b.length (decodeF b)):=by
 refine Fn.enter (vs:= [.slice ao n cap]) Tryz.func32 U U U ?_
 intro E R hR
 have h:=h.le (hR N (by simp))
 change At _ _ E [R] _
 refine aC fun _ s_1=>aA (bK bU ze91 U (fun N2 b2 B2=>?_))
 change Blk N2 b2 _ [.bool false,.slice none 0 0,.slice none 0 0]at B2
 refine aR U U (aB (s_1 (aC fun _ s_2=>aA (aH U U (bD bU (.cons U (.cons U .nil)) (decode_o 1024 R ao n cap b 0 h hn (by omega) (by omega)) Tryz.func87 U U (by simp) U ?_)))))
 rintro _ _ (⟨t,q,M9,x,aq,cq,he,rfl,rfl,hi,ho,hsz,hq⟩|⟨e,he,rfl,rfl,hne⟩)
 ·show At _ _ _ [M9,N2,R] _
  refine aH U U (aO aE U U U (aO aE U U U (aO aE U U U (bK bU ze91 U (fun N4 b4 B4=>?_)))))
  change Blk N4 b4 _ [.bool false,.slice none 0 0,.slice none 0 0]at B4
  refine aF cL sz91 U U U U U B4 (by simp) dB (fun N4 B4=>?_)
  simp only [setL,List.set]at B4
  refine aR U U (aR U U (aB (s_2 (aC fun _ s_3=>aC fun _ s_4=>aA (aH U U (dF aE U U U (aH U U (cB (d:=15) U (fun g15=>?_) (fun g15=>?_)))))))))
  rotate_left
  ·exact absurd U g15
  refine aP (bF U U U U) U U (cF (bF U U U U) se22 U U (op_gtr (bF U U U U) U U U (cH aE U U U (aB (s_4 (aQ U (fun c19=>?_) (fun c19=>?_)))))))
  ·refine aC fun _ s_5=>aA (cM (out:= [.bool false,.slice none 0 0,.slice none 0 0]) aE ze91 pl91 .nil U U (aF cL sz91 U U U U U B2 (by simp) sel2 (fun N2 B2=>?_)))
   simp only [setL,List.set]at B2
   refine aR U U (aB (s_5 (a0 (aS ((bJ (bH (bE (L1:= []) U (.cell U (bQ (ds:= [_,_,_]) ag91 B2 U U bI) (.tmp U .nil)) U (.cons _ (.refl _)) aJ ?_))))))))
   exact .inr ⟨2,by rw [decodeF,he];simp only;rw [if_neg (by omega)],rfl,rfl,by decide⟩
  refine aT (aI (s_3 (aC fun _ s_6=>aA (aV (ds:= [_,_,_]) aE ag91 U B4 U U bI U (aH U U (aF cL sz91 U U U U U B2 (by simp) sel2 (fun N2 B2=>?_)))))))
  simp only [setL,List.set]at B2
  refine aR U U (aB (s_6 (a0 ((bH (bE (L1:= [M9]) U (.cell U (bQ (ds:= [_,_,_]) ag91 B2 U U bI) (.tmp U .nil)) U (.cons _ (.refl _)) aJ ?_))))))
  exact .inl ⟨t,M9,x,by rw [decodeF,he];simp only;rw [if_pos (by omega)],rfl,rfl,hi,ho,hsz⟩
 show At _ _ _ [N2,R] _
 refine aH U U (aO aE U U U (aO aE U U U (aO aE U U U (bK bU ze91 U (fun N4 b4 B4=>?_)))))
 change Blk N4 b4 _ [.bool false,.slice none 0 0,.slice none 0 0]at B4
 refine aF cL sz91 U U U U U B4 (by simp) dB (fun N4 B4=>?_)
 simp only [setL,List.set]at B4
 refine aR U U (aR U U (aB (s_2 (aC fun _ s_7=>aC fun _ s_8=>aA (aH U U (dF aE U U U (aH U U (cB (d:=15) U (fun g15=>?_) (fun g15=>?_)))))))))
 ·exfalso;omega
 refine aU U U U U U U U (aU U U U U U U U (aU U U U U U U U (cE aE U U U (aB (s_8 (dA U (aT (aI (s_7 (aC fun _ s_9=>aA (aV (ds:= [_,_,_]) aE ag91 U B4 U U bI U (aH U U (aF cL sz91 U U U U U B2 (by simp) sel1 (fun N2 B2=>?_))))))))))))))
 simp only [setL,List.set]at B2
 refine aR U U (aB (s_9 (a0 ((bH (bE (L1:= []) U (.cell U (bQ (ds:= [_,_,_]) ag91 B2 U U bI) (.tmp U .nil)) U (.cons _ (.refl _)) aJ ?_))))))
 exact .inr ⟨e,by rw [decodeF,he],rfl,rfl,hne⟩
def DecW (nb:Nat) (v:Value) (L:List Heaplet):Prop:= ∃x:IV, ∃e:Int, ∃NB NR NS bb xs bbs,v=.tuple #[.agg #[.bool x.l,.slice x.ab x.nb x.cb,.slice x.ai x.ni x.ci],.int .i64 e]∧L= [NB,NR,NS]∧Row NB 5 1 x.ab x.nb x.cb (u8s bb)∧Row NR 91 3 x.ai x.ni x.ci (cellsI xs)∧xs.length=x.ni∧Bag 5 NS (xs.map slB) bbs∧bb.length≤nb∧ ∀u∈bbs,u.length≤nb
open Go Go.RowKit
set_option maxRecDepth 100000
def PartsQ (Np NI:Heaplet) (bp:Nat) (all:List It) (i E:Nat):Prop:= ∃ao n cap xs,Blk Np bp 105 [.slice ao n cap,.int .i64 (i:Int),.int .i64 (E:Int)]∧RSl NI 3 ao n cap (cellsI xs)∧ItsN NI all xs
def Stp {α:Type} (E:Nat) (r:Except Nat α) (x:α) (E':Nat):Prop:=(r=.ok x∧E'=E)∨ ∃e,r=.error e∧e≠0∧E'=if E=0 then e else E
theorem it_openQ {N:Heaplet} {t:It} {x:IV} (h:ItN N t x): ∃l bs its,t=.mk l bs its∧x.l=l∧RSl N 1 x.ab x.nb x.cb (u8s bs)∧ ∃xs,RSl N 3 x.ai x.ni x.ci (cellsI xs)∧ItsN N its xs:=by
 cases t with
 |mk l bs its=>
  simp only [ItN]at h
  exact⟨l,bs,its,rfl,h⟩
def nxt (all:List It) (i:Nat):It:=all.getD i (itS [])
section
variable {Np NI : Heaplet} {bp i E : Nat} {all : List It}
theorem nxt_at {t:It} (h:all[i]? =some t):nxt all i=t:=by rw [nxt,List.getD_eq_getElem?_getD,h];rfl
theorem nxt_no (h:all.length≤i):nxt all i=itS []:=by rw [nxt,List.getD_eq_getElem?_getD,List.getElem?_eq_none h];rfl
theorem RNext (h:PartsQ Np NI bp all i E) (hi:i≤9000000000000000000):Fn Tryz.prog 40 #[.pointer (some ⟨bp,0,none⟩)] [Np] [NI] (fun v L=> ∃Np, ∃z:IV,v=.agg #[.bool z.l,.slice z.ab z.nb z.cb,.slice z.ai z.ni z.ci]∧L= [Np]∧PartsQ Np NI bp all (i+1) E∧ItN NI (nxt all i) z):=by
 obtain⟨ao,n,cap,xs,Bp,hs,hX⟩:=h
 have hxl:=hX.length
 have hn:xs.length=n:=by have:=hs.1;rw [length_cellsI]at this;omega
 have hcap:=hs.cap63
 refine Fn.enter (vs:= [.pointer (some ⟨bp,0,none⟩)]) Tryz.func40 U U U ?_
 intro E R hR
 have hsR:=hs.le (hR NI (by simp))
 change At _ _ E [Np,R] _
 refine aC fun _ s_1=>aA (bK bU ze91 U (fun N2 b2 B2=>?_))
 change Blk N2 b2 _ [.bool false,.slice none 0 0,.slice none 0 0]at B2
 refine aB (s_1 (aC fun _ s_2=>aA (cM (out:= [.bool false,.slice none 0 0,.slice none 0 0]) aE ze91 pl91 .nil U U (bK bU ze91 U (fun N3 b3 B3=>?_)))))
 change Blk N3 b3 _ [.bool false,.slice none 0 0,.slice none 0 0]at B3
 refine aF cL sz91 U U U U U B3 (by simp) dB (fun N3 B3=>?_)
 simp only [setL,List.set]at B3
 refine aB (s_2 (aC fun _ s_3=>At.meet (fun fr_ hp_=> ∃(z:IV) (N3:Heaplet),fr_= [(0,.pointer (some ⟨bp,0,none⟩)),(2,.pointer (some ⟨b2,0,none⟩)),(3,.pointer (some ⟨b3,0,none⟩))]∧hp_= [N3,N2,Np,R]∧(Blk N3 b3 91 [.bool z.l,.slice z.ab z.nb z.cb,.slice z.ai z.ni z.ci])∧(ItN NI (nxt all i) z)) ?_ (fun K3_ jk_3=>?_)))
 rotate_left
 ·skip
  refine aC fun _ s_4=>At.drawnS [Np,R] [] [] [0,1,2,3,4,5,6,7,8,9] (by kernel_rfl) (by kernel_rfl) (.cons _ (.cons _ (.refl _))) (aP (cD U U U) U U (aW (cD U U U) U U (aD (cD U U U) fl105_1 U U (aK (cD U U U) sc3 U Bp U bI U ?_))))
  refine aP (cD U U U) U U (aW (cD U U U) U U (aD (cD U U U) fl105_0 U U (aK (cD U U U) sc89 U Bp U bI U ?_)))
  refine cF (cD U U U) se89 U U (op_lss (cD U U U) U U U (At.sNil (aI (s_4 (aQ U (fun c14=>?_) (fun c14=>?_))))))
  ·obtain⟨t,ht⟩: ∃t,all[i]? =some t:=⟨_,List.getElem?_eq_getElem (by omega)⟩
   obtain⟨x,hx,hxi⟩:=hX.get ht
   refine At.drawnS [Np,R] [10] [] [0,1,2,3,4,5,6,7,8,9,10] (by kernel_rfl) (by kernel_rfl) (.cons _ (.cons _ (.refl _))) (aP (cD U U U) U U (aW (cD U U U) U U (aD (cD U U U) fl105_0 U U (aK (cD U U U) sc89 U Bp U bI U ?_))))
   refine aP (cD U U U) U U (aW (cD U U U) U U (aD (cD U U U) fl105_1 U U (aK (cD U U U) sc3 U Bp U bI U ?_)))
   refine op_idxE (cD U U U) se89 U U hsR (show _=(((i:Nat)):Int)from by omega) (by omega) U ?_
   refine op_loadAggE (ds:= [.bool x.l,.slice x.ab x.nb x.cb,.slice x.ai x.ni x.ci]) (cD U U U) ag91 U hsR (by exact cells_at hx) (by rfl) (by omega) (by simp) U ?_
   refine aF (nxsl U U U U) sz91 U U U U U B3 (by simp) dB (fun N3 B3=>?_)
   simp only [setL,List.set]at B3
   refine At.sNil ?_
   refine aI (jk_3 ?_ aJ ⟨x,N3,rfl,rfl,B3,by rw [nxt_at ht];exact hxi⟩)
   repeat first|apply cW|exact .nil|exact lkI rfl (by omega)|rfl
  refine aT ?_
  refine aI (jk_3 ?_ aJ ⟨⟨false,none,0,0,none,0,0⟩,N3,rfl,rfl,B3,by rw [nxt_no (by omega)];exact ItN_S (RSl.nil _ _)⟩)
  repeat first|apply cW|exact .nil|exact lkI rfl (by omega)|rfl
 rintro _ _ ⟨z,N3,rfl,rfl,B3,hz⟩
 refine s_3 (aC fun _ s_5=>aA (aH U U (aW aE U U (aD aE fl105_1 U U (aK aE sc3 U Bp U mem2 U ?_)))))
 refine cU aE U U (by omega) (by omega) U (aW aE U U (aD aE fl105_1 U U (aF cL sz3 U U U U U Bp (by simp) sel2 (fun Np Bp=>?_))))
 simp only [setL,List.set]at Bp
 refine aB (s_5 (aC fun _ s_6=>aA (aV (ds:= [_,_,_]) aE ag91 U B3 U U mem1 U (aF cL sz91 U U U U U B2 (by simp) sel2 (fun N2 B2=>?_)))))
 simp only [setL,List.set]at B2
 refine aB (s_6 (a0 ((bJ (cI (L1:= [Np]) U (.cell U (bQ (ds:= [_,_,_]) ag91 B2 U U bI) .nil) (.cons _ (.refl _)) aJ ?_)))))
 exact⟨Np,z,rfl,rfl,⟨ao,n,cap,xs,Bp,hs,hX⟩,hz⟩
theorem RWrong (h:PartsQ Np NI bp all i E) (e:Nat):Fn Tryz.prog 62 #[.pointer (some ⟨bp,0,none⟩),.int .i64 (e:Int)] [Np] [] (fun v L=> ∃Np,v=.tuple #[]∧L= [Np]∧PartsQ Np NI bp all i (if E=0 then e else E)):=by
 obtain⟨ao,n,cap,xs,Bp,hs,hX⟩:=h
 refine Fn.enter (vs:= [.pointer (some ⟨bp,0,none⟩),.int .i64 (e:Int)]) Tryz.func62 U U U ?_
 intro E R hR
 change At _ _ E [Np,R] _
 refine aC fun _ s_1=>aA (aH U U (aW aE U U (aD aE fl105_2 U U (aK aE sc3 U Bp U bI U ?_))))
 refine dF aE U U U (aB (s_1 (aQ U (fun c8=>?_) (fun c8=>?_))))
 ·refine aA (aH U U (aH U U (aW aE U U (aD aE fl105_2 U U (aF cL sz3 U U U U U Bp (by simp) dB (fun Np Bp=>?_))))))
  simp only [setL,List.set]at Bp
  refine cX (At.retNE (L1:= [Np]) U .nil U (.refl _) aJ ?_)
  exact⟨Np,rfl,rfl,ao,n,cap,xs,by rw [if_pos (by omega)];exact Bp,hs,hX⟩
 refine aT (At.retNE (L1:= [Np]) U .nil U (.refl _) aJ ?_)
 exact⟨Np,rfl,rfl,ao,n,cap,xs,by rw [if_neg (by omega)];exact Bp,hs,hX⟩
theorem RListI (h:PartsQ Np NI bp all i E) (hi:i≤9000000000000000000):Fn Tryz.prog 61 #[.pointer (some ⟨bp,0,none⟩)] [Np] [NI] (fun v L=> ∃Np E' its ao n cap xs,v=.slice ao n cap∧L= [Np]∧PartsQ Np NI bp all (i+1) E'∧RSl NI 3 ao n cap (cellsI xs)∧ItsN NI its xs∧Stp E (listE (nxt all i)) its E'∧its=(nxt all i).items):=by
 refine Fn.enter (vs:= [.pointer (some ⟨bp,0,none⟩)]) Tryz.func61 U U U ?_
 intro E R hR
 have hNR:=hR NI (by simp)
 change At _ _ E [Np,R] _
 refine aC fun _ s_1=>aA (aR U U (aB (s_1 (aC fun _ s_2=>aA (aH U U (cA cL (.cons U .nil) ((RNext h hi).liftB hNR) (F:= [R]) Tryz.func40 U U aJ (by simp) U ?_))))))
 rintro _ _ ⟨Np,z,rfl,rfl,hP,hz⟩
 show At _ _ _ [Np,R] _
 obtain⟨l,bs,its,et,o1,o2,xs,o3,o4⟩:=it_openQ hz
 refine bK bU ze91 U (fun N3 b3 B3=>?_)
 change Blk N3 b3 _ [.bool false,.slice none 0 0,.slice none 0 0]at B3
 refine aF cL sz91 U U U U U B3 (by simp) dB (fun N3 B3=>?_)
 simp only [setL,List.set]at B3
 refine aB (s_2 (aC fun _ s_3=>aC fun _ s_4=>aA (aD aE fl91_0 U U (aK aE sc4 U B3 U bI U ?_))))
 refine op_not aE U U (aB (s_4 (At.condB U (fun c8=>?_) (fun c8=>?_))))
 ·refine aA (aH U U (aM (bO (aM (cA cL (.cons U (.cons U .nil)) (RWrong hP 2) (F:= [N3,R]) Tryz.func62 U U aJ (by simp) U ?_)))))
  rintro _ _ ⟨Np,rfl,rfl,hP⟩
  show At _ _ _ [Np,N3,R] _
  refine aB (s_3 (aC fun _ s_5=>aA (aD aE fl91_2 U U (aK aE sc89 U B3 U mem1 U ?_))))
  refine aR U U (aB (s_5 (a0 ((bH (cI (L1:= [Np]) U (.tmp U .nil) (.refl _) aJ ?_))))))
  have hl:l=false:=by rw [←o1];simpa using c8
  exact⟨Np,_,its,z.ai,z.ni,z.ci,xs,rfl,rfl,hP,o3,o4,.inr ⟨2,by rw [et,hl];rfl,by decide,rfl⟩,by rw [et];rfl⟩
 refine aT (aI (s_3 (aC fun _ s_6=>aA (aD aE fl91_2 U U (aK aE sc89 U B3 U bI U ?_)))))
 refine aR U U (aB (s_6 (a0 ((cK (cI (L1:= [Np]) U (.tmp U .nil) (.refl _) aJ ?_))))))
 have hl:l=true:=by rw [←o1];simpa using c8
 exact⟨Np,_,its,z.ai,z.ni,z.ci,xs,rfl,rfl,hP,o3,o4,.inl ⟨by rw [et,hl];rfl,rfl⟩,by rw [et];rfl⟩
theorem wordE_num {bs:List UInt8} {its:List It} :wordE (.mk false bs its)=if numE bs=0 then .ok (be bs)else .error (numE bs):=rfl
theorem RWord (h:PartsQ Np NI bp all i E) (hi:i≤9000000000000000000):Fn Tryz.prog 39 #[.pointer (some ⟨bp,0,none⟩)] [Np] [NI] (fun v L=> ∃Np E' x,v=wo x∧x<WW∧L= [Np]∧PartsQ Np NI bp all (i+1) E'∧Stp E (wordE (nxt all i)) x E'):=by
 refine Fn.enter (vs:= [.pointer (some ⟨bp,0,none⟩)]) Tryz.func39 U U U ?_
 intro E R hR
 have hNR:=hR NI (by simp)
 change At _ _ E [Np,R] _
 refine aC fun _ s_1=>aA (bK bU ze26 U (fun N2 b2 B2=>?_))
 change Blk N2 b2 _ [.int .u64 0,.int .u64 0,.int .u64 0,.int .u64 0]at B2
 refine aB (s_1 (aC fun _ s_2=>aA (aH U U (aM (bO (aM (cA cL (.cons U .nil) ((RNext h hi).liftB hNR) (F:= [N2,R]) Tryz.func40 U U aJ (by simp) U ?_)))))))
 rintro _ _ ⟨Np,z,rfl,rfl,hP,hz⟩
 show At _ _ _ [Np,N2,R] _
 obtain⟨l,bs,its,et,o1,o2,_⟩:=it_openQ hz
 refine bK bU ze91 U (fun N3 b3 B3=>?_)
 change Blk N3 b3 _ [.bool false,.slice none 0 0,.slice none 0 0]at B3
 refine aF cL sz91 U U U U U B3 (by simp) dB (fun N3 B3=>?_)
 simp only [setL,List.set]at B3
 refine aB (s_2 (aC fun _ s_3=>aC fun _ s_4=>aA (aD aE fl91_0 U U (aK aE sc4 U B3 U bI U ?_))))
 refine aB (s_4 (At.condB U (fun c9=>?_) (fun c9=>?_)))
 ·refine aC fun _ s_5=>aA (aH U U (aN (aN (aM (aN (cA cL (.cons U (.cons U .nil)) (RWrong hP 2) (F:= [N3,N2,R]) Tryz.func62 U U aJ (by simp) U ?_))))))
  rintro _ _ ⟨Np,rfl,rfl,hP⟩
  show At _ _ _ [Np,N3,N2,R] _
  refine aB (s_5 (aC fun _ s_6=>aA (op_buildA (out:= [.int .u64 0,.int .u64 0,.int .u64 0,.int .u64 0]) aE ze26 ae26 .nil U U (aF cL sz26 U U U U U B2 (by simp) sel2 (fun N2 B2=>?_)))))
  simp only [setL,List.set]at B2
  refine aB (s_6 (a0 (aS ((bJ (cI (L1:= [Np]) U (.cell U (bQ (ds:= [_,_,_,_]) ag26 B2 U U bI) .nil) (.cons _ (.refl _)) aJ ?_))))))
  have hl:l=true:=by rw [←o1];exact c9
  exact⟨Np,_,0,wo_zero.symm,by decide,rfl,hP,.inr ⟨2,by rw [et,hl];rfl,by decide,rfl⟩⟩
 refine aT (aI (s_3 (aC fun _ s_7=>aA (aD aE fl91_1 U U (aK aE sc22 U B3 U bI U ?_)))))
 refine bD bU (.cons U .nil) (rNumber_f (o2.le hNR)) Tryz.func96 U U (by simp) U ?_
 rintro _ _ ⟨wa,wb,wc,wd,rfl,rfl,hv⟩
 show At _ _ _ [N3,Np,N2,R] _
 refine aH U U (aO aE U U U (aO aE U U U (bK bU ze26 U (fun N4 b4 B4=>?_))))
 change Blk N4 b4 _ [.int .u64 0,.int .u64 0,.int .u64 0,.int .u64 0]at B4
 refine aF cL sz26 U U U U U B4 (by simp) dB (fun N4 B4=>?_)
 simp only [setL,List.set]at B4
 refine aR U U (aB (s_7 (aC fun _ s_8=>aC fun _ s_9=>aA (aH U U (dG aE U U U (aB (s_9 (aQ U (fun c20=>?_) (fun c20=>?_)))))))))
 ·refine aA (aH U U (aH U U (aL (aL (aN (aN (aL (cA cL (.cons U (.cons U .nil)) (RWrong hP (numE bs)) (F:= [N4,N3,N2,R]) Tryz.func62 U U aJ (by simp) U ?_))))))))
  rintro _ _ ⟨Np,rfl,rfl,hP⟩
  show At _ _ _ [Np,N4,N3,N2,R] _
  refine aB (s_8 (aC fun _ s_10=>aA (aV (ds:= [_,_,_,_]) aE ag26 U B4 U U mem1 U (aF cL sz26 U U U U U B2 (by simp) sel3 (fun N2 B2=>?_)))))
  simp only [setL,List.set]at B2
  refine aB (s_10 (a0 ((bW (bJ (cI (L1:= [Np]) U (.cell U (bQ (ds:= [_,_,_,_]) ag26 B2 U U bI) .nil) (.cons _ (.refl _)) aJ ?_))))))
  have hl:l=false:=by rw [←o1];exact c9
  have hx:v64 [wa,wb,wc,wd]<WW:=v64_lt4 rfl
  exact⟨Np,_,v64 [wa,wb,wc,wd],wo_list (w:= [wa,wb,wc,wd]) rfl,hx,rfl,hP,.inr ⟨numE bs,by rw [et,hl,wordE_num,if_neg (by omega)],by omega,rfl⟩⟩
 refine aT (aI (s_8 (aC fun _ s_11=>aA (aV (ds:= [_,_,_,_]) aE ag26 U B4 U U bI U (aF cL sz26 U U U U U B2 (by simp) sel3 (fun N2 B2=>?_))))))
 simp only [setL,List.set]at B2
 refine aB (s_11 (a0 ((bJ (bH (cI (L1:= [Np]) U (.cell U (bQ (ds:= [_,_,_,_]) ag26 B2 U U bI) .nil) (.cons _ (.refl _)) aJ ?_))))))
 have hl:l=false:=by rw [←o1];exact c9
 have h0:numE bs=0:=by omega
 have hx:v64 [wa,wb,wc,wd]<WW:=v64_lt4 rfl
 exact⟨Np,_,v64 [wa,wb,wc,wd],wo_list (w:= [wa,wb,wc,wd]) rfl,hx,rfl,hP,.inl ⟨by rw [et,hl,wordE_num,if_pos h0,hv,numV,if_pos h0],rfl⟩⟩
theorem smallE_bad {t:It} {x E E':Nat} (h:Stp E (wordE t) x E') (hx: ¬x<2^64):Stp E (smallE t) 0 (if E'=0 then 3 else E'):=by
 rcases h with ⟨h1,rfl⟩|⟨e,h1,h2,rfl⟩
 ·exact .inr ⟨3,by simp only [smallE,h1];rw [if_neg hx],by decide,rfl⟩
 ·refine .inr ⟨e,by simp only [smallE,h1],h2,?_⟩
  by_cases hE:E=0
  ·rw [if_pos hE,if_neg h2]
  ·rw [if_neg hE,if_neg hE]
theorem smallE_good {t:It} {x E E':Nat} (h:Stp E (wordE t) x E') (hx:x<2^64):Stp E (smallE t) x E':=by
 rcases h with ⟨h1,rfl⟩|⟨e,h1,h2,rfl⟩
 ·exact .inl ⟨by simp only [smallE,h1];rw [if_pos hx],rfl⟩
 ·exact .inr ⟨e,by simp only [smallE,h1],h2,rfl⟩
theorem rSmall_b {x:Nat} (hx:x<WW):Fn Tryz.prog 95 #[wo x] [] [] (fun v L=>v=.tuple #[.int .u64 ((if x<2^64 then x else 0:Nat):Int),.bool (decide (x<2^64))]∧L= []):=by
 by_cases h:x<2^64
 ·exact(rSmall_y hx h).mono fun v L hp=>⟨by rw [hp.1,if_pos h,decide_eq_true h],hp.2⟩
 ·exact(rSmall_no hx h).mono fun v L hp=>⟨by rw [hp.1,if_neg h,decide_eq_false h];rfl,hp.2⟩
theorem RSmall (h:PartsQ Np NI bp all i E) (hi:i≤9000000000000000000):Fn Tryz.prog 38 #[.pointer (some ⟨bp,0,none⟩)] [Np] [NI] (fun v L=> ∃Np E' x,v=.int .u64 ((x:Nat):Int)∧x<2^64∧L= [Np]∧PartsQ Np NI bp all (i+1) E'∧Stp E (smallE (nxt all i)) x E'):=by
 refine Fn.enter (vs:= [.pointer (some ⟨bp,0,none⟩)]) Tryz.func38 U U U ?_
 intro E R hR
 have hNR:=hR NI (by simp)
 change At _ _ E [Np,R] _
 refine aC fun _ s_1=>aA (aR U U (aB (s_1 (aC fun _ s_2=>aA (aH U U (cA cL (.cons U .nil) ((RWord h hi).liftB hNR) (F:= [R]) Tryz.func39 U U aJ (by simp) U ?_))))))
 rintro _ _ ⟨Np,E2,x,rfl,hx,rfl,hP,hst⟩
 show At _ _ _ [Np,R] _
 have hS:=rSmall_b hx;obtain⟨wa,wb,wc,wd,e4,_⟩:=wo_four hx;rw [e4]at hS⊢
 refine bK bU ze26 U (fun N3 b3 B3=>?_)
 change Blk N3 b3 _ [.int .u64 0,.int .u64 0,.int .u64 0,.int .u64 0]at B3
 refine aF cL sz26 U U U U U B3 (by simp) dB (fun N3 B3=>?_)
 simp only [setL,List.set]at B3
 refine aB (s_2 (aC fun _ s_3=>aA (aV (ds:= [_,_,_,_]) aE ag26 U B3 U U bI U (bD bU (.cons U .nil) (hS) Tryz.func95 U U (by simp) U ?_))))
 rintro _ _ ⟨rfl,rfl⟩
 show At _ _ _ [N3,Np,R] _
 refine aH U U (aO aE U U U (aO aE U U U (aR U U (aR U U (aB (s_3 (aC fun _ s_4=>aC fun _ s_5=>aA (aH U U (op_notP aE U U (aB (s_5 (aQ U (fun c14=>?_) (fun c14=>?_)))))))))))))
 ·refine aA (aH U U (aM (bO (aM (cA cL (.cons U (.cons U .nil)) (RWrong hP 3) (F:= [N3,R]) Tryz.func62 U U aJ (by simp) U ?_)))))
  rintro _ _ ⟨Np,rfl,rfl,hP⟩
  show At _ _ _ [Np,N3,R] _
  refine aB (s_4 (aC fun _ s_6=>aA (aH U U (aR U U (aB (s_6 (a0 ((bH (cI (L1:= [Np]) U (.tmp U .nil) (.refl _) aJ ?_))))))))))
  have hx2: ¬x<2^64:=by simpa using c14
  exact⟨Np,_,0,by rw [if_neg hx2],by decide,rfl,hP,smallE_bad hst hx2⟩
 refine aT (aI (s_4 (aC fun _ s_7=>aA (aH U U (aR U U (aB (s_7 (a0 ((cK (cI (L1:= [Np]) U (.tmp U .nil) (.refl _) aJ ?_)))))))))))
 have hx2:x<2^64:=by simpa using c14
 exact⟨Np,_,x,by rw [if_pos hx2],hx2,rfl,hP,smallE_good hst hx2⟩
def RawP (Np0:Heaplet) (NI:Heaplet) (bp:Nat) (all:List It) (i E:Nat) (r:Except Nat (List UInt8)) (v:Value) (L:List Heaplet):Prop:= ∃Np M a b c E',v=.slice a b.length c∧L= [Np,M]∧PartsQ Np NI bp all (i+1) E'∧(∀J:Heaplet,M.le J→NI.le J→RSl J 1 a b.length c (u8s b))∧Stp E r b E'∧(b.length=256∨r=.ok b)
def zer256:List UInt8:=List.replicate 256 0
theorem u8s_zer:List.replicate 256 (Value.int .u8 0)=u8s zer256:=by rw [zer256,u8s,List.map_replicate];rfl
theorem zer256_len:zer256.length=256:=List.length_replicate ..
theorem RRawFix (h:PartsQ Np NI bp all i E) (hi:i≤9000000000000000000) (k:Nat):Fn Tryz.prog 42 #[.pointer (some ⟨bp,0,none⟩),.int .i64 (k:Int)] [Np] [NI] (RawP Np NI bp all i E (fixE k (nxt all i))):=by
 refine Fn.enter (vs:= [.pointer (some ⟨bp,0,none⟩),.int .i64 (k:Int)]) Tryz.func42 U U U ?_
 intro E R hR
 have hNR:=hR NI (by simp)
 change At _ _ E [Np,R] _
 refine aC fun _ s_1=>aA (aR U U (aB (s_1 (aC fun _ s_2=>aA (aH U U (cA cL (.cons U .nil) ((RNext h hi).liftB hNR) (F:= [R]) Tryz.func40 U U aJ (by simp) U ?_))))))
 rintro _ _ ⟨Np,z,rfl,rfl,hP,hz⟩
 show At _ _ _ [Np,R] _
 obtain⟨l,bs,its,et,o1,o2,_⟩:=it_openQ hz;have o3:=o2.len8
 refine bK bU ze91 U (fun N5 b5 B5=>?_)
 change Blk N5 b5 _ [.bool false,.slice none 0 0,.slice none 0 0]at B5
 refine aF cL sz91 U U U U U B5 (by simp) dB (fun N5 B5=>?_)
 simp only [setL,List.set]at B5
 refine aB (s_2 (aC fun _ s_3=>aC fun _ s_4=>aA (aD aE fl91_0 U U (aK aE sc4 U B5 U bI U ?_))))
 refine aH U U (At.part (d:=10) U (fun g10=>?_) (fun g10=>?_))
 ·refine aU U U U U U U U (aU U U U U U U U (aU U U U U U U U (op_skipU U U U U U U (op_skipU U U U U U U (op_skipU U U U U U U (op_skipU U U U U U U (op_skipU U U U U U U (aU U U U U U U U (cH aE U U U (aB (s_4 (At.condT U (aC fun _ s_5=>aA (aH U U (aM (bO (aM (cA cL (.cons U (.cons U .nil)) (RWrong hP 2) (F:= [N5,R]) Tryz.func62 U U aJ (by simp) U ?_))))))))))))))))))
  rintro _ _ ⟨Np,rfl,rfl,hP⟩
  show At _ _ _ [Np,N5,R] _
  refine aB (s_5 (aC fun _ s_6=>aA ?_))
  refine op_make bU Tryz.underlying22 te5 U U (show _=(((256:Nat)):Int)from by omega) (show _=(((256:Nat)):Int)from by omega) (by omega) (by unfold maxLen;omega) U (fun N23 a23 r23=>?_)
  rw [made_one _ _ rfl]at r23
  have s23:=r23.rsl
  refine aR U U (aB (s_6 (a0 (aS ((bJ (aM (bO (aM (cI (L1:= [Np,N23]) U (.tmp U .nil) (.refl _) aJ ?_))))))))))
  have hl:l=true:=by rw [←o1];exact g10
  rw [u8s_zer]at r23
  exact⟨Np,N23,a23,zer256,256,_,by rw [zer256_len],rfl,hP,fun J h1 _=>by rw [zer256_len];exact r23.rsl.le h1,.inr ⟨2,by rw [et,hl];rfl,by decide,rfl⟩,.inl zer256_len⟩
 refine aP (bF U U U U) U U (op_geq (bF U U U U) U U U (aP (bF U U U U) U U (cB (d:=13) U (fun g13=>?_) (fun g13=>?_))))
 rotate_left
 ·exfalso;omega
 refine aD (bF U U U U) fl91_1 U U (aK (bF U U U U) sc22 U B5 U bI U ?_)
 refine cF (bF U U U U) se22 U U (aP (bF U U U U) U U (dG (bF U U U U) U U U (cH (bF U U U U) U U U (cE aE U U U (aB (s_4 (aQ U (fun c20=>?_) (fun c20=>?_))))))))
 ·refine aC fun _ s_7=>aA (aH U U (aM (bO (aM (cA cL (.cons U (.cons U .nil)) (RWrong hP 2) (F:= [N5,R]) Tryz.func62 U U aJ (by simp) U ?_)))))
  rintro _ _ ⟨Np,rfl,rfl,hP⟩
  show At _ _ _ [Np,N5,R] _
  refine aB (s_7 (aC fun _ s_8=>aA ?_))
  refine op_make bU Tryz.underlying22 te5 U U (show _=(((256:Nat)):Int)from by omega) (show _=(((256:Nat)):Int)from by omega) (by omega) (by unfold maxLen;omega) U (fun N23 a23 r23=>?_)
  rw [made_one _ _ rfl]at r23
  have s23:=r23.rsl
  refine aR U U (aB (s_8 (a0 (aS ((bJ (aM (bO (aM (cI (L1:= [Np,N23]) U (.tmp U .nil) (.refl _) aJ ?_))))))))))
  have hl:l=false:=by rw [←o1];exact g10
  rw [u8s_zer]at r23
  exact⟨Np,N23,a23,zer256,256,_,by rw [zer256_len],rfl,hP,fun J h1 _=>by rw [zer256_len];exact r23.rsl.le h1,.inr ⟨2,by rw [et,hl];show(if bs.length=k then _ else _)=_;rw [if_neg (by omega)],by decide,rfl⟩,.inl zer256_len⟩
 refine aT (aI (s_3 (aC fun _ s_9=>aA (aD aE fl91_1 U U (aK aE sc22 U B5 U bI U ?_)))))
 refine aR U U (aB (s_9 (a0 ((cV (bH (aM (bO (aM (cI (L1:= [Np,nilH]) U (.tmp U .nil) (.refl _) aJ ?_))))))))))
 have hl:l=false:=by rw [←o1];exact g10
 have hok:fixE k (nxt all i)=.ok bs:=by rw [et,hl];show(if bs.length=k then _ else _)=_;rw [if_pos (by omega)]
 exact⟨Np,nilH,z.ab,bs,z.cb,_,by rw [o3],rfl,hP,fun J _ h2=>by rw [o3];exact o2.le h2,.inl ⟨hok,rfl⟩,.inr hok⟩
theorem RRawAny (h:PartsQ Np NI bp all i E) (hi:i≤9000000000000000000):Fn Tryz.prog 42 #[.pointer (some ⟨bp,0,none⟩),.int .i64 (-1)] [Np] [NI] (RawP Np NI bp all i E (strE (nxt all i))):=by
 refine Fn.enter (vs:= [.pointer (some ⟨bp,0,none⟩),.int .i64 (-1)]) Tryz.func42 U U U ?_
 intro E R hR
 have hNR:=hR NI (by simp)
 change At _ _ E [Np,R] _
 refine aC fun _ s_1=>aA (aR U U (aB (s_1 (aC fun _ s_2=>aA (aH U U (cA cL (.cons U .nil) ((RNext h hi).liftB hNR) (F:= [R]) Tryz.func40 U U aJ (by simp) U ?_))))))
 rintro _ _ ⟨Np,z,rfl,rfl,hP,hz⟩
 show At _ _ _ [Np,R] _
 obtain⟨l,bs,its,et,o1,o2,_⟩:=it_openQ hz;have o3:=o2.len8
 refine bK bU ze91 U (fun N5 b5 B5=>?_)
 change Blk N5 b5 _ [.bool false,.slice none 0 0,.slice none 0 0]at B5
 refine aF cL sz91 U U U U U B5 (by simp) dB (fun N5 B5=>?_)
 simp only [setL,List.set]at B5
 refine aB (s_2 (aC fun _ s_3=>aC fun _ s_4=>aA (aD aE fl91_0 U U (aK aE sc4 U B5 U bI U ?_))))
 refine aH U U (At.part (d:=10) U (fun g10=>?_) (fun g10=>?_))
 ·refine aU U U U U U U U (aU U U U U U U U (aU U U U U U U U (op_skipU U U U U U U (op_skipU U U U U U U (op_skipU U U U U U U (op_skipU U U U U U U (op_skipU U U U U U U (aU U U U U U U U (cH aE U U U (aB (s_4 (At.condT U (aC fun _ s_5=>aA (aH U U (aM (bO (aM (cA cL (.cons U (.cons U .nil)) (RWrong hP 2) (F:= [N5,R]) Tryz.func62 U U aJ (by simp) U ?_))))))))))))))))))
  rintro _ _ ⟨Np,rfl,rfl,hP⟩
  show At _ _ _ [Np,N5,R] _
  refine aB (s_5 (aC fun _ s_6=>aA ?_))
  refine op_make bU Tryz.underlying22 te5 U U (show _=(((256:Nat)):Int)from by omega) (show _=(((256:Nat)):Int)from by omega) (by omega) (by unfold maxLen;omega) U (fun N23 a23 r23=>?_)
  rw [made_one _ _ rfl]at r23
  have s23:=r23.rsl
  refine aR U U (aB (s_6 (a0 (aS ((bJ (aM (bO (aM (cI (L1:= [Np,N23]) U (.tmp U .nil) (.refl _) aJ ?_))))))))))
  have hl:l=true:=by rw [←o1];exact g10
  rw [u8s_zer]at r23
  exact⟨Np,N23,a23,zer256,256,_,by rw [zer256_len],rfl,hP,fun J h1 _=>by rw [zer256_len];exact r23.rsl.le h1,.inr ⟨2,by rw [et,hl];rfl,by decide,rfl⟩,.inl zer256_len⟩
 refine aP (bF U U U U) U U (op_geq (bF U U U U) U U U (aP (bF U U U U) U U (cB (d:=13) U (fun g13=>?_) (fun g13=>?_))))
 ·exfalso;omega
 refine aU U U U U U U U (aU U U U U U U U (aU U U U U U U U (aU U U U U U U U (aU U U U U U U U (cE (bF U U U U) U U U (cE aE U U U (aB (s_4 (dA U (aT (aI (s_3 (aC fun _ s_7=>aA (aD aE fl91_1 U U (aK aE sc22 U B5 U bI U ?_)))))))))))))))
 refine aR U U (aB (s_7 (a0 ((cV (bH (aM (bO (aM (cI (L1:= [Np,nilH]) U (.tmp U .nil) (.refl _) aJ ?_))))))))))
 have hl:l=false:=by rw [←o1];exact g10
 have hok:strE (nxt all i)=.ok bs:=by rw [et,hl];rfl
 exact⟨Np,nilH,z.ab,bs,z.cb,_,by rw [o3],rfl,hP,fun J _ h2=>by rw [o3];exact o2.le h2,.inl ⟨hok,rfl⟩,.inr hok⟩
def fillR (k:Nat) (h:List UInt8) (i:Nat):List UInt8:=h.take i++List.replicate (k- i) 0
theorem fillR_len {k:Nat} {h:List UInt8} (hh:k≤h.length) {i:Nat} (hi:i≤k):(fillR k h i).length=k:=by
 rw [fillR,List.length_append,List.length_take,List.length_replicate];omega
theorem fillR_set {k:Nat} {h:List UInt8} (hh:k≤h.length) {i:Nat} (hi:i<k):(fillR k h i).set i (h.getD i 0)=fillR k h (i+1):=by
 have hl:(h.take i).length=i:=by rw [List.length_take];omega
 rw [fillR,List.set_append_right _ _ (by omega),hl,Nat.sub_self,show k- i=(k- (i+1))+1 by omega,List.replicate_succ,List.set_cons_zero,fillR,List.take_add_one,List.getElem?_eq_getElem (show i<h.length by omega),List.getD_eq_getElem?_getD,List.getElem?_eq_getElem (show i<h.length by omega),List.append_assoc]
 rfl
theorem fillR_all (k:Nat) (h:List UInt8):fillR k h k=h.take k:=by
 rw [fillR,Nat.sub_self,List.replicate_zero,List.append_nil]
theorem fix_len {k:Nat} {t:It} {b:List UInt8} (h:fixE k t=.ok b):b.length=k:=by
 unfold fixE at h
 split at h
 ·split at h
  ·rename_i b' _ hk
   cases h;exact hk
  ·cases h
 ·cases h
theorem stp_take {k:Nat} {t:It} {b:List UInt8} {E':Nat} (h:Stp E (fixE k t) b E'):Stp E (fixE k t) (b.take k) E':=by
 rcases h with ⟨h1,h2⟩|⟨e,h1,h2⟩
 ·exact .inl ⟨by rw [List.take_of_length_le (by rw [fix_len h1];exact Nat.le_refl _)];exact h1,h2⟩
 ·exact .inr ⟨e,h1,h2⟩
def ArrP (Np0 NI:Heaplet) (bp:Nat) (all:List It) (i E k:Nat) (v:Value) (L:List Heaplet):Prop:= ∃Np b E',v=.agg (u8s b).toArray∧b.length=k∧L= [Np]∧PartsQ Np NI bp all (i+1) E'∧Stp E (fixE k (nxt all i)) b E'
theorem RHash (h:PartsQ Np NI bp all i E) (hi:i≤9000000000000000000):Fn Tryz.prog 97 #[.pointer (some ⟨bp,0,none⟩)] [Np] [NI] (ArrP Np NI bp all i E 32):=by
 refine Fn.enter (vs:= [.pointer (some ⟨bp,0,none⟩)]) Tryz.func97 U U U ?_
 intro E R hR
 have hNR:=hR NI (by simp)
 change At _ _ E [Np,R] _
 refine aC fun _ s_1=>aA (bK bU ze40 U (fun N2 b2 B2=>?_))
 change Blk N2 b2 _ [.int .u8 0,.int .u8 0,.int .u8 0,.int .u8 0,.int .u8 0,.int .u8 0,.int .u8 0,.int .u8 0,.int .u8 0,.int .u8 0,.int .u8 0,.int .u8 0,.int .u8 0,.int .u8 0,.int .u8 0,.int .u8 0,.int .u8 0,.int .u8 0,.int .u8 0,.int .u8 0,.int .u8 0,.int .u8 0,.int .u8 0,.int .u8 0,.int .u8 0,.int .u8 0,.int .u8 0,.int .u8 0,.int .u8 0,.int .u8 0,.int .u8 0,.int .u8 0]at B2
 refine aB (s_1 (aC fun _ s_2=>aA (bK bU ze40 U (fun N3 b3 B3=>?_))))
 change Blk N3 b3 _ [.int .u8 0,.int .u8 0,.int .u8 0,.int .u8 0,.int .u8 0,.int .u8 0,.int .u8 0,.int .u8 0,.int .u8 0,.int .u8 0,.int .u8 0,.int .u8 0,.int .u8 0,.int .u8 0,.int .u8 0,.int .u8 0,.int .u8 0,.int .u8 0,.int .u8 0,.int .u8 0,.int .u8 0,.int .u8 0,.int .u8 0,.int .u8 0,.int .u8 0,.int .u8 0,.int .u8 0,.int .u8 0,.int .u8 0,.int .u8 0,.int .u8 0,.int .u8 0]at B3
 refine aB (s_2 (aC fun _ s_3=>aA (aH U U (aN (aM (aM (aN (cA cL (.cons U (.cons U .nil)) ((RRawFix h hi 32).liftB hNR) (F:= [N3,N2,R]) Tryz.func42 U U aJ (by simp) U ?_))))))))
 rintro _ _ ⟨Np,M,a,b,c,E2,rfl,rfl,hP,hb0,hst,hbl⟩
 show At _ _ _ [Np,M,N3,N2,R] _
 have hlen:32≤b.length:=(hbl.elim (fun z=>by omega) fun z=>by rw [fix_len z];exact Nat.le_refl _);have hb: ∀J:Heaplet,(∀N∈ [M,R],N.le J)→RSl J 1 a b.length c (u8s b):=(fun J hJ=>hb0 J (hJ M (by simp)) (Heaplet.le_trans hNR (hJ R (by simp))));refine At.ex (Ns:= [M,R]) hb (two_mem (by simp) (by simp)) fun JX sJ=>?_;have hcJ:=sJ.cap63;have htl:(b.take 32).length=32:=(by rw [List.length_take];omega);have hul2:(u8s (b.take 32)).length=32:=(by rw [u8s,List.length_map,htl])
 refine aR U U (aB (s_3 (aC fun _ s_4=>aC fun _ s_5=>aA (aR U U (aB (s_5 (bZ ?_)))))))
 change Blk N3 b3 _ (u8s (fillR 32 b 0))at B3
 refine At.loop (fun fr_ hp_ ms_=> ∃(j:Nat) (N3:Heaplet),fr_= [(2,.pointer (some ⟨b2,0,none⟩)),(3,.pointer (some ⟨b3,0,none⟩)),(4,.slice a b.length c),(5,.int .i64 (j:Int))]∧hp_= [Np,M,N3,N2,R]∧32- j=ms_∧(j≤32)∧(Blk N3 b3 40 (u8s (fillR 32 b j)))) ?_ aJ ⟨0,N3,rfl,rfl,rfl,Nat.zero_le _,B3⟩ ?_
 ·repeat first|apply cW|exact .nil|exact lkI rfl (by omega)|rfl
 rintro _ _ _ ⟨j,N3,rfl,rfl,rfl,hj,B3⟩
 refine aC fun _ s_6=>aC fun _ s_7=>aA (aH U U (op_lss aE U U U (aB (s_7 (aQ U (fun c9=>?_) (fun c9=>?_))))))
 ·have hfl:=fillR_len hlen hj
  have hul:(u8s (fillR 32 b j)).length=32:=by simp [u8s,hfl]
  refine aT (aI (s_6 (aC fun _ s_8=>bZ (aA (aH U U (aH U U (aH U U (cZ aE se22 U U sJ (show _=(((j:Nat)):Int)from by omega) (by omega) U ?_))))))))
  refine op_loadM aE sc5 U (hb) (by first|exact get8 (by omega)|exact get64 (by omega)|exact get32 (by omega)) (two_mem (by simp) (by simp)) U ?_
  refine dD aE ae40 U U (show _=(((j:Nat)):Int)from by omega) (by omega) U ?_
  refine aF cL sz5 U U U U U B3 (by simp<;>omega) sel2 (fun N3 B3=>?_)
  rw [set8A]at B3
  refine cX (cS (aI (s_8 (aA (aH U U (cU aE U U (by omega) (by omega) U (aR U U (aB (aL (aL (aM (aL (aL ?_)))))))))))))
  refine At.back ?_ aJ ⟨j+1,N3,rfl,rfl,rfl,by omega,by rw [fillR_set hlen (by omega)]at B3;exact B3⟩ ?_
  ·repeat first|apply cW|exact .nil|exact lkI rfl (by omega)|rfl
  ·omega
 have hj2:j=32:=by omega
 subst hj2
 rw [fillR_all]at B3
 refine At.exit (bB (bB (dE (aI (s_4 (aC fun _ s_9=>aA (aV (ds:=u8s (b.take 32)) aE ag40 U B3 (by exact bY hul2) (by exact hul2) mem2 U ?_)))))))
 refine aF cL sz40 U U U hul2 (all8x2 _) B2 (by rw [hul2];exact Nat.le_refl _) sel3 (fun N2 B2=>?_)
 rw [bG (by rw [hul2];rfl)]at B2
 refine aB (s_9 (a0 ((bW (bJ (cI (L1:= [Np]) U (.cell U (bQ (ds:=u8s (b.take 32)) ag40 B2 (bY hul2) hul2 bI) .nil) (.cons _ (.refl _)) aJ ?_))))))
 exact⟨Np,b.take 32,E2,rfl,htl,rfl,hP,stp_take hst⟩
theorem RAddr (h:PartsQ Np NI bp all i E) (hi:i≤9000000000000000000):Fn Tryz.prog 41 #[.pointer (some ⟨bp,0,none⟩)] [Np] [NI] (ArrP Np NI bp all i E 20):=by
 refine Fn.enter (vs:= [.pointer (some ⟨bp,0,none⟩)]) Tryz.func41 U U U ?_
 intro E R hR
 have hNR:=hR NI (by simp)
 change At _ _ E [Np,R] _
 refine aC fun _ s_1=>aA (bK bU ze28 U (fun N2 b2 B2=>?_))
 change Blk N2 b2 _ [.int .u8 0,.int .u8 0,.int .u8 0,.int .u8 0,.int .u8 0,.int .u8 0,.int .u8 0,.int .u8 0,.int .u8 0,.int .u8 0,.int .u8 0,.int .u8 0,.int .u8 0,.int .u8 0,.int .u8 0,.int .u8 0,.int .u8 0,.int .u8 0,.int .u8 0,.int .u8 0]at B2
 refine aB (s_1 (aC fun _ s_2=>aA (bK bU ze28 U (fun N3 b3 B3=>?_))))
 change Blk N3 b3 _ [.int .u8 0,.int .u8 0,.int .u8 0,.int .u8 0,.int .u8 0,.int .u8 0,.int .u8 0,.int .u8 0,.int .u8 0,.int .u8 0,.int .u8 0,.int .u8 0,.int .u8 0,.int .u8 0,.int .u8 0,.int .u8 0,.int .u8 0,.int .u8 0,.int .u8 0,.int .u8 0]at B3
 refine aB (s_2 (aC fun _ s_3=>aA (aH U U (aN (aM (aM (aN (cA cL (.cons U (.cons U .nil)) ((RRawFix h hi 20).liftB hNR) (F:= [N3,N2,R]) Tryz.func42 U U aJ (by simp) U ?_))))))))
 rintro _ _ ⟨Np,M,a,b,c,E2,rfl,rfl,hP,hb0,hst,hbl⟩
 show At _ _ _ [Np,M,N3,N2,R] _
 have hlen:20≤b.length:=(hbl.elim (fun z=>by omega) fun z=>by rw [fix_len z];exact Nat.le_refl _);have hb: ∀J:Heaplet,(∀N∈ [M,R],N.le J)→RSl J 1 a b.length c (u8s b):=(fun J hJ=>hb0 J (hJ M (by simp)) (Heaplet.le_trans hNR (hJ R (by simp))));refine At.ex (Ns:= [M,R]) hb (two_mem (by simp) (by simp)) fun JX sJ=>?_;have hcJ:=sJ.cap63;have htl:(b.take 20).length=20:=(by rw [List.length_take];omega);have hul2:(u8s (b.take 20)).length=20:=(by rw [u8s,List.length_map,htl])
 refine aR U U (aB (s_3 (aC fun _ s_4=>aC fun _ s_5=>aA (aR U U (aB (s_5 (bZ ?_)))))))
 change Blk N3 b3 _ (u8s (fillR 20 b 0))at B3
 refine At.loop (fun fr_ hp_ ms_=> ∃(j:Nat) (N3:Heaplet),fr_= [(2,.pointer (some ⟨b2,0,none⟩)),(3,.pointer (some ⟨b3,0,none⟩)),(4,.slice a b.length c),(5,.int .i64 (j:Int))]∧hp_= [Np,M,N3,N2,R]∧20- j=ms_∧(j≤20)∧(Blk N3 b3 28 (u8s (fillR 20 b j)))) ?_ aJ ⟨0,N3,rfl,rfl,rfl,Nat.zero_le _,B3⟩ ?_
 ·repeat first|apply cW|exact .nil|exact lkI rfl (by omega)|rfl
 rintro _ _ _ ⟨j,N3,rfl,rfl,rfl,hj,B3⟩
 refine aC fun _ s_6=>aC fun _ s_7=>aA (aH U U (op_lss aE U U U (aB (s_7 (aQ U (fun c9=>?_) (fun c9=>?_))))))
 ·have hfl:=fillR_len hlen hj
  have hul:(u8s (fillR 20 b j)).length=20:=by simp [u8s,hfl]
  refine aT (aI (s_6 (aC fun _ s_8=>bZ (aA (aH U U (aH U U (aH U U (cZ aE se22 U U sJ (show _=(((j:Nat)):Int)from by omega) (by omega) U ?_))))))))
  refine op_loadM aE sc5 U (hb) (by first|exact get8 (by omega)|exact get64 (by omega)|exact get32 (by omega)) (two_mem (by simp) (by simp)) U ?_
  refine dD aE ae28 U U (show _=(((j:Nat)):Int)from by omega) (by omega) U ?_
  refine aF cL sz5 U U U U U B3 (by simp<;>omega) sel2 (fun N3 B3=>?_)
  rw [set8A]at B3
  refine cX (cS (aI (s_8 (aA (aH U U (cU aE U U (by omega) (by omega) U (aR U U (aB (aL (aL (aM (aL (aL ?_)))))))))))))
  refine At.back ?_ aJ ⟨j+1,N3,rfl,rfl,rfl,by omega,by rw [fillR_set hlen (by omega)]at B3;exact B3⟩ ?_
  ·repeat first|apply cW|exact .nil|exact lkI rfl (by omega)|rfl
  ·omega
 have hj2:j=20:=by omega
 subst hj2
 rw [fillR_all]at B3
 refine At.exit (bB (bB (dE (aI (s_4 (aC fun _ s_9=>aA (aV (ds:=u8s (b.take 20)) aE ag28 U B3 (by exact bY hul2) (by exact hul2) mem2 U ?_)))))))
 refine aF cL sz28 U U U hul2 (all8x2 _) B2 (by rw [hul2];exact Nat.le_refl _) sel3 (fun N2 B2=>?_)
 rw [bG (by rw [hul2];rfl)]at B2
 refine aB (s_9 (a0 ((bW (bJ (cI (L1:= [Np]) U (.cell U (bQ (ds:=u8s (b.take 20)) ag28 B2 (bY hul2) hul2 bI) .nil) (.cons _ (.refl _)) aJ ?_))))))
 exact⟨Np,b.take 20,E2,rfl,htl,rfl,hP,stp_take hst⟩
theorem parts_if (h:PartsQ Np NI bp all i E):PartsQ Np NI bp all i (if E=0 then 0 else E):=by
 by_cases hE:E=0
 ·rw [if_pos hE];rw [hE]at h;exact h
 ·rw [if_neg hE];exact h
theorem RWrong0 {Nq NI2:Heaplet} {bq i2 E2:Nat} {all2:List It} (h:PartsQ Np NI bp all i E) (hq:PartsQ Nq NI2 bq all2 i2 E2):Fn Tryz.prog 63 #[.pointer (some ⟨bp,0,none⟩),.pointer (some ⟨bq,0,none⟩)] [Np] [Nq] (fun v L=> ∃Np,v=.tuple #[]∧L= [Np]∧PartsQ Np NI bp all i (if E=0 then E2 else E)):=by
 obtain⟨ao,n,cap,xs,Bq,hs,hX⟩:=hq
 refine Fn.enter (vs:= [.pointer (some ⟨bp,0,none⟩),.pointer (some ⟨bq,0,none⟩)]) Tryz.func63 U U U ?_
 intro E R hR
 have BR:=Bq.le (hR Nq (by simp))
 change At _ _ E [Np,R] _
 refine aC fun _ s_1=>aA (aH U U (aW aE U U (aD aE fl105_2 U U (aK aE sc3 U BR U mem1 U ?_))))
 refine dG aE U U U (aB (s_1 (aQ U (fun c8=>?_) (fun c8=>?_))))
 ·refine aA (aH U U (aH U U (aW aE U U (aD aE fl105_2 U U (aK aE sc3 U BR U mem1 U ?_)))))
  refine cA cL (.cons U (.cons U .nil)) (RWrong h E2) (F:= [R]) Tryz.func62 U U aJ (by simp) U ?_
  rintro _ _ ⟨Np,rfl,rfl,hP⟩
  show At _ _ _ [Np,R] _
  refine cX (At.retNE (L1:= [Np]) U .nil U (.refl _) aJ ?_)
  exact⟨Np,rfl,rfl,hP⟩
 refine aT (At.retNE (L1:= [Np]) U .nil U (.refl _) aJ ?_)
 have e:E2=0:=by omega
 exact⟨Np,rfl,rfl,by rw [e];exact parts_if h⟩
end
end Go.Proofs.YtjfagifjajielaaGreat
