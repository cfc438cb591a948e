/- Several texts in one: see the remarks ahead of each part. No condition but those told there. -/
import Derived.Test.YtjfagifjajielaaGreatU15
import Derived.Test.YtjfagifjajielaaGreatU10
import Derived.Test.YtjfagifjajielaaGreatU14
set_option linter.unusedSimpArgs false
set_option linter.unusedVariables false
/- Many slices of bytes in one part of the memory, each with a block of its own. For whatever program. No condition. -/
namespace Go.Proofs.YtjfagifjajielaaGreat
open Go Go.RowKit
/-- Slices of bytes, each with a block of its own. -/
structure Bag (e:TypeId) (N:Heaplet) (vs:List Value) (xs:List (List UInt8)):Prop where
 len:vs.length=xs.length
 row: ∀(i:Nat) (x:List UInt8),xs[i]? =some x→ ∃p c,vs[i]? =some (Value.slice p x.length c)∧Row N e 1 p x.length c (u8s x)
 apart: ∀(i j:Nat) (p q:Option Addr) (n m c d:Nat),i≠j→vs[i]? =some (Value.slice p n c)→vs[j]? =some (Value.slice q m d)→p=none∨p≠q
/-- Slices of bytes that can be read. -/
structure Bags (N:Heaplet) (vs:List Value) (xs:List (List UInt8)):Prop where
 len:vs.length=xs.length
 rsl: ∀(i:Nat) (x:List UInt8),xs[i]? =some x→ ∃p c,vs[i]? =some (Value.slice p x.length c)∧RSl N 1 p x.length c (u8s x)
theorem Bag.nil (e:TypeId) (N:Heaplet):Bag e N [] []:=⟨rfl,fun i x h=>by simp at h,fun i j p q n m c d _ h=>by simp at h⟩
theorem Bags.nil (N:Heaplet):Bags N [] []:=⟨rfl,fun i x h=>by simp at h⟩
theorem Bags.le {N M:Heaplet} {vs:List Value} {xs:List (List UInt8)} (h:Bags N vs xs) (hl:N.le M):Bags M vs xs:=⟨h.len,fun i x hx=>let ⟨p,c,h1,h2⟩:=h.rsl i x hx;⟨p,c,h1,h2.le hl⟩⟩
theorem Bag.le {e:TypeId} {N M:Heaplet} {vs:List Value} {xs:List (List UInt8)} (h:Bag e N vs xs) (hl:N.le M):Bag e M vs xs:=⟨h.len,fun i x hx=>let ⟨p,c,h1,h2⟩:=h.row i x hx;⟨p,c,h1,h2.le hl⟩,h.apart⟩
theorem snoc_get {α:Type} {xs:List α} {y z:α} {i:Nat} (h:(xs++ [y])[i]? =some z):(i<xs.length∧xs[i]? =some z)∨(i=xs.length∧z=y):=by
 rcases Nat.lt_or_ge i xs.length with hi|hi
 ·rw [List.getElem?_append_left hi]at h;exact .inl ⟨hi,h⟩
 ·rw [List.getElem?_append_right hi]at h
  rcases Nat.eq_zero_or_pos (i- xs.length)with h0|h0
  ·rw [h0]at h;simp at h;exact .inr ⟨by omega,h.symm⟩
  ·rw [List.getElem?_eq_none (by simp;omega)]at h;cases h
theorem get_snoc_l {α:Type} {xs:List α} {y z:α} {i:Nat} (h:xs[i]? =some z):(xs++ [y])[i]? =some z:=by
 rw [List.getElem?_append_left (List.getElem?_eq_some_iff.1 h).1];exact h
theorem get_snoc_r {α:Type} {xs:List α} {y:α} {i:Nat} (h:i=xs.length):(xs++ [y])[i]? =some y:=by subst h;simp
theorem Bags.snoc {N M:Heaplet} {vs:List Value} {xs:List (List UInt8)} {x:List UInt8} {p:Option Addr} {c:Nat} (h:Bags N vs xs) (hr:RSl M 1 p x.length c (u8s x)) (ha:Apart M N):Bags (join2 M N) (vs++ [Value.slice p x.length c]) (xs++ [x]):=by
 refine⟨by simp [h.len],fun i y hy=>?_⟩
 rcases snoc_get hy with ⟨hi,hy⟩|⟨hi,rfl⟩
 ·obtain⟨q,d,h1,h2⟩:=h.rsl i y hy
  exact⟨q,d,get_snoc_l h1,h2.le (join2_right ha)⟩
 ·exact⟨p,c,get_snoc_r (by rw [hi,h.len]),hr.le join2_left⟩
theorem Bag.snoc {e:TypeId} {N M:Heaplet} {vs:List Value} {xs:List (List UInt8)} {x:List UInt8} {p:Option Addr} {c:Nat} (h:Bag e N vs xs) (hr:Row M e 1 p x.length c (u8s x)) (ha:Apart M N):Bag e (join2 M N) (vs++ [Value.slice p x.length c]) (xs++ [x]):=by
 have old: ∀i q m d,i<vs.length→vs[i]? =some (Value.slice q m d)→p=none∨q=none∨p≠q:=fun i q m d hi hv=>by
  obtain⟨y,hy⟩: ∃y,xs[i]? =some y:=⟨_,List.getElem?_eq_getElem (by rw [←h.len];exact hi)⟩
  obtain⟨q',d',h1,h2⟩:=h.row i y hy
  rw [hv]at h1
  simp only [Option.some.injEq,Value.slice.injEq]at h1
  obtain⟨rfl,rfl,rfl⟩:=h1
  rcases hr.block with ⟨hp,_⟩|⟨b,o,hp,hb⟩
  ·exact .inl hp
  ·rcases h2.block with ⟨hq,_⟩|⟨b',o',hq,hb'⟩
   ·exact .inr (.inl hq)
   ·refine .inr (.inr fun e=>?_)
    rw [hp,hq]at e
    cases e
    rcases ha b with h|h
    ·rw [hb]at h;cases h
    ·rw [hb']at h;cases h
 refine⟨by simp [h.len],fun i y hy=>?_,fun i j q r n m c' d hij hi hj=>?_⟩
 ·rcases snoc_get hy with ⟨hi,hy⟩|⟨hi,rfl⟩
  ·obtain⟨q,d,h1,h2⟩:=h.row i y hy
   exact⟨q,d,get_snoc_l h1,h2.le (join2_right ha)⟩
  ·exact⟨p,c,get_snoc_r (by rw [hi,h.len]),hr.le join2_left⟩
 ·rcases snoc_get hi with ⟨li,hi'⟩|⟨li,hi'⟩<;>rcases snoc_get hj with ⟨lj,hj'⟩|⟨lj,hj'⟩
  ·exact h.apart i j q r n m c' d hij hi' hj'
  ·simp only [Value.slice.injEq]at hj'
   obtain⟨rfl,_⟩:=hj'
   rcases old i q n c' li hi' with h|h|h
   ·by_cases hq:q=none
    ·exact .inl hq
    ·exact .inr fun e=>hq (e.trans h)
   ·exact .inl h
   ·exact .inr fun e=>h e.symm
  ·simp only [Value.slice.injEq]at hi'
   obtain⟨rfl,_⟩:=hi'
   rcases old j r m d lj hj' with h|h|h
   ·exact .inl h
   ·by_cases hq:q=none
    ·exact .inl hq
    ·exact .inr fun e=>hq (e.trans h)
   ·exact .inr h
  ·omega
/-- One of them is written. -/
theorem Bag.set {e:TypeId} {N N':Heaplet} {vs:List Value} {xs:List (List UInt8)} {i n c:Nat} {x:List UInt8} {p:Option Addr} (h:Bag e N vs xs) (hv:vs[i]? =some (Value.slice p n c)) (hr:Row N' e 1 p n c (u8s x)) (ho:Off p N N'):Bag e N' vs (xs.set i x):=by
 refine⟨by simp [h.len],fun j y hy=>?_,h.apart⟩
 by_cases hij:i=j
 ·subst hij
  have hlt:i<xs.length:=by
   have:=(List.getElem?_eq_some_iff.1 hy).1
   simpa using this
  rw [List.getElem?_set_self hlt]at hy
  cases hy
  have hlen:x.length=n:=by have:=hr.1;simpa using this
  subst hlen
  exact⟨p,c,hv,hr⟩
 ·rw [List.getElem?_set_ne hij]at hy
  obtain⟨q,d,h1,h2⟩:=h.row j y hy
  exact⟨q,d,h1,h2.off ho (h.apart j i q p _ _ _ _ (fun e=>hij e.symm) h1 hv)⟩
/-! Parts of the memory put together. -/
def joinL:List Heaplet→Heaplet
 | []=>nilH
 |N::t=>join2 N (joinL t)
theorem apart_joinL {A:Heaplet} : ∀ {Ns:List Heaplet},(∀N∈Ns,Apart A N)→Apart A (joinL Ns):=by
 intro Ns
 induction Ns with
 |nil=>intro _ k;exact .inr rfl
 |cons N t ih=>
  intro h k
  rcases h N (by simp) k with h1|h1
  ·exact .inl h1
  ·rcases ih (fun M hM=>h M (by simp [hM])) k with h2|h2
   ·exact .inl h2
   ·exact .inr (by simp [joinL,join2,h1,h2])
theorem Hp.packL {E:World} {w:World} : ∀ {Ns L:List Heaplet},Hp E (Ns++L) w→Hp E (joinL Ns::L) w:=by
 intro Ns
 induction Ns with
 |nil=>
  intro L h
  exact⟨h.os,h.tape,h.output,fun N hN=>by
   rcases List.mem_cons.1 hN with rfl|hN
   ·intro k o hk;cases hk
   ·exact h.sub N hN,by rw [List.pairwise_cons];exact⟨fun _ _ _=>.inl rfl,h.sep⟩⟩
 |cons N t ih=>
  intro L h
  have h1:Hp E (t++(N::L)) w:=h.perm (List.perm_middle.symm)
  exact((ih h1).perm (.swap ..)).merge
theorem le_joinL {Ns:List Heaplet} (hs:Ns.Pairwise Apart) {N:Heaplet} (hN:N∈Ns):N.le (joinL Ns):=by
 induction Ns with
 |nil=>cases hN
 |cons A t ih=>
  have hp:=List.pairwise_cons.1 hs
  rcases List.mem_cons.1 hN with rfl|hN
  ·exact join2_left
  ·exact Heaplet.le_trans (ih hp.2 hN) (join2_right (apart_joinL hp.1))
theorem Hp.unpackL {E:World} {L:List Heaplet} {w:World} {Ns:List Heaplet} (hs:Ns.Pairwise Apart) (h:Hp E (joinL Ns::L) w):Hp E (Ns++L) w:=by
 have hp:=List.pairwise_cons.1 h.sep
 refine⟨h.os,h.tape,h.output,fun N hN=>?_,?_⟩
 ·rcases List.mem_append.1 hN with hN|hN
  ·exact Heaplet.le_trans (le_joinL hs hN) (h.sub _ (by simp))
  ·exact h.sub N (by simp [hN])
 ·rw [List.pairwise_append]
  exact⟨hs,hp.2,fun a ha b hb=>(hp.1 b hb).le (le_joinL hs ha) (Heaplet.le_refl _)⟩
/-- A function's own parts of the memory, handed over as one. -/
theorem Fn.pack {P:Program} {f:FuncId} {args:Array Value} {L0 Lr:List Heaplet} {Post Post':Value→List Heaplet→Prop} {As:List Heaplet} (hA:As.Pairwise Apart) (h:Fn P f args (As++L0) Lr Post)
 (hp: ∀v L,Post v L→ ∃Bs L1,L=Bs++L1∧(Bs.Pairwise Apart→Post' v (joinL Bs::L1))):Fn P f args (joinL As::L0) Lr Post':=by
 intro E w R hw hr
 have hw2:Hp E (As++L0++ [R]) w:=by
  rw [List.append_assoc]
  exact hw.unpackL hA
 refine(h E w R hw2 hr).mono ?_
 rintro e w' ⟨v,L,rfl,hP,hh⟩
 obtain⟨Bs,L1,rfl,hq⟩:=hp v L hP
 rw [List.append_assoc]at hh
 have hs:=(List.pairwise_append.1 hh.sep).1
 exact⟨v,_,rfl,hq hs,hh.packL⟩
end Go.Proofs.YtjfagifjajielaaGreat
/- rlp.decode, rlp.Decode: what they give is the caller's own. No condition but that bytes are not longer than a machine holds. -/
namespace Go.Proofs.YtjfagifjajielaaGreat
open Go Go.RowKit
def It.bytes:It→List UInt8
 |.mk _ bs _=>bs
def It.items:It→List It
 |.mk _ _ its=>its
def slB (x:IV):Value:=.slice x.ab x.nb x.cb
mutual
/-- Below each list of the item the items' bytes lie in blocks of their own. -/
def DepB (M:Heaplet):It→IV→Prop
 |.mk _ _ its,x=> ∃xs,RSl M 3 x.ai x.ni x.ci (cellsI xs)∧Bag 5 M (xs.map slB) (its.map It.bytes)∧DepBs M its xs
def DepBs (M:Heaplet):List It→List IV→Prop
 | [],xs=>xs= []
 |t::ts,xs=> ∃x r,xs=x::r∧DepB M t x∧DepBs M ts r
end
mutual
theorem DepB.le {N M:Heaplet} (hl:N.le M): ∀ {t:It} {x:IV},DepB N t x→DepB M t x
 |.mk l bs its,x,h=>by
  simp only [DepB]at h⊢
  obtain⟨xs,h1,h2,h3⟩:=h
  exact⟨xs,h1.le hl,h2.le hl,DepBs.le hl h3⟩
theorem DepBs.le {N M:Heaplet} (hl:N.le M): ∀ {ts:List It} {xs:List IV},DepBs N ts xs→DepBs M ts xs
 | [],xs,h=>by simp only [DepBs]at h⊢;exact h
 |t::ts,xs,h=>by
  simp only [DepBs]at h⊢
  obtain⟨x,r,h1,h2,h3⟩:=h
  exact⟨x,r,h1,DepB.le hl h2,DepBs.le hl h3⟩
end
theorem DepBs.nil (M:Heaplet):DepBs M [] []:=by simp only [DepBs]
theorem DepBs.snoc {M:Heaplet} : ∀ {ts:List It} {xs:List IV} {t:It} {x:IV},DepBs M ts xs→DepB M t x→DepBs M (ts++ [t]) (xs++ [x])
 | [],xs,t,x,h,k=>by
  simp only [DepBs]at h
  subst h
  show DepBs M [t] [x]
  simp only [DepBs]
  exact⟨x,[],rfl,k,rfl⟩
 |u::ts,xs,t,x,h,k=>by
  simp only [DepBs]at h
  obtain⟨y,r,rfl,h2,h3⟩:=h
  show DepBs M (u::(ts++ [t])) (y::(r++ [x]))
  simp only [DepBs]
  exact⟨y,r++ [x],rfl,h2,DepBs.snoc h3 k⟩
/-- The item's bytes, its list, its items' bytes lie in blocks of their own, and so on below. -/
def OwnTop (M:Heaplet) (t:It) (x:IV):Prop:=DepB M t x∧ ∃NB NR NS xs,[NB,NR,NS].Pairwise Apart∧M=joinL [NB,NR,NS]∧Row NB 5 1 x.ab x.nb x.cb (u8s t.bytes)∧Row NR 91 3 x.ai x.ni x.ci (cellsI xs)∧xs.length=x.ni∧Bag 5 NS (xs.map slB) (t.items.map It.bytes)
/-- No bytes in it are longer. -/
def Small (t:It) (n:Nat):Prop:=t.bytes.length≤n∧ ∀u∈t.items,u.bytes.length≤n
theorem join_nil (N:Heaplet):join2 N nilH=N:=by
 funext k
 simp only [join2]
 cases N k<;>rfl
theorem nil_join (N:Heaplet):join2 nilH N=N:=by
 funext k
 simp only [join2]
 rfl
theorem apart_nil (N:Heaplet):Apart N nilH:=fun _=>.inr rfl
theorem nil_apart (N:Heaplet):Apart nilH N:=fun _=>.inl rfl
theorem own_text {N:Heaplet} {p:List UInt8} {x:IV} (h:Row N 5 1 x.ab x.nb x.cb (u8s p)) (h0:x.ni=0) (h1:x.ai=none) (h2:x.ci=0) (l:Bool):OwnTop N (.mk l p []) x:=by
 refine⟨by simp only [DepB];rw [h0,h1,h2];exact⟨[],RSl.nil _ _,Bag.nil _ _,DepBs.nil _⟩,N,nilH,nilH,[],?_,?_,h,?_,by rw [h0];rfl,Bag.nil _ _⟩
 ·simp only [List.pairwise_cons,List.mem_cons,List.not_mem_nil,or_false]
  exact⟨fun M hM=>by rcases hM with rfl|rfl<;>exact apart_nil _,fun M hM=>nil_apart _,fun M hM=>hM.elim,.nil⟩
 ·simp only [joinL,join_nil,nil_join]
 ·rw [h0,h1,h2];exact Row.nil _ _ _
theorem own_list {Nr Ns:Heaplet} {done:List It} {xs:List IV} {ai:Option Addr} {ni ci:Nat} (ha:Apart Nr Ns) (hr:Row Nr 91 3 ai ni ci (cellsI xs)) (hn:xs.length=ni) (hb:Bag 5 Ns (xs.map slB) (done.map It.bytes)) (hob:DepBs Ns done xs):OwnTop (join2 Nr Ns) (.mk true [] done) ⟨true,none,0,0,ai,ni,ci⟩:=by
 refine⟨by simp only [DepB];exact⟨xs,hr.rsl.le join2_left,hb.le (join2_right ha),hob.le (join2_right ha)⟩,nilH,Nr,Ns,xs,?_,?_,Row.nil _ _ _,hr,hn,hb⟩
 ·simp only [List.pairwise_cons,List.mem_cons,List.not_mem_nil,or_false]
  exact⟨fun M hM=>nil_apart _,fun M hM=>by subst hM;exact ha,fun M hM=>hM.elim,.nil⟩
 ·simp only [joinL,join_nil,nil_join]
theorem OwnTop.row {M:Heaplet} {t:It} {x:IV} (h:OwnTop M t x):Row M 5 1 x.ab x.nb x.cb (u8s t.bytes):=by
 obtain⟨_,NB,NR,NS,xs,h1,rfl,h3,_⟩:=h
 exact h3.le (le_joinL h1 (by simp))
theorem small_more {done:List It} {t:It} {n:Nat} (h: ∀u∈done,u.bytes.length≤n) (ht:t.bytes.length≤n): ∀u∈done++ [t],u.bytes.length≤n:=by
 intro u hu
 rcases List.mem_append.1 hu with hu|hu
 ·exact h u hu
 ·rw [List.mem_singleton.1 hu];exact ht
theorem Bag.more {Ns M:Heaplet} {done:List It} {xs:List IV} {t:It} {x:IV} (h:Bag 5 Ns (xs.map slB) (done.map It.bytes)) (hr:Row M 5 1 x.ab x.nb x.cb (u8s t.bytes)) (ha:Apart Ns M):Bag 5 (join2 Ns M) ((xs++ [x]).map slB) ((done++ [t]).map It.bytes):=by
 have hl:t.bytes.length=x.nb:=by have:=hr.1;simpa using this
 have h2:Row M 5 1 x.ab t.bytes.length x.cb (u8s t.bytes):=by rw [hl];exact hr
 have:=h.snoc h2 ha.symm
 rw [List.map_append,List.map_append]
 show Bag _ _ (xs.map slB++ [slB x]) (done.map It.bytes++ [t.bytes])
 rw [slB, ←hl]
 refine this.le ?_
 intro k o hk
 simp only [join2]at hk⊢
 rcases ha k with h0|h0
 ·rw [h0];rw [h0]at hk
  cases hm:M k with
  |none=>rw [hm]at hk;cases hk
  |some o'=>rw [hm]at hk;simpa using hk
 ·rw [h0]at hk
  cases hn:Ns k with
  |none=>rw [hn]at hk;cases hk
  |some o'=>rw [hn]at hk;simpa using hk
/-- What decode tells. -/
def DecO (ao:Option Addr) (n cap:Nat) (b:List UInt8) (r:Except Nat (It×List UInt8)) (v:Value) (L:List Heaplet):Prop:=
 (∃t q M, ∃x:IV, ∃aq cq,r=.ok (t,q)∧v=.tuple #[.agg #[.bool x.l,.slice x.ab x.nb x.cb,.slice x.ai x.ni x.ci],.slice aq q.length cq,.int .i64 0]∧L= [M]∧ItN M t x∧OwnTop M t x∧Small t b.length∧ ∀N,RSl N 1 ao n cap (u8s b)→RSl N 1 aq q.length cq (u8s q))∨
 (∃e:Nat,r=.error e∧v=.tuple #[.agg #[.bool false,.slice none 0 0,.slice none 0 0],.slice none 0 0,.int .i64 (e:Int)]∧L= []∧e≠0)
theorem decode_noneO {N:Heaplet} {ao:Option Addr} {n cap:Nat} {b:List UInt8} (h:RSl N 1 ao n cap (u8s b)) (hn:n≤1099511627776) (hc:cutF b=none) (k:Nat) (q:Int):
 Fn Tryz.prog 87 #[.slice ao n cap,.int .i64 q] [] [N] (DecO ao n cap b (decF k b)):=by
 have hd:decF k b=.error 2:=by cases k<;>simp [decF,hc]
 refine Fn.enter (vs:= [.slice ao n cap,.int .i64 q]) Tryz.func87 rfl rfl rfl ?_
 intro E R hR
 have h:=h.le (hR N (by simp))
 change At _ _ E [R] _
 refine At.seq fun _ s_1=>At.region (aS (aT rfl) ze91 rfl (fun N4 b4 B4=>?_))
 change Blk N4 b4 _ [.bool false,.slice none 0 0,.slice none 0 0]at B4
 refine aD (aC rfl) rfl rfl (aD (aC rfl) rfl rfl (aA (aB (s_1 (At.seq fun _ s_2=>At.region (aE (aC rfl) rfl rfl (aG (aT rfl) (.cons rfl .nil) (cut_none h hn hc) Tryz.func140 rfl rfl (by simp) rfl ?_)))))))
 rintro v18 L18 ⟨rfl,rfl⟩
 change At _ _ _ [N4,R] _
 refine aE (aC rfl) rfl rfl (aH (aC rfl) rfl rfl rfl (aH (aC rfl) rfl rfl rfl (aD (aC rfl) rfl rfl (aD (aC rfl) rfl rfl (aA (aB (s_2 (At.seq fun _ s_3=>At.seq fun _ s_4=>At.region (aE (aC rfl) rfl rfl (op_eqNilT (aC rfl) (by kernel_rfl) rfl rfl (aA (aB (s_4 (At.condT rfl (At.seq fun _ s_5=>At.region (op_build (out:= [.bool false,.slice none 0 0,.slice none 0 0]) (aC rfl) ze91 pl91 .nil rfl rfl (aI (nxl rfl) sz91 rfl rfl rfl rfl rfl B4 (by simp) sel0 (fun N4 B4=>?_))))))))))))))))))
 simp only [setL,List.set]at B4
 refine aD (aC rfl) rfl rfl (aD (aC rfl) rfl rfl (aA (aB (s_5 (At.ret (aJ ((aU (L1:= []) rfl (.cell rfl (aZ (ds:= [_,_,_]) ag91 B4 rfl rfl aP) (.tmp rfl (.tmp rfl .nil))) rfl (.cons _ (.refl _)) (.refl _) ?_))))))))
 exact .inr ⟨2,hd,rfl,rfl,by decide⟩
theorem decode_textO {N:Heaplet} {ao:Option Addr} {n cap:Nat} {b p r:List UInt8} (h:RSl N 1 ao n cap (u8s b)) (hn:n≤1099511627776) (hc:cutF b=some (false,p,r)) (k:Nat) (q:Int):
 Fn Tryz.prog 87 #[.slice ao n cap,.int .i64 q] [] [N] (DecO ao n cap b (decF k b)):=by
 have hd:decF k b=.ok (.mk false p [],r):=by cases k<;>simp [decF,hc]
 have hlen:=h.len8
 have hcl:=(cutF_len hc).1
 refine Fn.enter (vs:= [.slice ao n cap,.int .i64 q]) Tryz.func87 rfl rfl rfl ?_
 intro E R hR
 have h:=h.le (hR N (by simp))
 change At _ _ E [R] _
 refine At.seq fun _ s_1=>At.region (aS (aT rfl) ze91 rfl (fun N4 b4 B4=>?_))
 change Blk N4 b4 _ [.bool false,.slice none 0 0,.slice none 0 0]at B4
 refine aD (aC rfl) rfl rfl (aD (aC rfl) rfl rfl (aA (aB (s_1 (At.seq fun _ s_2=>At.region (aE (aC rfl) rfl rfl (aG (aT rfl) (.cons rfl .nil) (cut_some h hn hc) Tryz.func140 rfl rfl (by simp) rfl ?_)))))))
 rintro v18 L18 ⟨a1,c1,a2,c2,rfl,rfl,h1,h2⟩
 change At _ _ _ [N4,R] _
 refine aE (aC rfl) rfl rfl (aH (aC rfl) rfl rfl rfl (aH (aC rfl) rfl rfl rfl (aD (aC rfl) rfl rfl (aD (aC rfl) rfl rfl (aA (aB (s_2 (At.seq fun _ s_3=>At.seq fun _ s_4=>At.region (aE (aC rfl) rfl rfl (op_eqNilF (aC rfl) (by kernel_rfl) rfl rfl (aA (aB (s_4 (At.condF rfl (At.skip (aB (s_3 (At.seq fun _ s_5=>At.seq fun _ s_6=>At.region (aE (aC rfl) rfl rfl ?_)))))))))))))))))))
 refine op_assertY (aC rfl) (by kernel_rfl) rfl rfl (aE (aC rfl) rfl rfl (aH (aC rfl) rfl rfl rfl (aH (aC rfl) rfl rfl rfl (aD (aC rfl) rfl rfl (aD (aC rfl) rfl rfl (aA (aB (s_6 (At.seq fun _ s_7=>At.region (aE (aC rfl) rfl rfl (aA (aB (s_7 (At.condT rfl (At.seq fun _ s_8=>At.region (aE (aC rfl) rfl rfl ?_))))))))))))))))
 refine op_append0 (aT rfl) Tryz.underlying22 Tryz.underlying211 te5 rfl rfl (by assumption) (by first|exact aP|exact bM|exact mem2|exact mem3|exact mem4|exact mem5|exact mem6|exact mem7|exact mem8|exact mem9) (by first|exact one_u8s _|exact one_u64s _|exact one_u32s _|(intro u hu;simp at hu;subst hu;rfl)) (by omega) (by omega) rfl (fun N31 a31 p31 r31=>?_)
 have s31:=r31.rsl
 refine op_build (out:= [.bool false,_,.slice none 0 0]) (aC rfl) ze91 pl91 (.cons rfl .nil) rfl rfl (aE (aC rfl) rfl rfl (aI (nxl rfl) sz91 rfl rfl rfl rfl rfl B4 (by simp) sel1 (fun N4 B4=>?_)))
 simp only [setL,List.set]at B4
 refine aD (aC rfl) rfl rfl (aD (aC rfl) rfl rfl (aA (aB (s_8 (At.ret (aJ ((aU (L1:= [N31]) rfl (.cell rfl (aZ (ds:= [_,_,_]) ag91 B4 rfl rfl aP) (.tmp rfl (.tmp rfl .nil))) rfl (.cons _ (.refl _)) (.refl _) ?_))))))))
 exact .inl ⟨_,_,N31,⟨false,a31,p.length,p31,none,0,0⟩,a2,c2,hd,rfl,rfl,ItN.mk s31 (xs:= []) (RSl.nil _ _) rfl,own_text r31 rfl rfl rfl _,⟨by show p.length≤b.length;omega,fun u hu=>absurd hu List.not_mem_nil⟩,h2⟩
theorem decode_deepO {N:Heaplet} {ao:Option Addr} {n cap:Nat} {b p r:List UInt8} (h:RSl N 1 ao n cap (u8s b)) (hn:n≤1099511627776) (hc:cutF b=some (true,p,r)):
 Fn Tryz.prog 87 #[.slice ao n cap,.int .i64 1024] [] [N] (DecO ao n cap b (decF 0 b)):=by
 have hd:decF 0 b=.error 7:=by simp [decF,hc]
 refine Fn.enter (vs:= [.slice ao n cap,.int .i64 1024]) Tryz.func87 rfl rfl rfl ?_
 intro E R hR
 have h:=h.le (hR N (by simp))
 change At _ _ E [R] _
 refine At.seq fun _ s_1=>At.region (aS (aT rfl) ze91 rfl (fun N4 b4 B4=>?_))
 change Blk N4 b4 _ [.bool false,.slice none 0 0,.slice none 0 0]at B4
 refine aD (aC rfl) rfl rfl (aD (aC rfl) rfl rfl (aA (aB (s_1 (At.seq fun _ s_2=>At.region (aE (aC rfl) rfl rfl (aG (aT rfl) (.cons rfl .nil) (cut_some h hn hc) Tryz.func140 rfl rfl (by simp) rfl ?_)))))))
 rintro v18 L18 ⟨a1,c1,a2,c2,rfl,rfl,h1,h2⟩
 change At _ _ _ [N4,R] _
 refine aE (aC rfl) rfl rfl (aH (aC rfl) rfl rfl rfl (aH (aC rfl) rfl rfl rfl (aD (aC rfl) rfl rfl (aD (aC rfl) rfl rfl (aA (aB (s_2 (At.seq fun _ s_3=>At.seq fun _ s_4=>At.region (aE (aC rfl) rfl rfl (op_eqNilF (aC rfl) (by kernel_rfl) rfl rfl (aA (aB (s_4 (At.condF rfl (At.skip (aB (s_3 (At.seq fun _ s_5=>At.seq fun _ s_6=>At.region (aE (aC rfl) rfl rfl ?_)))))))))))))))))))
 refine op_assertN (aC rfl) (by kernel_rfl) ze211 rfl rfl rfl (aE (aC rfl) rfl rfl (aH (aC rfl) rfl rfl rfl (aH (aC rfl) rfl rfl rfl (aD (aC rfl) rfl rfl (aD (aC rfl) rfl rfl (aA (aB (s_6 (At.seq fun _ s_7=>At.region (aE (aC rfl) rfl rfl (aA (aB (s_7 (At.condF rfl (At.skip (aB (s_5 (At.seq fun _ s_8=>At.seq fun _ s_9=>At.region (aE (aC rfl) rfl rfl (op_eql (aC rfl) rfl rfl rfl ?_))))))))))))))))))))
 refine aA (aB (s_9 (aO rfl (fun c35=>?_) (fun c35=>?_))))
 rotate_left
 ·exact absurd rfl c35
 refine At.seq fun _ s_10=>At.region (op_build (out:= [.bool false,.slice none 0 0,.slice none 0 0]) (aC rfl) ze91 pl91 .nil rfl rfl (aI (nxl rfl) sz91 rfl rfl rfl rfl rfl B4 (by simp) sel0 (fun N4 B4=>?_)))
 simp only [setL,List.set]at B4
 refine aD (aC rfl) rfl rfl (aD (aC rfl) rfl rfl (aA (aB (s_10 (At.ret (aJ ((aU (L1:= []) rfl (.cell rfl (aZ (ds:= [_,_,_]) ag91 B4 rfl rfl aP) (.tmp rfl (.tmp rfl .nil))) rfl (.cons _ (.refl _)) (.refl _) ?_))))))))
 exact .inr ⟨7,hd,rfl,rfl,by decide⟩
theorem decode_itsO {N:Heaplet} {ao:Option Addr} {n cap:Nat} {b p r:List UInt8} (h:RSl N 1 ao n cap (u8s b)) (hn:n≤1099511627776) (hc:cutF b=some (true,p,r)) (k:Nat) (q:Int) (hq:q+k+1=1024) (hk0:0≤q)
 (ih: ∀(N:Heaplet) (ao:Option Addr) (n cap:Nat) (b:List UInt8) (q:Int),RSl N 1 ao n cap (u8s b)→n≤1099511627776→q+k=1024→0≤q→Fn Tryz.prog 87 #[.slice ao n cap,.int .i64 q] [] [N] (DecO ao n cap b (decF k b))):
 Fn Tryz.prog 87 #[.slice ao n cap,.int .i64 q] [] [N] (DecO ao n cap b (decF (k+1) b)):=by
 have hlen:=h.len8
 have hcl:=(cutF_len hc).1
 refine Fn.enter (vs:= [.slice ao n cap,.int .i64 q]) Tryz.func87 rfl rfl rfl ?_
 intro E R hR
 have h:=h.le (hR N (by simp))
 change At _ _ E [R] _
 refine At.seq fun _ s_1=>At.region (aS (aT rfl) ze91 rfl (fun N4 b4 B4=>?_))
 change Blk N4 b4 _ [.bool false,.slice none 0 0,.slice none 0 0]at B4
 refine aD (aC rfl) rfl rfl (aD (aC rfl) rfl rfl (aA (aB (s_1 (At.seq fun _ s_2=>At.region (aE (aC rfl) rfl rfl (aG (aT rfl) (.cons rfl .nil) (cut_some h hn hc) Tryz.func140 rfl rfl (by simp) rfl ?_)))))))
 rintro v18 L18 ⟨a1,c1,a2,c2,rfl,rfl,h1,h2⟩
 change At _ _ _ [N4,R] _
 refine aE (aC rfl) rfl rfl (aH (aC rfl) rfl rfl rfl (aH (aC rfl) rfl rfl rfl (aD (aC rfl) rfl rfl (aD (aC rfl) rfl rfl (aA (aB (s_2 (At.seq fun _ s_3=>At.seq fun _ s_4=>At.region (aE (aC rfl) rfl rfl (op_eqNilF (aC rfl) (by kernel_rfl) rfl rfl (aA (aB (s_4 (At.condF rfl (At.skip (aB (s_3 (At.seq fun _ s_5=>At.seq fun _ s_6=>At.region (aE (aC rfl) rfl rfl ?_)))))))))))))))))))
 refine op_assertN (aC rfl) (by kernel_rfl) ze211 rfl rfl rfl (aE (aC rfl) rfl rfl (aH (aC rfl) rfl rfl rfl (aH (aC rfl) rfl rfl rfl (aD (aC rfl) rfl rfl (aD (aC rfl) rfl rfl (aA (aB (s_6 (At.seq fun _ s_7=>At.region (aE (aC rfl) rfl rfl (aA (aB (s_7 (At.condF rfl (At.skip (aB (s_5 (At.seq fun _ s_8=>At.seq fun _ s_9=>At.region (aE (aC rfl) rfl rfl (op_eql (aC rfl) rfl rfl rfl ?_))))))))))))))))))))
 refine aA (aB (s_9 (aO rfl (fun c35=>?_) (fun c35=>?_))))
 ·exfalso;omega
 refine At.skip (aB (s_8 (At.seq fun _ s_10=>At.region (op_build (out:= [_,.slice none 0 0,.slice none 0 0]) (aC rfl) ze91 pl91 (.cons rfl .nil) rfl rfl (aS (aT rfl) ze91 rfl (fun N11 b11 B11=>?_))))))
 change Blk N11 b11 _ [.bool false,.slice none 0 0,.slice none 0 0]at B11
 refine aI (nxl rfl) sz91 rfl rfl rfl rfl rfl B11 (by simp) sel0 (fun N11 B11=>?_)
 simp only [setL,List.set]at B11
 refine aA (aB (s_10 (At.seq fun _ s_11=>At.seq fun _ s_12=>At.region (aE (aC rfl) rfl rfl (op_assert1 (aC rfl) (by kernel_rfl) rfl rfl (aD (aC rfl) rfl rfl (aA (aB (s_12 (At.block (At.empty (At.empty (At.perm sel4 (At.perm sel1 (At.perm sel2 (At.perm sel3 (At.perm sel4 ?_)))))))))))))))))
 refine At.loop (fun fr_ hp_ ms_=> ∃(p':List UInt8) (ac:Option Addr) (m cc:Nat) (done:List It) (xs:List IV) (ai:Option Addr) (ni ci:Nat) (N11 Nr Ns:Heaplet),fr_= [(0,.slice ao n cap),(1,.int .i64 q),(4,.pointer (some ⟨b4,0,none⟩)),(8,.slice a2 r.length c2),(11,.pointer (some ⟨b11,0,none⟩)),(12,.slice ac m cc)]∧hp_= [N4,N11,Nr,Ns,R]∧m=ms_∧(RSl R 1 ac m cc (u8s p'))∧(Blk N11 b11 91 [.bool true,.slice none 0 0,.slice ai ni ci])∧(Row Nr 91 3 ai ni ci (cellsI xs))∧(xs.length=ni)∧(ItsN Ns done xs)∧(Bag 5 Ns (xs.map slB) (done.map It.bytes))∧(DepBs Ns done xs)∧(∀u∈done,u.bytes.length≤p.length)∧(itF (decF k) p=exMap (done++ ·) (itF (decF k) p'))∧(ni+m≤p.length)) ?_ (.refl _) ⟨p,a1,p.length,c1,[],[],none,0,0,N11,nilH,nilH,rfl,rfl,rfl,h1,B11,Row.nil _ _ _,rfl,rfl,Bag.nil _ _,DepBs.nil _,fun u hu=>absurd hu List.not_mem_nil,by cases itF (decF k) p<;>rfl,by omega⟩ ?_
 ·exact .cons (by first|exact a6 rfl (by omega)|rfl) (.cons (by first|exact a6 rfl (by omega)|rfl) (.cons (by first|exact a6 rfl (by omega)|rfl) (.cons (by first|exact a6 rfl (by omega)|rfl) (.cons (by first|exact a6 rfl (by omega)|rfl) (.cons (by first|exact a6 rfl (by omega)|rfl) .nil)))))
 rintro _ _ _ ⟨p',ac,m,cc,done,xs,ai,ni,ci,N11,Nr,Ns,rfl,rfl,rfl,sc,B11,rr,hni,hs,hbag,hob,hsm,H,hcnt⟩
 have hlp:=sc.len8
 have sr:=rr.rsl
 refine At.seq fun _ s_13=>At.seq fun _ s_14=>At.region (aE (aC rfl) rfl rfl (a7 (aC rfl) se22 rfl rfl (op_gtr (aC rfl) rfl rfl rfl (aA (aB (s_14 (aO rfl (fun c42=>?_) (fun c42=>?_))))))))
 ·refine At.skip (aB (s_13 (At.block (At.seq fun _ s_15=>At.region (aE (aC rfl) rfl rfl (aE (aC rfl) rfl rfl (bI (aC rfl) rfl rfl (by omega) (by omega) rfl (aG (aT rfl) (.cons rfl (.cons rfl .nil)) (ih R ac m cc p' (q+1) sc (by omega) (by omega) (by omega)) Tryz.func87 rfl rfl (by simp) rfl ?_))))))))
  rintro v47 L47 (⟨t,q',M47,x,aq,cq,he,rfl,rfl,hi,ho,hsz,hqq⟩|⟨e,he,rfl,rfl,hne⟩)
  ·change At _ _ _ [M47,N4,N11,Nr,Ns,R] _
   refine aE (aC rfl) rfl rfl (aH (aC rfl) rfl rfl rfl (aH (aC rfl) rfl rfl rfl (aH (aC rfl) rfl rfl rfl (aS (aT rfl) ze91 rfl (fun N13 b13 B13=>?_)))))
   change Blk N13 b13 _ [.bool false,.slice none 0 0,.slice none 0 0]at B13
   refine aI (nxl rfl) sz91 rfl rfl rfl rfl rfl B13 (by simp) sel0 (fun N13 B13=>?_)
   simp only [setL,List.set]at B13
   refine aD (aC rfl) rfl rfl (aD (aC rfl) rfl rfl (aA (aB (s_15 (At.seq fun _ s_16=>At.seq fun _ s_17=>At.region (aE (aC rfl) rfl rfl (op_neq (aC rfl) rfl rfl rfl (aA (aB (s_17 (At.condF rfl (At.skip (aB (s_16 (At.seq fun _ s_18=>At.region (aF (aC rfl) fl91_2 rfl rfl (aL (aC rfl) sc89 rfl B11 (by first|rfl) mem3 rfl ?_)))))))))))))))))
   refine aQ (ds:= [_,_,_]) (aC rfl) ag91 rfl B13 rfl rfl aP rfl (op_lit (aT rfl) Tryz.underlying89 ze91 sz91 (.cons rfl .nil) rfl rfl (by simp [Value.cells]) rfl rfl rfl (fun N58 a58 r58=>?_))
   simp only [flatV,List.flatMap_cons,List.flatMap_nil,Value.cells,List.append_nil,List.cons_append,List.nil_append]at r58
   have s58:=r58.rsl
   refine op_append (nxl rfl) Tryz.underlying89 Tryz.underlying89 te91 rfl rfl rr (by assumption) (by first|exact aP|exact bM|exact mem2|exact mem3|exact mem4|exact mem5|exact mem6|exact mem7|exact mem8|exact mem9) (by intro u hu;simp at hu;rcases hu with rfl|rfl|rfl<;>rfl) (by omega) (by omega) bE rfl (fun N59 a59 p59 r59=>?_)
   have s59:=r59.rsl
   refine aF (aC rfl) fl91_2 rfl rfl (aI (nxl rfl) sz89 rfl rfl rfl rfl rfl B11 (by simp) bE (fun N11 B11=>?_))
   simp only [setL,List.set]at B11
   refine aA (aB (s_18 (At.region (aE (aC rfl) rfl rfl (aD (aC rfl) rfl rfl (aA (bC (aB (At.perm sel7 (At.perm bO (At.perm bE (At.perm bE (At.perm bE (At.perm bE (At.perm bO (At.perm sel7 (At.merge (fun hap=>At.sub (L':= [(join2 Ns M47),N11,N59,N4,R]) (.cons_cons _ (.cons_cons _ (.cons_cons _ (.cons _ (.cons _ (.cons_cons _ (.cons_cons _ (.slnil)))))))) (At.perm sel4 (At.perm sel1 (At.perm sel3 ?_)))))))))))))))))))))
   refine At.perm sel3 (At.perm sel4 ?_)
   refine At.back ?_ (.refl _) ⟨q',aq,q'.length,cq,done++ [t],xs++ [x],a59,ni+1,p59,N11,N59,join2 Ns M47,rfl,rfl,rfl,hqq R sc,B11,by rw [cellsI,List.flatMap_append];exact r59,by simp [hni],(hs.le join2_left).snoc (hi.le (join2_right hap)),hbag.more ho.row hap,(hob.le join2_left).snoc (ho.1.le (join2_right hap)),small_more hsm (by have:=hsz.1;omega),by rw [H,itF_ok (fun b t q h=>decF_lt h) (by omega) he,exMap_map];congr 1;funext l;simp,by have:=decF_lt he;omega⟩ ?_
   ·exact .cons (by first|exact a6 rfl (by omega)|rfl) (.cons (by first|exact a6 rfl (by omega)|rfl) (.cons (by first|exact a6 rfl (by omega)|rfl) (.cons (by first|exact a6 rfl (by omega)|rfl) (.cons (by first|exact a6 rfl (by omega)|rfl) (.cons (by first|exact a6 rfl (by omega)|rfl) .nil)))))
   ·exact(by have:=decF_lt he;omega)
  change At _ _ _ [N4,N11,Nr,Ns,R] _
  refine aE (aC rfl) rfl rfl (aH (aC rfl) rfl rfl rfl (aH (aC rfl) rfl rfl rfl (aH (aC rfl) rfl rfl rfl (aS (aT rfl) ze91 rfl (fun N13 b13 B13=>?_)))))
  change Blk N13 b13 _ [.bool false,.slice none 0 0,.slice none 0 0]at B13
  refine aI (nxl rfl) sz91 rfl rfl rfl rfl rfl B13 (by simp) sel0 (fun N13 B13=>?_)
  simp only [setL,List.set]at B13
  refine aD (aC rfl) rfl rfl (aD (aC rfl) rfl rfl (aA (aB (s_15 (At.seq fun _ s_19=>At.seq fun _ s_20=>At.region (aE (aC rfl) rfl rfl (op_neq (aC rfl) rfl rfl rfl (aA (aB (s_20 (aO rfl (fun c52=>?_) (fun c52=>?_))))))))))))
  rotate_left
  ·exfalso;omega
  refine At.seq fun _ s_21=>At.region (op_build (out:= [.bool false,.slice none 0 0,.slice none 0 0]) (aC rfl) ze91 pl91 .nil rfl rfl (aE (aC rfl) rfl rfl (aI (nxl rfl) sz91 rfl rfl rfl rfl rfl B4 (by simp) sel1 (fun N4 B4=>?_))))
  simp only [setL,List.set]at B4
  refine aD (aC rfl) rfl rfl (aD (aC rfl) rfl rfl (aA (aB (s_21 (At.ret (aJ (bP (aJ (bP (aJ ((At.sub (L':= [N4,R]) (.cons_cons _ (.cons _ (.cons _ (.cons _ (.cons _ (.cons_cons _ (.slnil))))))) (aU (L1:= []) rfl (.cell rfl (aZ (ds:= [_,_,_]) ag91 B4 rfl rfl aP) (.tmp rfl (.tmp rfl .nil))) rfl (.cons _ (.refl _)) (.refl _) ?_)))))))))))))
  exact .inr ⟨e,by simp [decF,hc,H,itF_error (show 0<p'.length by omega) he,exMap],rfl,rfl,hne⟩
 refine At.exit (aM (aM (At.inHit (aB (s_11 (At.seq fun _ s_22=>At.region (aQ (ds:= [_,_,_]) (aC rfl) ag91 rfl B11 rfl rfl bM rfl (aE (aC rfl) rfl rfl (aI (nxl rfl) sz91 rfl rfl rfl rfl rfl B4 (by simp) sel0 (fun N4 B4=>?_))))))))))
 simp only [setL,List.set]at B4
 refine aD (aC rfl) rfl rfl (aD (aC rfl) rfl rfl (aA (aB (s_22 (At.ret ((At.perm sel4 (At.perm sel2 (At.perm sel2 (At.perm sel4 (At.perm sel4 (At.merge (fun hap=>At.sub (L':= [(join2 Nr Ns),N4,R]) (.cons_cons _ (.cons_cons _ (.cons _ (.cons_cons _ (.slnil))))) (At.perm sel2 (At.perm sel1 (At.perm sel2 (aU (L1:= [(join2 Nr Ns)]) rfl (.cell rfl (aZ (ds:= [_,_,_]) ag91 B4 rfl rfl aP) (.tmp rfl (.tmp rfl .nil))) rfl (.cons _ (.refl _)) (.refl _) ?_)))))))))))))))))
 have hp0:p'= []:=List.eq_nil_of_length_eq_zero (by omega)
 subst hp0
 refine .inl ⟨.mk true [] done,r,join2 Nr Ns,⟨true,none,0,0,ai,ni,ci⟩,a2,c2,?_,rfl,rfl,ItN.mk (RSl.nil _ _) (sr.le join2_left) (hs.le (join2_right hap)),own_list hap rr hni hbag hob,⟨Nat.zero_le _,fun u hu=>by have:=hsm u hu;omega⟩,h2⟩
 simp [decF,hc,H,itF_nil,exMap]
theorem decode_o (k:Nat): ∀(N:Heaplet) (ao:Option Addr) (n cap:Nat) (b:List UInt8) (q:Int),RSl N 1 ao n cap (u8s b)→n≤1099511627776→q+k=1024→0≤q→Fn Tryz.prog 87 #[.slice ao n cap,.int .i64 q] [] [N] (DecO ao n cap b (decF k b)):=by
 induction k with
 |zero=>
  intro N ao n cap b q h hn hq h0
  obtain rfl:q=1024:=by omega
  match hc:cutF b with
  |none=>exact decode_noneO h hn hc 0 _
  |some (false,p,r)=>exact decode_textO h hn hc 0 _
  |some (true,p,r)=>exact decode_deepO h hn hc
 |succ k ih=>
  intro N ao n cap b q h hn hq h0
  match hc:cutF b with
  |none=>exact decode_noneO h hn hc _ _
  |some (false,p,r)=>exact decode_textO h hn hc _ _
  |some (true,p,r)=>exact decode_itsO h hn hc k q (by omega) h0 ih
def DecodeO (nb:Nat) (r:Except Nat It) (v:Value) (L:List Heaplet):Prop:=
 (∃t M, ∃x:IV,r=.ok t∧v=.tuple #[.agg #[.bool x.l,.slice x.ab x.nb x.cb,.slice x.ai x.ni x.ci],.int .i64 0]∧L= [M]∧ItN M t x∧OwnTop M t x∧Small t nb)∨
 (∃e:Nat,r=.error e∧v=.tuple #[.agg #[.bool false,.slice none 0 0,.slice none 0 0],.int .i64 (e:Int)]∧L= []∧e≠0)
theorem Decode_o {N:Heaplet} {ao:Option Addr} {n cap:Nat} {b:List UInt8} (h:RSl N 1 ao n cap (u8s b)) (hn:n≤1099511627776):
 Fn Tryz.prog 32 #[.slice ao n cap] [] [N] (DecodeO b.length (decodeF b)):=by
 refine Fn.enter (vs:= [.slice ao n cap]) Tryz.func32 rfl rfl rfl ?_
 intro E R hR
 have h:=h.le (hR N (by simp))
 change At _ _ E [R] _
 refine At.seq fun _ s_1=>At.region (aS (aT rfl) ze91 rfl (fun N2 b2 B2=>?_))
 change Blk N2 b2 _ [.bool false,.slice none 0 0,.slice none 0 0]at B2
 refine aD (aC rfl) rfl rfl (aA (aB (s_1 (At.seq fun _ s_2=>At.region (aE (aC rfl) rfl rfl (aG (aT rfl) (.cons rfl (.cons rfl .nil)) (decode_o 1024 R ao n cap b 0 h hn (by omega) (by omega)) Tryz.func87 rfl rfl (by simp) rfl ?_))))))
 rintro v9 L9 (⟨t,q,M9,x,aq,cq,he,rfl,rfl,hi,ho,hsz,hq⟩|⟨e,he,rfl,rfl,hne⟩)
 ·change At _ _ _ [M9,N2,R] _
  refine aE (aC rfl) rfl rfl (aH (aC rfl) rfl rfl rfl (aH (aC rfl) rfl rfl rfl (aH (aC rfl) rfl rfl rfl (aS (aT rfl) ze91 rfl (fun N4 b4 B4=>?_)))))
  change Blk N4 b4 _ [.bool false,.slice none 0 0,.slice none 0 0]at B4
  refine aI (nxl rfl) sz91 rfl rfl rfl rfl rfl B4 (by simp) sel0 (fun N4 B4=>?_)
  simp only [setL,List.set]at B4
  refine aD (aC rfl) rfl rfl (aD (aC rfl) rfl rfl (aA (aB (s_2 (At.seq fun _ s_3=>At.seq fun _ s_4=>At.region (aE (aC rfl) rfl rfl (op_eql (aC rfl) rfl rfl rfl (aE (aC rfl) rfl rfl (At.partP (d:=15) rfl (fun g15=>?_) (fun g15=>?_))))))))))
  rotate_left
  ·exact absurd rfl g15
  refine aE (bF rfl rfl rfl rfl) rfl rfl (a7 (bF rfl rfl rfl rfl) se22 rfl rfl (op_gtr (bF rfl rfl rfl rfl) rfl rfl rfl (bN (aC rfl) rfl rfl rfl (aA (aB (s_4 (aO rfl (fun c19=>?_) (fun c19=>?_))))))))
  ·refine At.seq fun _ s_5=>At.region (op_build (out:= [.bool false,.slice none 0 0,.slice none 0 0]) (aC rfl) ze91 pl91 .nil rfl rfl (aI (nxl rfl) sz91 rfl rfl rfl rfl rfl B2 (by simp) sel2 (fun N2 B2=>?_)))
   simp only [setL,List.set]at B2
   refine aD (aC rfl) rfl rfl (aA (aB (s_5 (At.ret (aJ ((At.sub (L':= [N2,R]) (.cons_cons _ (.cons _ (.cons _ (.cons_cons _ (.slnil))))) (aU (L1:= []) rfl (.cell rfl (aZ (ds:= [_,_,_]) ag91 B2 rfl rfl aP) (.tmp rfl .nil)) rfl (.cons _ (.refl _)) (.refl _) ?_))))))))
   exact .inr ⟨2,by rw [decodeF,he];simp only;rw [if_neg (by omega)],rfl,rfl,by decide⟩
  refine At.skip (aB (s_3 (At.seq fun _ s_6=>At.region (aQ (ds:= [_,_,_]) (aC rfl) ag91 rfl B4 rfl rfl aP rfl (aE (aC rfl) rfl rfl (aI (nxl rfl) sz91 rfl rfl rfl rfl rfl B2 (by simp) sel2 (fun N2 B2=>?_)))))))
  simp only [setL,List.set]at B2
  refine aD (aC rfl) rfl rfl (aA (aB (s_6 (At.ret ((At.sub (L':= [N2,M9,R]) (.cons_cons _ (.cons _ (.cons_cons _ (.cons_cons _ (.slnil))))) (aU (L1:= [M9]) rfl (.cell rfl (aZ (ds:= [_,_,_]) ag91 B2 rfl rfl aP) (.tmp rfl .nil)) rfl (.cons _ (.refl _)) (.refl _) ?_)))))))
  exact .inl ⟨t,M9,x,by rw [decodeF,he];simp only;rw [if_pos (by omega)],rfl,rfl,hi,ho,hsz⟩
 change At _ _ _ [N2,R] _
 refine aE (aC rfl) rfl rfl (aH (aC rfl) rfl rfl rfl (aH (aC rfl) rfl rfl rfl (aH (aC rfl) rfl rfl rfl (aS (aT rfl) ze91 rfl (fun N4 b4 B4=>?_)))))
 change Blk N4 b4 _ [.bool false,.slice none 0 0,.slice none 0 0]at B4
 refine aI (nxl rfl) sz91 rfl rfl rfl rfl rfl B4 (by simp) sel0 (fun N4 B4=>?_)
 simp only [setL,List.set]at B4
 refine aD (aC rfl) rfl rfl (aD (aC rfl) rfl rfl (aA (aB (s_2 (At.seq fun _ s_7=>At.seq fun _ s_8=>At.region (aE (aC rfl) rfl rfl (op_eql (aC rfl) rfl rfl rfl (aE (aC rfl) rfl rfl (At.partP (d:=15) rfl (fun g15=>?_) (fun g15=>?_))))))))))
 ·exfalso;omega
 refine aN rfl rfl rfl rfl rfl rfl rfl (aN rfl rfl rfl rfl rfl rfl rfl (aN rfl rfl rfl rfl rfl rfl rfl (op_pickF (aC rfl) rfl rfl rfl (aA (aB (s_8 (At.condF rfl (At.skip (aB (s_7 (At.seq fun _ s_9=>At.region (aQ (ds:= [_,_,_]) (aC rfl) ag91 rfl B4 rfl rfl aP rfl (aE (aC rfl) rfl rfl (aI (nxl rfl) sz91 rfl rfl rfl rfl rfl B2 (by simp) sel1 (fun N2 B2=>?_)))))))))))))))
 simp only [setL,List.set]at B2
 refine aD (aC rfl) rfl rfl (aA (aB (s_9 (At.ret ((At.sub (L':= [N2,R]) (.cons_cons _ (.cons _ (.cons_cons _ (.slnil)))) (aU (L1:= []) rfl (.cell rfl (aZ (ds:= [_,_,_]) ag91 B2 rfl rfl aP) (.tmp rfl .nil)) rfl (.cons _ (.refl _)) (.refl _) ?_)))))))
 exact .inr ⟨e,by rw [decodeF,he],rfl,rfl,hne⟩
/-- What Decode gives, parts of the memory one by one: the caller's own. -/
def DecW (nb:Nat) (v:Value) (L:List Heaplet):Prop:= ∃x:IV, ∃e:Int, ∃NB NR NS bb xs bbs,v=.tuple #[.agg #[.bool x.l,.slice x.ab x.nb x.cb,.slice x.ai x.ni x.ci],.int .i64 e]∧L= [NB,NR,NS]∧Row NB 5 1 x.ab x.nb x.cb (u8s bb)∧Row NR 91 3 x.ai x.ni x.ci (cellsI xs)∧xs.length=x.ni∧Bag 5 NS (xs.map slB) bbs∧bb.length≤nb∧ ∀u∈bbs,u.length≤nb
end Go.Proofs.YtjfagifjajielaaGreat
/- Layer 14, the reference: a list's parts, the first fault is kept. No condition but that few parts are asked. -/
namespace Go.Proofs.YtjfagifjajielaaGreat
open Go Go.RowKit
set_option maxRecDepth 100000
/-- The parts, the place of the next one, the first fault. -/
def PartsQ (Np NI:Heaplet) (bp:Nat) (all:List It) (i E:Nat):Prop:= ∃ao n cap xs,Blk Np bp 105 [.slice ao n cap,.int .i64 (i:Int),.int .i64 (E:Int)]∧RSl NI 3 ao n cap (cellsI xs)∧ItsN NI all xs
/-- One part read: its value, or the first fault is kept. -/
def Stp {α:Type} (E:Nat) (r:Except Nat α) (x:α) (E':Nat):Prop:=(r=.ok x∧E'=E)∨ ∃e,r=.error e∧e≠0∧E'=if E=0 then e else E
def nxt (all:List It) (i:Nat):It:=all.getD i (itS [])
section
variable {Np NI : Heaplet} {bp i E : Nat} {all : List It}
/-- Bytes read. -/
def RawP (Np0:Heaplet) (NI:Heaplet) (bp:Nat) (all:List It) (i E:Nat) (r:Except Nat (List UInt8)) (v:Value) (L:List Heaplet):Prop:= ∃Np M a b c E',v=.slice a b.length c∧L= [Np,M]∧PartsQ Np NI bp all (i+1) E'∧(∀J:Heaplet,M.le J→NI.le J→RSl J 1 a b.length c (u8s b))∧Stp E r b E'∧(b.length=256∨r=.ok b)
def zer256:List UInt8:=List.replicate 256 0
/-- The first bytes, zeros behind. -/
def fillR (k:Nat) (h:List UInt8) (i:Nat):List UInt8:=h.take i++List.replicate (k- i) 0
def ArrP (Np0 NI:Heaplet) (bp:Nat) (all:List It) (i E k:Nat) (v:Value) (L:List Heaplet):Prop:= ∃Np b E',v=.agg (u8s b).toArray∧b.length=k∧L= [Np]∧PartsQ Np NI bp all (i+1) E'∧Stp E (fixE k (nxt all i)) b E'
end
end Go.Proofs.YtjfagifjajielaaGreat
