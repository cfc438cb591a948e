/- Several texts in one: see the remarks ahead of each part. No condition but those told there. -/
import Derived.Test.YtjfagifjajielaaGreatX1
import Derived.Test.YtjfagifjajielaaGreatX15
import Derived.Test.YtjfagifjajielaaGreatX10
import Derived.Test.YtjfagifjajielaaGreatX14
set_option linter.unusedSimpArgs false
set_option linter.unusedVariables false
namespace Go.Proofs.YtjfagifjajielaaGreat
open Go Go.RowKit
structure Bag (e:TypeId) (N:Heaplet) (vs:List Value) (xs:List (List UInt8)):Prop where
 len:vs.length=xs.length
 row: ∀(i:Nat) (x:List UInt8),xs[i]? =some x→ ∃p c,vs[i]? =some (Value.slice p x.length c)∧Row N e 1 p x.length c (u8s x)
 apart: ∀(i j:Nat) (p q:Option Addr) (n m c d:Nat),i≠j→vs[i]? =some (Value.slice p n c)→vs[j]? =some (Value.slice q m d)→p=none∨p≠q
structure Bags (N:Heaplet) (vs:List Value) (xs:List (List UInt8)):Prop where
 len:vs.length=xs.length
 rsl: ∀(i:Nat) (x:List UInt8),xs[i]? =some x→ ∃p c,vs[i]? =some (Value.slice p x.length c)∧RSl N 1 p x.length c (u8s x)
theorem Bag.nil (e:TypeId) (N:Heaplet):Bag e N [] []:=⟨rfl,fun i x h=>by simp at h,fun i j p q n m c d _ h=>by simp at h⟩
theorem Bags.nil (N:Heaplet):Bags N [] []:=⟨rfl,fun i x h=>by simp at h⟩
theorem Bags.le {N M:Heaplet} {vs:List Value} {xs:List (List UInt8)} (h:Bags N vs xs) (hl:N.le M):Bags M vs xs:=⟨h.len,fun i x hx=>let ⟨p,c,h1,h2⟩:=h.rsl i x hx;⟨p,c,h1,h2.le hl⟩⟩
theorem Bag.le {e:TypeId} {N M:Heaplet} {vs:List Value} {xs:List (List UInt8)} (h:Bag e N vs xs) (hl:N.le M):Bag e M vs xs:=⟨h.len,fun i x hx=>let ⟨p,c,h1,h2⟩:=h.row i x hx;⟨p,c,h1,h2.le hl⟩,h.apart⟩
theorem snoc_get {α:Type} {xs:List α} {y z:α} {i:Nat} (h:(xs++ [y])[i]? =some z):(i<xs.length∧xs[i]? =some z)∨(i=xs.length∧z=y):=by
 rcases Nat.lt_or_ge i xs.length with hi|hi
 ·rw [List.getElem?_append_left hi]at h;exact .inl ⟨hi,h⟩
 ·rw [List.getElem?_append_right hi]at h
  rcases Nat.eq_zero_or_pos (i- xs.length)with h0|h0
  ·rw [h0]at h;simp at h;exact .inr ⟨by omega,h.symm⟩
  ·rw [List.getElem?_eq_none (by simp;omega)]at h;cases h
theorem get_snoc_l {α:Type} {xs:List α} {y z:α} {i:Nat} (h:xs[i]? =some z):(xs++ [y])[i]? =some z:=by
 rw [List.getElem?_append_left (List.getElem?_eq_some_iff.1 h).1];exact h
theorem get_snoc_r {α:Type} {xs:List α} {y:α} {i:Nat} (h:i=xs.length):(xs++ [y])[i]? =some y:=by subst h;simp
theorem Bags.snoc {N M:Heaplet} {vs:List Value} {xs:List (List UInt8)} {x:List UInt8} {p:Option Addr} {c:Nat} (h:Bags N vs xs) (hr:RSl M 1 p x.length c (u8s x)) (ha:Apart M N):Bags (join2 M N) (vs++ [Value.slice p x.length c]) (xs++ [x]):=by
 refine⟨by simp [h.len],fun i y hy=>?_⟩
 rcases snoc_get hy with ⟨hi,hy⟩|⟨hi,rfl⟩
 ·obtain⟨q,d,h1,h2⟩:=h.rsl i y hy
  exact⟨q,d,get_snoc_l h1,h2.le (join2_right ha)⟩
 ·exact⟨p,c,get_snoc_r (by rw [hi,h.len]),hr.le join2_left⟩
theorem Bag.snoc {e:TypeId} {N M:Heaplet} {vs:List Value} {xs:List (List UInt8)} {x:List UInt8} {p:Option Addr} {c:Nat} (h:Bag e N vs xs) (hr:Row M e 1 p x.length c (u8s x)) (ha:Apart M N):Bag e (join2 M N) (vs++ [Value.slice p x.length c]) (xs++ [x]):=by
 have old: ∀i q m d,i<vs.length→vs[i]? =some (Value.slice q m d)→p=none∨q=none∨p≠q:=fun i q m d hi hv=>by
  obtain⟨y,hy⟩: ∃y,xs[i]? =some y:=⟨_,List.getElem?_eq_getElem (by rw [←h.len];exact hi)⟩
  obtain⟨q',d',h1,h2⟩:=h.row i y hy
  rw [hv]at h1
  simp only [Option.some.injEq,Value.slice.injEq]at h1
  obtain⟨rfl,rfl,rfl⟩:=h1
  rcases hr.block with ⟨hp,_⟩|⟨b,o,hp,hb⟩
  ·exact .inl hp
  ·rcases h2.block with ⟨hq,_⟩|⟨b',o',hq,hb'⟩
   ·exact .inr (.inl hq)
   ·refine .inr (.inr fun e=>?_)
    rw [hp,hq]at e
    cases e
    rcases ha b with h|h
    ·rw [hb]at h;cases h
    ·rw [hb']at h;cases h
 refine⟨by simp [h.len],fun i y hy=>?_,fun i j q r n m c' d hij hi hj=>?_⟩
 ·rcases snoc_get hy with ⟨hi,hy⟩|⟨hi,rfl⟩
  ·obtain⟨q,d,h1,h2⟩:=h.row i y hy
   exact⟨q,d,get_snoc_l h1,h2.le (join2_right ha)⟩
  ·exact⟨p,c,get_snoc_r (by rw [hi,h.len]),hr.le join2_left⟩
 ·rcases snoc_get hi with ⟨li,hi'⟩|⟨li,hi'⟩<;>rcases snoc_get hj with ⟨lj,hj'⟩|⟨lj,hj'⟩
  ·exact h.apart i j q r n m c' d hij hi' hj'
  ·simp only [Value.slice.injEq]at hj'
   obtain⟨rfl,_⟩:=hj'
   rcases old i q n c' li hi' with h|h|h
   ·by_cases hq:q=none
    ·exact .inl hq
    ·exact .inr fun e=>hq (e.trans h)
   ·exact .inl h
   ·exact .inr fun e=>h e.symm
  ·simp only [Value.slice.injEq]at hi'
   obtain⟨rfl,_⟩:=hi'
   rcases old j r m d lj hj' with h|h|h
   ·exact .inl h
   ·by_cases hq:q=none
    ·exact .inl hq
    ·exact .inr fun e=>hq (e.trans h)
   ·exact .inr h
  ·omega
theorem Bag.set {e:TypeId} {N N':Heaplet} {vs:List Value} {xs:List (List UInt8)} {i n c:Nat} {x:List UInt8} {p:Option Addr} (h:Bag e N vs xs) (hv:vs[i]? =some (Value.slice p n c)) (hr:Row N' e 1 p n c (u8s x)) (ho:Off p N N'):Bag e N' vs (xs.set i x):=by
 refine⟨by simp [h.len],fun j y hy=>?_,h.apart⟩
 by_cases hij:i=j
 ·subst hij
  have hlt:i<xs.length:=by
   have:=(List.getElem?_eq_some_iff.1 hy).1
   simpa using this
  rw [List.getElem?_set_self hlt]at hy
  cases hy
  have hlen:x.length=n:=by have:=hr.1;simpa using this
  subst hlen
  exact⟨p,c,hv,hr⟩
 ·rw [List.getElem?_set_ne hij]at hy
  obtain⟨q,d,h1,h2⟩:=h.row j y hy
  exact⟨q,d,h1,h2.off ho (h.apart j i q p _ _ _ _ (fun e=>hij e.symm) h1 hv)⟩
def joinL:List Heaplet→Heaplet
 | []=>nilH
 |N::t=>join2 N (joinL t)
theorem apart_joinL {A:Heaplet} : ∀ {Ns:List Heaplet},(∀N∈Ns,Apart A N)→Apart A (joinL Ns):=by
 intro Ns
 induction Ns with
 |nil=>intro _ k;exact .inr rfl
 |cons N t ih=>
  intro h k
  rcases h N (by simp) k with h1|h1
  ·exact .inl h1
  ·rcases ih (fun M hM=>h M (by simp [hM])) k with h2|h2
   ·exact .inl h2
   ·exact .inr (by simp [joinL,join2,h1,h2])
theorem Hp.packL {E:World} {w:World} : ∀ {Ns L:List Heaplet},Hp E (Ns++L) w→Hp E (joinL Ns::L) w:=by
 intro Ns
 induction Ns with
 |nil=>
  intro L h
  exact⟨h.os,h.tape,h.output,fun N hN=>by
   rcases List.mem_cons.1 hN with rfl|hN
   ·intro k o hk;cases hk
   ·exact h.sub N hN,by rw [List.pairwise_cons];exact⟨fun _ _ _=>.inl rfl,h.sep⟩⟩
 |cons N t ih=>
  intro L h
  have h1:Hp E (t++(N::L)) w:=h.perm (List.perm_middle.symm)
  exact((ih h1).perm (.swap ..)).merge
theorem le_joinL {Ns:List Heaplet} (hs:Ns.Pairwise Apart) {N:Heaplet} (hN:N∈Ns):N.le (joinL Ns):=by
 induction Ns with
 |nil=>cases hN
 |cons A t ih=>
  have hp:=List.pairwise_cons.1 hs
  rcases List.mem_cons.1 hN with rfl|hN
  ·exact join2_left
  ·exact Heaplet.le_trans (ih hp.2 hN) (join2_right (apart_joinL hp.1))
theorem Hp.unpackL {E:World} {L:List Heaplet} {w:World} {Ns:List Heaplet} (hs:Ns.Pairwise Apart) (h:Hp E (joinL Ns::L) w):Hp E (Ns++L) w:=by
 have hp:=List.pairwise_cons.1 h.sep
 refine⟨h.os,h.tape,h.output,fun N hN=>?_,?_⟩
 ·rcases List.mem_append.1 hN with hN|hN
  ·exact Heaplet.le_trans (le_joinL hs hN) (h.sub _ (by simp))
  ·exact h.sub N (by simp [hN])
 ·rw [List.pairwise_append]
  exact⟨hs,hp.2,fun a ha b hb=>(hp.1 b hb).le (le_joinL hs ha) (Heaplet.le_refl _)⟩
theorem Fn.pack {P:Program} {f:FuncId} {args:Array Value} {L0 Lr:List Heaplet} {Post Post':Value→List Heaplet→Prop} {As:List Heaplet} (hA:As.Pairwise Apart) (h:Fn P f args (As++L0) Lr Post)
 (hp: ∀v L,Post v L→ ∃Bs L1,L=Bs++L1∧(Bs.Pairwise Apart→Post' v (joinL Bs::L1))):Fn P f args (joinL As::L0) Lr Post':=by
 intro E w R hw hr
 have hw2:Hp E (As++L0++ [R]) w:=by
  rw [List.append_assoc]
  exact hw.unpackL hA
 refine(h E w R hw2 hr).mono ?_
 rintro e w' ⟨v,L,rfl,hP,hh⟩
 obtain⟨Bs,L1,rfl,hq⟩:=hp v L hP
 rw [List.append_assoc]at hh
 have hs:=(List.pairwise_append.1 hh.sep).1
 exact⟨v,_,rfl,hq hs,hh.packL⟩
def It.bytes:It→List UInt8
 |.mk _ bs _=>bs
def It.items:It→List It
 |.mk _ _ its=>its
def slB (x:IV):Value:=.slice x.ab x.nb x.cb
mutual
def DepB (M:Heaplet):It→IV→Prop
 |.mk _ _ its,x=> ∃xs,RSl M 3 x.ai x.ni x.ci (cellsI xs)∧Bag 5 M (xs.map slB) (its.map It.bytes)∧DepBs M its xs
def DepBs (M:Heaplet):List It→List IV→Prop
 | [],xs=>xs= []
 |t::ts,xs=> ∃x r,xs=x::r∧DepB M t x∧DepBs M ts r
end
mutual
theorem DepB.le {N M:Heaplet} (hl:N.le M): ∀ {t:It} {x:IV},DepB N t x→DepB M t x
 |.mk l bs its,x,h=>by
  simp only [DepB]at h⊢
  obtain⟨xs,h1,h2,h3⟩:=h
  exact⟨xs,h1.le hl,h2.le hl,DepBs.le hl h3⟩
theorem DepBs.le {N M:Heaplet} (hl:N.le M): ∀ {ts:List It} {xs:List IV},DepBs N ts xs→DepBs M ts xs
 | [],xs,h=>by simp only [DepBs]at h⊢;exact h
 |t::ts,xs,h=>by
  simp only [DepBs]at h⊢
  obtain⟨x,r,h1,h2,h3⟩:=h
  exact⟨x,r,h1,DepB.le hl h2,DepBs.le hl h3⟩
end
theorem DepBs.nil (M:Heaplet):DepBs M [] []:=by simp only [DepBs]
theorem DepBs.snoc {M:Heaplet} : ∀ {ts:List It} {xs:List IV} {t:It} {x:IV},DepBs M ts xs→DepB M t x→DepBs M (ts++ [t]) (xs++ [x])
 | [],xs,t,x,h,k=>by
  simp only [DepBs]at h
  subst h
  show DepBs M [t] [x]
  simp only [DepBs]
  exact⟨x,[],rfl,k,rfl⟩
 |u::ts,xs,t,x,h,k=>by
  simp only [DepBs]at h
  obtain⟨y,r,rfl,h2,h3⟩:=h
  show DepBs M (u::(ts++ [t])) (y::(r++ [x]))
  simp only [DepBs]
  exact⟨y,r++ [x],rfl,h2,DepBs.snoc h3 k⟩
def OwnTop (M:Heaplet) (t:It) (x:IV):Prop:=DepB M t x∧ ∃NB NR NS xs,[NB,NR,NS].Pairwise Apart∧M=joinL [NB,NR,NS]∧Row NB 5 1 x.ab x.nb x.cb (u8s t.bytes)∧Row NR 91 3 x.ai x.ni x.ci (cellsI xs)∧xs.length=x.ni∧Bag 5 NS (xs.map slB) (t.items.map It.bytes)
def Small (t:It) (n:Nat):Prop:=t.bytes.length≤n∧ ∀u∈t.items,u.bytes.length≤n
theorem OwnTop.row {M:Heaplet} {t:It} {x:IV} (h:OwnTop M t x):Row M 5 1 x.ab x.nb x.cb (u8s t.bytes):=by
 obtain⟨_,NB,NR,NS,xs,h1,rfl,h3,_⟩:=h
 exact h3.le (le_joinL h1 (by simp))
theorem Bag.more {Ns M:Heaplet} {done:List It} {xs:List IV} {t:It} {x:IV} (h:Bag 5 Ns (xs.map slB) (done.map It.bytes)) (hr:Row M 5 1 x.ab x.nb x.cb (u8s t.bytes)) (ha:Apart Ns M):Bag 5 (join2 Ns M) ((xs++ [x]).map slB) ((done++ [t]).map It.bytes):=by
 have hl:t.bytes.length=x.nb:=by have:=hr.1;simpa using this
 have h2:Row M 5 1 x.ab t.bytes.length x.cb (u8s t.bytes):=by rw [hl];exact hr
 have:=h.snoc h2 ha.symm
 rw [List.map_append,List.map_append]
 show Bag _ _ (xs.map slB++ [slB x]) (done.map It.bytes++ [t.bytes])
 rw [slB, ←hl]
 refine this.le ?_
 intro k o hk
 simp only [join2]at hk⊢
 rcases ha k with h0|h0
 ·rw [h0];rw [h0]at hk
  cases hm:M k with
  |none=>rw [hm]at hk;cases hk
  |some o'=>rw [hm]at hk;simpa using hk
 ·rw [h0]at hk
  cases hn:Ns k with
  |none=>rw [hn]at hk;cases hk
  |some o'=>rw [hn]at hk;simpa using hk
def DecO (ao:Option Addr) (n cap:Nat) (b:List UInt8) (r:Except Nat (It×List UInt8)) (v:Value) (L:List Heaplet):Prop:=
 (∃t q M, ∃x:IV, ∃aq cq,r=.ok (t,q)∧v=.tuple #[.agg #[.bool x.l,.slice x.ab x.nb x.cb,.slice x.ai x.ni x.ci],.slice aq q.length cq,.int .i64 0]∧L= [M]∧ItN M t x∧OwnTop M t x∧Small t b.length∧ ∀N,RSl N 1 ao n cap (u8s b)→RSl N 1 aq q.length cq (u8s q))∨
 (∃e:Nat,r=.error e∧v=.tuple #[.agg #[.bool false,.slice none 0 0,.slice none 0 0],.slice none 0 0,.int .i64 (e:Int)]∧L= []∧e≠0)
def DecodeO (nb:Nat) (r:Except Nat It) (v:Value) (L:List Heaplet):Prop:=
 (∃t M, ∃x:IV,r=.ok t∧v=.tuple #[.agg #[.bool x.l,.slice x.ab x.nb x.cb,.slice x.ai x.ni x.ci],.int .i64 0]∧L= [M]∧ItN M t x∧OwnTop M t x∧Small t nb)∨
 (∃e:Nat,r=.error e∧v=.tuple #[.agg #[.bool false,.slice none 0 0,.slice none 0 0],.int .i64 (e:Int)]∧L= []∧e≠0)
def DecW (nb:Nat) (v:Value) (L:List Heaplet):Prop:= ∃x:IV, ∃e:Int, ∃NB NR NS bb xs bbs,v=.tuple #[.agg #[.bool x.l,.slice x.ab x.nb x.cb,.slice x.ai x.ni x.ci],.int .i64 e]∧L= [NB,NR,NS]∧Row NB 5 1 x.ab x.nb x.cb (u8s bb)∧Row NR 91 3 x.ai x.ni x.ci (cellsI xs)∧xs.length=x.ni∧Bag 5 NS (xs.map slB) bbs∧bb.length≤nb∧ ∀u∈bbs,u.length≤nb
open Go Go.RowKit
set_option maxRecDepth 100000
def PartsQ (Np NI:Heaplet) (bp:Nat) (all:List It) (i E:Nat):Prop:= ∃ao n cap xs,Blk Np bp 105 [.slice ao n cap,.int .i64 (i:Int),.int .i64 (E:Int)]∧RSl NI 3 ao n cap (cellsI xs)∧ItsN NI all xs
def Stp {α:Type} (E:Nat) (r:Except Nat α) (x:α) (E':Nat):Prop:=(r=.ok x∧E'=E)∨ ∃e,r=.error e∧e≠0∧E'=if E=0 then e else E
def nxt (all:List It) (i:Nat):It:=all.getD i (itS [])
section
variable {Np NI : Heaplet} {bp i E : Nat} {all : List It}
def RawP (Np0:Heaplet) (NI:Heaplet) (bp:Nat) (all:List It) (i E:Nat) (r:Except Nat (List UInt8)) (v:Value) (L:List Heaplet):Prop:= ∃Np M a b c E',v=.slice a b.length c∧L= [Np,M]∧PartsQ Np NI bp all (i+1) E'∧(∀J:Heaplet,M.le J→NI.le J→RSl J 1 a b.length c (u8s b))∧Stp E r b E'∧(b.length=256∨r=.ok b)
def zer256:List UInt8:=List.replicate 256 0
def fillR (k:Nat) (h:List UInt8) (i:Nat):List UInt8:=h.take i++List.replicate (k- i) 0
def ArrP (Np0 NI:Heaplet) (bp:Nat) (all:List It) (i E k:Nat) (v:Value) (L:List Heaplet):Prop:= ∃Np b E',v=.agg (u8s b).toArray∧b.length=k∧L= [Np]∧PartsQ Np NI bp all (i+1) E'∧Stp E (fixE k (nxt all i)) b E'
end
end Go.Proofs.YtjfagifjajielaaGreat
