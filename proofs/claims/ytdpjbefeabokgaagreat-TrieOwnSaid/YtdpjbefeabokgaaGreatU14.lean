/- Several texts in one: see the remarks ahead of each part. No condition but those told there. -/
import Derived.Test.YtdpjbefeabokgaaGreatU11
import Derived.Test.YtdpjbefeabokgaaGreatU13
import Derived.Test.YtdpjbefeabokgaaGreatU10
import Derived.Test.YtdpjbefeabokgaaGreatU4
import Derived.Maps.OwnSet
import Derived.DeepKeys4
import Derived.Test.YtdpjbefeabokgaaGreatU12
import Derived.Shelf.SlIter.Nil
import Derived.Shelf.SortM.Plain
import Derived.Shelf.SortM.SortNone
import Derived.Ground.GgzProg
import Derived.Ground.SlgmProg
import Derived.Test.YtdpjbefeabokgaaGreatProg
import Derived.Laws.IdiomStrings
set_option linter.unusedSimpArgs false
set_option linter.unusedVariables false
/- Layer 12 in plain words: keys put in turned order, with others put and taken away between. No condition. -/
namespace Go.Proofs.YtdpjbefeabokgaaGreat
open Go Go.RowKit
theorem get_del {R:List PR} (h:Dis R) (k j:List UInt8):getR (delM k R) j=if j=k then none else getR R j:=by
 split
 ·rename_i e
  exact get_none fun p hp e2=>(mem_del.1 hp).2 (e2.trans e)
 ·rename_i e
  refine get_ext (h.del k) h fun v=>?_
  rw [mem_del]
  exact⟨fun x=>x.1,fun x=>⟨x,e⟩⟩
theorem get_put {R:List PR} (h:Dis R) {k v:List UInt8} (h0:v≠ []) (j:List UInt8):getR (putM k v R) j=if j=k then some v else getR R j:=by
 have e:putM k v R=delM k R++ [(k,v)]:=if_neg h0
 split
 ·rename_i ej
  refine(get_iff (h.put k v)).2 ?_
  rw [e,ej];simp
 ·rename_i ej
  refine get_ext (h.put k v) h fun u=>?_
  rw [e,List.mem_append,mem_del,List.mem_singleton]
  constructor
  ·rintro(x|x)
   ·exact x.1
   ·simp only [Prod.mk.injEq]at x;exact absurd x.1 ej
  ·intro x;exact .inl ⟨x,ej⟩
theorem has_get {R:List PR} (h:Dis R) {k:List UInt8} :hasM k R=true↔getR R k≠none:=by
 rw [←get_has h]
 cases getR R k<;>simp
theorem get_perm {R S:List PR} (hr:Dis R) (hs:Dis S) (h: ∀k,getR R k=getR S k):R.Perm S:=
 perm_mem hr hs fun p=>by rw [show p=(p.1,p.2)from rfl, ←get_iff hr, ←get_iff hs,h]
/-- While keys ks are put with T's values, the others oth ahead of each. -/
structure Ord2 (T U:List PR) (oth ks:List (List UInt8)) (i:Nat):Prop where
 good:Good U
 out: ∀k,(∀j,j<i→oth[j]? ≠some k)→((∃j,j<i∧ks[j]? =some k)→getR U k=getR T k)∧((∀j,j<i→ks[j]? ≠some k)→getR U k=none)
 inn: ∀j,j<i→ ∀k,oth[j]? =some k→hasM k U=true
theorem Ord2.start (T:List PR) (oth ks:List (List UInt8)):Ord2 T [] oth ks 0:=
 ⟨Good.nil,fun k _=>⟨fun⟨j,h,_⟩=>absurd h (Nat.not_lt_zero j),fun _=>rfl⟩,fun j h=>absurd h (Nat.not_lt_zero j)⟩
theorem Ord2.step {T U V:List PR} {oth ks:List (List UInt8)} {i:Nat} {k v:List UInt8} (h:Ord2 T U oth ks i) (hT:Good T) (hk:ks[i]? =some k) (hg:getR T k=some v)
 (hV:(∃o,oth[i]? =some o∧o.length≤40∧V=putM o [120] U)∨(oth[i]? =none∧V=U)):Ord2 T (putM k v V) oth ks (i+1):=by
 have hkv:=(get_iff hT.dis).1 hg
 have hv0:=(hT.val _ hkv).1
 have gV:Good V:=by
  rcases hV with ⟨o,_,h1,rfl⟩|⟨_,rfl⟩
  ·exact h.good.put h1 (by simp)
  ·exact h.good
 have hVget: ∀j,(oth[i]? ≠some j)→getR V j=getR U j:=fun j hj=>by
  rcases hV with ⟨o,e,h1,rfl⟩|⟨_,rfl⟩
  ·rw [get_put h.good.dis (by simp),if_neg (fun e2=>hj (by rw [e,e2]))]
  ·rfl
 have hVhas: ∀j,hasM j U=true→hasM j V=true:=fun j hj=>by
  rcases hV with ⟨o,e,h1,rfl⟩|⟨_,rfl⟩
  ·rw [has_get (h.good.dis.put _ _),get_put h.good.dis (by simp)]
   split
   ·simp
   ·exact(has_get h.good.dis).1 hj
  ·exact hj
 refine⟨gV.put (hT.key _ hkv) (hT.val _ hkv).2,fun j hj=>?_,fun j hj o ho=>?_⟩
 ·have h1:=h.out j fun a ha=>hj a (by omega)
  rw [get_put gV.dis hv0]
  refine⟨fun hx=>?_,fun hx=>?_⟩
  ·split
   ·rename_i e;rw [e,hg]
   ·rename_i e
    rw [hVget j (hj i (by omega))]
    obtain⟨a,ha,hka⟩:=hx
    refine h1.1 ⟨a,?_,hka⟩
    rcases Nat.lt_or_ge a i with q|q
    ·exact q
    ·have:a=i:=by omega
     rw [this,hk]at hka
     exact absurd (Option.some.inj hka).symm e
  ·split
   ·rename_i e;exact absurd (by rw [e];exact hk) (hx i (by omega))
   ·rw [hVget j (hj i (by omega))]
    exact h1.2 fun a ha=>hx a (by omega)
 ·rw [has_get (gV.dis.put _ _),get_put gV.dis hv0]
  split
  ·simp
  ·refine(has_get gV.dis).1 ?_
   rcases Nat.lt_or_ge j i with q|q
   ·exact hVhas o (h.inn j q o ho)
   ·have:j=i:=by omega
    rw [this]at ho
    rcases hV with ⟨o',e,h1,rfl⟩|⟨e,_⟩
    ·rw [ho]at e
     rw [←Option.some.inj e,has_get (h.good.dis.put _ _),get_put h.good.dis (by simp),if_pos rfl]
     simp
    ·rw [ho]at e;cases e
/-- While the others are set right again. -/
structure Ord3 (T U:List PR) (oth:List (List UInt8)) (n i:Nat):Prop where
 good:Good U
 out: ∀k,(∀j,i≤j→j<n→oth[j]? ≠some k)∨(∃j,j<i∧oth[j]? =some k)→getR U k=getR T k
 inn: ∀j,i≤j→j<n→ ∀k,oth[j]? =some k→(∀a,a<i→oth[a]? ≠some k)→hasM k U=true
theorem Ord2.ends {T U:List PR} {oth ks:List (List UInt8)} {n:Nat} (h:Ord2 T U oth ks n) (hT:Dis T) (hks: ∀k,hasM k T=true→ ∃j:Nat,j<n∧ks[j]? =some k) (hks2: ∀(j:Nat) (k:List UInt8),ks[j]? =some k→hasM k T=true):Ord3 T U oth n 0:=by
 refine⟨h.good,fun k hk=>?_,fun j _ hj k ho _=>h.inn j hj k ho⟩
 rcases hk with hk|⟨j,hj,_⟩
 ·have h1:=h.out k fun j hj=>hk j (Nat.zero_le _) hj
  cases hh:hasM k T with
  |true=>exact h1.1 (hks k hh)
  |false=>
   have e:getR T k=none:=by
    cases hg:getR T k with
    |none=>rfl
    |some v=>have:=(has_get hT (k:=k)).2 (by rw [hg];simp);rw [hh]at this;cases this
   rw [e]
   refine h1.2 fun j _ hj=>?_
   have:=hks2 j k hj
   rw [hh]at this;cases this
 ·exact absurd hj (Nat.not_lt_zero j)
theorem Ord3.put {T U:List PR} {oth:List (List UInt8)} {n i:Nat} {k v:List UInt8} (h:Ord3 T U oth n i) (hT:Good T) (ho:oth[i]? =some k) (hg:getR T k=some v):Ord3 T (putM k v U) oth n (i+1):=by
 have hkv:=(get_iff hT.dis).1 hg
 have hv0:=(hT.val _ hkv).1
 refine⟨h.good.put (hT.key _ hkv) (hT.val _ hkv).2,fun j hj=>?_,fun j h1 h2 o h3 h4=>?_⟩
 ·rw [get_put h.good.dis hv0]
  split
  ·rename_i e;rw [e,hg]
  ·rename_i e
   refine h.out j ?_
   rcases hj with hj|⟨a,ha,e2⟩
   ·refine .inl fun a h1 h2 h3=>?_
    rcases Nat.lt_or_ge i a with q|q
    ·exact hj a (by omega) h2 h3
    ·have:a=i:=by omega
     rw [this,ho]at h3
     exact e (Option.some.inj h3).symm
   ·rcases Nat.lt_or_ge a i with q|q
    ·exact .inr ⟨a,q,e2⟩
    ·have:a=i:=by omega
     rw [this,ho]at e2
     exact absurd (Option.some.inj e2).symm e
 ·rw [has_get (h.good.dis.put _ _),get_put h.good.dis hv0]
  split
  ·simp
  ·exact(has_get h.good.dis).1 (h.inn j (by omega) h2 o h3 fun a ha=>h4 a (by omega))
theorem Ord3.del {T U:List PR} {oth:List (List UInt8)} {n i:Nat} {k:List UInt8} (h:Ord3 T U oth n i) (ho:oth[i]? =some k) (hg:getR T k=none):Ord3 T (delM k U) oth n (i+1):=by
 refine⟨h.good.del k,fun j hj=>?_,fun j h1 h2 o h3 h4=>?_⟩
 ·rw [get_del h.good.dis]
  split
  ·rename_i e;rw [e,hg]
  ·rename_i e
   refine h.out j ?_
   rcases hj with hj|⟨a,ha,e2⟩
   ·refine .inl fun a h1 h2 h3=>?_
    rcases Nat.lt_or_ge i a with q|q
    ·exact hj a (by omega) h2 h3
    ·have:a=i:=by omega
     rw [this,ho]at h3
     exact e (Option.some.inj h3).symm
   ·rcases Nat.lt_or_ge a i with q|q
    ·exact .inr ⟨a,q,e2⟩
    ·have:a=i:=by omega
     rw [this,ho]at e2
     exact absurd (Option.some.inj e2).symm e
 ·rw [has_get (h.good.dis.del _),get_del h.good.dis]
  split
  ·rename_i e
   exact absurd (by rw [e];exact ho) (h4 i (by omega))
  ·exact(has_get h.good.dis).1 (h.inn j (by omega) h2 o h3 fun a ha=>h4 a (by omega))
/-- A key that is taken away a second time stands ahead. -/
theorem Ord3.again {T U:List PR} {oth:List (List UInt8)} {n i:Nat} {k:List UInt8} (h:Ord3 T U oth n i) (hi:i<n) (ho:oth[i]? =some k) (hd:hasM k U=false): ∃a,a<i∧oth[a]? =some k:=by
 refine Classical.byContradiction fun hn=>?_
 have:=h.inn i (Nat.le_refl _) hi k ho fun a ha e=>hn ⟨a,ha,e⟩
 rw [hd]at this;cases this
theorem Ord3.perm {T U:List PR} {oth:List (List UInt8)} {n i:Nat} (h:Ord3 T U oth n i) (hT:Dis T) (hi: ∀j,i≤j→j<n→oth[j]? =none):U.Perm T:=
 get_perm h.good.dis hT fun k=>h.out k (.inl fun j h1 h2 h3=>by rw [hi j h1 h2]at h3;cases h3)
end Go.Proofs.YtdpjbefeabokgaaGreat
/- Layer 12, the reference: a trie's keys and values in any order; it is searched, read, and has a root. No condition but bounds. -/
namespace Go.Proofs.YtdpjbefeabokgaaGreat
open Go Go.RowKit
set_option maxRecDepth 100000
theorem rNode: ∀f:Nat,NodeR f
 |0=>fun Ns l xs ao n cap h E w R hw hr=>by
  have hf:=(h R hr).fit
  obtain rfl:l= []:=by
   cases l with
   |nil=>rfl
   |cons p l=>exact absurd (hf.len p (by simp)) (by omega)
  exact rNode_nil Ns 0 xs ao n cap h E w R hw hr
 |f+1=>fun Ns l xs ao n cap h=>by
  match l,h with
  | [],h=>exact rNode_nil Ns (f+1) xs ao n cap h
  | [p],h=>exact rNode_one Ns (f+1) p xs ao n cap h
  |p::q::r,h=>
   by_cases hs:0<shar (p::q::r)
   ·exact rNode_ext (rNode f) Ns p (q::r) xs ao n cap h (by simp) hs
   ·exact rNode_bra (rNode f) Ns p (q::r) xs ao n cap h (by simp) hs
/-- The reference's trie at block bt, as it is read in N. -/
def RefS (N:Heaplet) (bt:Nat) (R0:List PR):Prop:= ∃ka kc va vc ks vs,Blk N bt 52 [.slice ka R0.length kc,.slice va R0.length vc]∧RSl N 1 ka R0.length kc ks∧RSl N 1 va R0.length vc vs∧Bags N ks (R0.map Prod.fst)∧Bags N vs (R0.map Prod.snd)∧Good R0
theorem RefS.le {N M:Heaplet} {bt:Nat} {R0:List PR} (h:RefS N bt R0) (hl:N.le M):RefS M bt R0:=by
 obtain⟨ka,kc,va,vc,ks,vs,h1,h2,h3,h4,h5,h6⟩:=h
 exact⟨ka,kc,va,vc,ks,vs,h1.le hl,h2.le hl,h3.le hl,h4.le hl,h5.le hl,h6⟩
theorem bags_at {N:Heaplet} {f:PR→List UInt8} {R0:List PR} {ks:List Value} {i:Nat} {p:PR} (h:Bags N ks (R0.map f)) (hp:R0[i]? =some p): ∃a c,ks[i]? =some (.slice a (f p).length c)∧RSl N 1 a (f p).length c (u8s (f p)):=
 h.rsl i (f p) (by rw [List.getElem?_map,hp];rfl)
/-- Where a key stands. -/
def AtP (k:List UInt8) (R0:List PR) (v:Value) (L:List Heaplet):Prop:= ∃z:Int,v=.int .i64 z∧L= []∧((hasM k R0=false∧z= -1)∨ ∃(i:Nat) (x:List UInt8),z=(i:Int)∧R0[i]? =some (k,x))
section
variable {Nt K : Heaplet} {bt : Nat} {R0 : List PR} {ka : Option Addr} {kn kc : Nat} {k : List UInt8}
theorem rAt (h:RefS Nt bt R0) (hk:RSl K 1 ka kn kc (u8s k)):Fn Tryz.prog 54 #[.pointer (some ⟨bt,0,none⟩),.slice ka kn kc] [] [Nt,K] (AtP k R0):=by
 have hkl:=hk.len8
 obtain⟨aa,ac,va,vc,ks,vs,Bt,rk,rv,bk,bv,hG⟩:=h
 have hcap:=rk.cap63
 refine Fn.enter (vs:= [.pointer (some ⟨bt,0,none⟩),.slice ka kn kc]) Tryz.func54 rfl rfl rfl ?_
 intro E R hR
 have hk:=hk.le (hR K (by simp))
 have hle:=hR Nt (by simp)
 have BR:=Bt.le hle
 have rk:=rk.le hle
 have bk:=bk.le hle
 change At _ _ E [R] _
 refine At.seq fun _ s_1=>At.region (aE (aD rfl) rfl rfl (aA (aB (s_1 (At.seq fun _ s_2=>At.seq fun _ s_3=>At.region (aE (aD rfl) rfl rfl (aA (aB (s_3 (At.block (At.loop (fun fr_ hp_ ms_=> ∃(i:Nat),fr_= [(0,.pointer (some ⟨bt,0,none⟩)),(1,.slice ka kn kc),(5,.int .i64 (i:Int))]∧hp_= [R]∧R0.length- i=ms_∧(i≤R0.length)∧(∀j p,j<i→R0[j]? =some p→p.1≠k)) ?_ (.refl _) ⟨0,rfl,rfl,rfl,Nat.zero_le _,fun j p hj=>absurd hj (Nat.not_lt_zero j)⟩ ?_)))))))))))
 ·exact .cons (by first|exact aP rfl (by omega)|rfl) (.cons (by first|exact aP rfl (by omega)|rfl) (.cons (by first|exact aP rfl (by omega)|rfl) .nil))
 rintro _ _ _ ⟨i,rfl,rfl,rfl,hi,hno⟩
 refine At.seq fun _ s_4=>At.seq fun _ s_5=>At.region (aC (aD rfl) rfl rfl (aC (aD rfl) rfl rfl (aQ (aD rfl) rfl rfl (aF (aD rfl) fl52_0 rfl rfl (aI (aD rfl) sc22 rfl BR (by first|rfl) aL rfl ?_)))))
 refine aU (aD rfl) se22 rfl rfl (op_lss (aD rfl) rfl rfl rfl (aA (aB (s_5 (aK rfl (fun c12=>?_) (fun c12=>?_))))))
 ·obtain⟨p,hp⟩: ∃p,R0[i]? =some p:=⟨_,List.getElem?_eq_getElem (by omega)⟩
  obtain⟨a,c,hc,hs⟩:=bags_at (f:=Prod.fst) bk hp
  refine At.skip (aB (s_4 (At.seq fun _ s_6=>At.block (At.seq fun _ s_7=>At.drawn [] [0,1,2,3,4,5,6,7,8,9,10] (by kernel_rfl) (by kernel_rfl) (aC (aN rfl rfl rfl (by kernel_rfl)) rfl rfl (aQ (aN rfl rfl rfl (by kernel_rfl)) rfl rfl (aF (aN rfl rfl rfl (by kernel_rfl)) fl52_0 rfl rfl (aI (aN rfl rfl rfl (by kernel_rfl)) sc22 rfl BR (by first|rfl) aL rfl ?_))))))))
  refine aC (aN rfl rfl rfl (by kernel_rfl)) rfl rfl (bI (aN rfl rfl rfl (by kernel_rfl)) se22 rfl rfl rk (show _=(((i:Nat)):Int)from by omega) (by omega) rfl ?_)
  refine aT (aN rfl rfl rfl (by kernel_rfl)) sc23 rfl rk (by first|exact get8 (by omega)|exact bT (by omega)|exact bU (by omega)|exact hc) (by first|exact aL|exact aZ|exact bB|exact bF|exact bG|exact bH|exact bL|exact bK|exact bJ|exact bM) rfl ?_
  refine op_str (aN rfl rfl rfl (by kernel_rfl)) Tryz.underlying23 Tryz.underlying5 Tryz.underlying9 rfl (by assumption) (by first|exact aL|exact aZ|exact bB|exact bF|exact bG|exact bH|exact bL|exact bK|exact bJ|exact bM) rfl ?_
  refine aC (aN rfl rfl rfl (by kernel_rfl)) rfl rfl (op_str (aN rfl rfl rfl (by kernel_rfl)) Tryz.underlying23 Tryz.underlying5 Tryz.underlying9 rfl (by assumption) (by first|exact aL|exact aZ|exact bB|exact bF|exact bG|exact bH|exact bL|exact bK|exact bJ|exact bM) rfl ?_)
  refine op_eqS (aN rfl rfl rfl (by kernel_rfl)) rfl rfl rfl (At.oneNil (aB (s_7 (aK rfl (fun c25=>?_) (fun c25=>?_)))))
  ·refine At.seq fun _ s_8=>At.region (aC (aD rfl) rfl rfl (aE (aD rfl) rfl rfl (aA (aB (s_8 (At.ret (At.inRet (aM (aM (At.inRet (aM ((aW (L1:= []) rfl (.tmp rfl .nil) (.refl _) (.refl _) ?_)))))))))))))
   exact⟨_,rfl,rfl,.inr ⟨i,p.2,rfl,by rw [hp, ←c25]⟩⟩
  refine At.skip (aR (aB (s_6 (At.region (aC (aD rfl) rfl rfl (aV (aD rfl) rfl rfl (by omega) (by omega) rfl (aE (aD rfl) rfl rfl (aA (aB ?_)))))))))
  refine bD ?_ (.refl _) ⟨i+1,rfl,rfl,rfl,by omega,fun j q hj hq=>by rcases Nat.lt_or_ge j i with hh|hh;exact hno j q hh hq;rw [show j=i by omega,hp]at hq;rw [←Option.some.inj hq];exact c25⟩ ?_
  ·exact .cons (by first|exact aP rfl (by omega)|rfl) (.cons (by first|exact aP rfl (by omega)|rfl) (.cons (by first|exact aP rfl (by omega)|rfl) .nil))
  ·omega
 refine At.exit (aG (aG (bC (aB (s_2 (At.seq fun _ s_9=>At.region (aE (aD rfl) rfl rfl (aA (aB (s_9 (At.ret ((aW (L1:= []) rfl (.tmp rfl .nil) (.refl _) (.refl _) (⟨_,rfl,rfl,.inl ⟨?_,rfl⟩⟩))))))))))))))
 cases hh:hasM k R0 with
 |false=>rfl
 |true=>
  obtain⟨v,hv⟩:=has_iff.1 hh
  obtain⟨j,hj,e⟩:=List.mem_iff_getElem.1 hv
  exact absurd rfl (hno j (k,v) (by omega) (by rw [List.getElem?_eq_getElem hj,e]))
end
end Go.Proofs.YtdpjbefeabokgaaGreat
/- Layer 12: the node of any pairs, and its form. No condition but bounds. -/
namespace Go.Proofs.YtdpjbefeabokgaaGreat
open Go Go.RowKit
set_option maxRecDepth 100000
theorem FNode: ∀f:Nat,NodeF f
 |0=>fun Ns l xs ao n cap h E w R hw hr=>by
  have hf:=(h R hr).fit
  obtain rfl:l= []:=by
   cases l with
   |nil=>rfl
   |cons p l=>exact absurd (hf.len p (by simp)) (by omega)
  exact FNode_nil Ns 0 xs ao n cap h E w R hw hr
 |f+1=>fun Ns l xs ao n cap h=>by
  match l,h with
  | [],h=>exact FNode_nil Ns (f+1) xs ao n cap h
  | [p],h=>exact FNode_one Ns (f+1) p xs ao n cap h
  |p::q::r,h=>
   by_cases hs:0<shar (p::q::r)
   ·exact FNode_ext (FLink (FNode f)) Ns _ xs ao n cap h (by simp) hs
   ·exact FNode_bra (FLink (FNode f)) Ns _ xs ao n cap h (by simp) hs
theorem FForm {f:Nat} {Ns:List Heaplet} {l:List PR} {xs:List PV} {ao:Option Addr} {n cap:Nat} (h:PsL Ns f l xs ao n cap):Fn Tryz.prog 42 #[.slice ao n cap] [] Ns (fun v L=> ∃M a c,v=.slice a (nodeF f l).form.length c∧L= [M]∧Row M 5 1 a (nodeF f l).form.length c (u8s (nodeF f l).form)):=by
 have hN:=FNode f Ns l xs ao n cap h
 have hdp:=node_depth f l
 have hsm:(nodeF f l).form.length≤2000000∨ ∀R:Heaplet, ¬ ∀N∈Ns,N.le R:=by
  rcases Classical.em (∃R:Heaplet, ∀N∈Ns,N.le R)with ⟨R,hR⟩|k
  ·exact .inl (node_small f (h R hR).fit.sml)
  ·exact .inr fun R hR=>k ⟨R,hR⟩
 obtain⟨t,ht⟩: ∃t,nodeF f l=t:=⟨_,rfl⟩
 rw [ht]at hsm hdp hN⊢
 refine Fn.enter (vs:= [.slice ao n cap]) Tryz.func42 rfl rfl rfl ?_
 intro E R hR
 have hsm:t.form.length≤2000000:=hsm.elim id fun k=>absurd hR (k R)
 change At _ _ E [R] _
 refine At.seq fun _ s_1=>At.region (aE (aD rfl) rfl rfl (aA (aB (s_1 (At.seq fun _ s_2=>At.region (aC (aD rfl) rfl rfl (aJ (bA rfl) (.cons rfl .nil) (hN.liftN hR) Tryz.func65 rfl rfl (by simp) rfl ?_)))))))
 rintro v7 L7 ⟨M7,x,rfl,rfl,hx⟩
 change At _ _ _ [M7,R] _
 refine aJ (bA rfl) (.cons rfl .nil) (Fn.overJ (Ns:= [M7,R]) fun J hJ=>Encode_ok (hx J (hJ _ (by simp)) (fun N hN=>Heaplet.le_trans (hR N hN) (hJ _ (by simp)))) (by omega) (by omega)) Tryz.func32 rfl rfl (by simp) rfl ?_
 rintro v8 L8 ⟨M8,a8,c8,rfl,rfl,r8⟩
 change At _ _ _ [M8,M7,R] _
 refine aC (aD rfl) rfl rfl (aS (aD rfl) rfl rfl rfl (aS (aD rfl) rfl rfl rfl (aE (aD rfl) rfl rfl (aE (aD rfl) rfl rfl (aA (aB (s_2 (At.seq fun _ s_3=>At.region (aC (aD rfl) rfl rfl (aE (aD rfl) rfl rfl (aA (aB (s_3 (At.ret ((At.sub (L':= [M8,R]) (.cons_cons _ (.cons _ (.cons_cons _ (.slnil)))) (aW (L1:= [M8]) rfl (.tmp rfl .nil) (.refl _) (.refl _) ?_)))))))))))))))))
 exact⟨M8,a8,c8,rfl,rfl,r8⟩
end Go.Proofs.YtdpjbefeabokgaaGreat
/- The engine: maps of whatever values, made, written, read and struck out of. For whatever program. No condition. -/
namespace Go.Proofs.YtdpjbefeabokgaaGreat
open Go Go.RowKit
open Go.Maps (Keyed)
open Go.MapKept Go.ChangeShapes Go.WideShapes
/-- A value read as itself. -/
def heldV (v:Value):Option (DataW Value×List MemPlace):=some (.held v,[])
/-- Block b of N is a map of at most n keys that reads as D. -/
def MapV (P:Program) (k:TypeId) (N:Heaplet) (b n:Nat) (D:DataW Value):Prop:= ∃es clock,N b=some (.map es clock)∧ ∀w:World,w.heap[b]? =some (.map es clock)→w.ownsMap P k heldV b n D
theorem MapV.le {P:Program} {k:TypeId} {N M:Heaplet} {b n:Nat} {D:DataW Value} (h:MapV P k N b n D) (hl:N.le M):MapV P k M b n D:=let ⟨es,c,h1,h2⟩:=h;⟨es,c,hl _ _ h1,h2⟩
theorem MapV.mono {P:Program} {k:TypeId} {N:Heaplet} {b n m:Nat} {D:DataW Value} (h:MapV P k N b n D) (hl:n≤m):MapV P k N b m D:=let ⟨es,c,h1,h2⟩:=h;⟨es,c,h1,fun w hw=>(h2 w hw).mono hl⟩
/-- Another block's cells are read as before. -/
theorem MapV.off {P:Program} {k:TypeId} {N N':Heaplet} {b n:Nat} {D:DataW Value} (h:MapV P k N b n D) (ho: ∀j,j≠b→N' j=N j) {c i:Nat} {v:Value} (hc:cellOf N c i=some v):cellOf N' c i=some v:=by
 obtain⟨es,cl,h1,_⟩:=h
 by_cases e:c=b
 ·unfold cellOf at hc
  rw [e,h1]at hc;cases hc
 ·unfold cellOf at hc⊢
  rw [ho c e];exact hc
theorem MapV.rsl {P:Program} {k:TypeId} {N N':Heaplet} {b n:Nat} {D:DataW Value} (h:MapV P k N b n D) (ho: ∀j,j≠b→N' j=N j) {size:Nat} {ao:Option Addr} {m cap:Nat} {xs:List Value} (hr:RSl N size ao m cap xs):RSl N' size ao m cap xs:=
 ⟨hr.1,hr.2.1,hr.2.2.1,fun h0=>let ⟨b',off,e,hg⟩:=hr.2.2.2 h0;⟨b',off,e,fun i hi=>h.off ho (hg i hi)⟩⟩
theorem MapV.ne {P:Program} {k:TypeId} {N:Heaplet} {b n c:Nat} {D:DataW Value} {e:TypeId} {cs:List Value} (h:MapV P k N b n D) (hb:Blk N c e cs):c≠b:=fun e=>by
 obtain⟨es,cl,h1,_⟩:=h
 unfold Blk at hb
 rw [e,h1]at hb;cases hb
theorem MapV.blk {P:Program} {k:TypeId} {N N':Heaplet} {b n c:Nat} {D:DataW Value} {e:TypeId} {cs:List Value} (h:MapV P k N b n D) (ho: ∀j,j≠b→N' j=N j) (hb:Blk N c e cs):Blk N' c e cs:=by
 have:=h.ne hb
 unfold Blk at hb⊢
 rw [ho c this];exact hb
theorem keyOf_strV {P:Program} {k:TypeId} (hk:P.underlying k=some .string) {x:List UInt8} (h:x.length≤maxLen):keyOf P k (str x)=some (.string x):=by
 simp [keyOf,hk,mapKey,str,ByteArray.size,h]
section
variable {P : Program} {n : Nat} {l : List (Nat × Value)} {E : World} {L L1 Ls : List Heaplet} {X Y : Act → World → Prop} {d : Nat} {t t' ty k e : TypeId} {m x y : Operand} {N : Heaplet} {b c : Nat} {D : DataW Value}
theorem op_makeMapV {pos:_} {aft:_} {g:_} (k:TypeId) (s:NxA P n l E L ⟨some d,.makeMap t none,ty,pos,aft,g⟩ X Y) (hn:Nat.ble (d+1) n=true) (h: ∀N b,MapV P k N b 0 (.map [])→At n ((d,.map (some b))::l) E (N::L) Y):At n l E L X:=by
 refine op_new s (fun v L'=> ∃N b,v=.map (some b)∧L'=N::L∧MapV P k N b 0 (.map [])) (fun a w hf hw=>?_) rfl hn (fun v L' ⟨N,b,hv,hL,hB⟩=>by subst hv;subst hL;exact h N b hB)
 refine⟨.map (some w.heap.size),w.alloc (.map #[] 0),_,?_,Agree.alloc w _,hw.alloc _,single w.heap.size (.map #[] 0),w.heap.size,rfl,rfl, #[],0,single_self _ _,fun w' hw'=>?_⟩
 ·simp only [execOp,Instr.makeMap,Option.map_none,Sem.run_bind,Sem.run_pure,Result.andThen_ok]
  rfl
 ·exact⟨#[],0,hw',⟨by simp,stamped_empty 0,by simp⟩,Nat.le_refl _,rfl⟩
theorem op_mapUpdateV {pos:_} {aft:_} {g:_} {key val:Value} {kl:Lit} (s:Nx P n l E L ⟨none,.mapUpdate t m x y,ty,pos,aft,g⟩ X Y) (K:Keyed P k) (ht:P.underlying t=some (.map k e)) (hm:ev l m=some (.map (some b))) (hx:ev l x=some key) (hy:ev l y=some val) (hb:MapV P k N b c D) (hc:c<maxLen) (hk:keyOf P k key=some kl) (hs:L.Perm (N::L1))
 (h: ∀N',MapV P k N' b (c+1) (D.put kl (.held val))→(∀j,j≠b→N' j=N j)→At n l E (N'::L1) Y):At n l E L X:=fun a w hf hw=>by
 have hw2:=hw.perm hs
 obtain⟨es,clock,hN,hown⟩:=hb
 have hheap:=hw2.sub N (List.mem_cons_self ..) _ _ hN
 have ho:=hown w hheap
 obtain⟨w',hr,ho',hg⟩:=ho.update K ht hc hk (val:=val) (d:=.held val) (ps:= []) rfl
 obtain⟨es',clock',hb',F',hs',hD'⟩:=ho'
 have henv:=grown_env hg
 refine s a w hf hw ?_
 unfold Oper.wp
 have hrun:(execOp a.eval ⟨none,.mapUpdate t m x y,ty,pos,aft,g⟩).run P w=.ok .skip w':=by
  simp only [execOp,hf.eval hm,hf.eval hx,hf.eval hy,Sem.run_bind,hr,Result.andThen_ok]
  rfl
 rw [hrun]
 exact h (upd N b (.map es' clock')) ⟨es',clock',upd_self _ _ _,fun w2 hw2=>⟨es',clock',hw2,F',hs',hD'⟩⟩ (fun j hj=>if_neg hj) a w' hf (hw2.put hN henv.1 henv.2.1 henv.2.2 hb' fun k hk hlt=>grown_block hg hlt (by
  intro h;exact hk (Option.some.inj h).symm))
theorem op_deleteV {pos:_} {aft:_} {g:_} {key:Value} {kl:Lit} (s:Nx P n l E L ⟨none,.call ⟨.builtin .delete, #[x,y], #[t,k]⟩,ty,pos,aft,g⟩ X Y) (K:Keyed P k) (ht:P.underlying t=some (.map k e)) (hm:ev l x=some (.map (some b))) (hx:ev l y=some key) (hb:MapV P k N b c D) (hk:keyOf P k key=some kl) (hs:L.Perm (N::L1))
 (h: ∀N',MapV P k N' b c (D.del kl)→(∀j,j≠b→N' j=N j)→At n l E (N'::L1) Y):At n l E L X:=fun a w hf hw=>by
 have hw2:=hw.perm hs
 obtain⟨es,clock,hN,hown⟩:=hb
 have hheap:=hw2.sub N (List.mem_cons_self ..) _ _ hN
 have ho:=hown w hheap
 obtain⟨w',hr,ho',hg⟩:=ho.drop K ht hk ty
 have hgr:=hg.grown
 obtain⟨es',clock',hb',F',hs',hD'⟩:=ho'
 have henv:=grown_env hgr
 refine s a w hf hw ?_
 unfold Oper.wp
 have hrun:(execOp a.eval ⟨none,.call ⟨.builtin .delete, #[x,y], #[t,k]⟩,ty,pos,aft,g⟩).run P w=.ok (.value (.tuple #[])) w':=by
  simp only [execOp,resolve,invoke,builtin,Sem.run_bind,Sem.run_pure,Result.andThen_ok,List.map_toArray,List.map_cons,List.map_nil,hf.eval hm,hf.eval hx,hr]
 rw [hrun]
 exact h (upd N b (.map es' clock')) ⟨es',clock',upd_self _ _ _,fun w2 hw2=>⟨es',clock',hw2,F',hs',hD'⟩⟩ (fun j hj=>if_neg hj) a w' hf (hw2.put hN henv.1 henv.2.1 henv.2.2 hb' fun k hk hlt=>grown_block hgr hlt (by
  intro h;exact hk (Option.some.inj h).symm))
theorem op_lookupV {pos:_} {aft:_} {g:_} {key z v:Value} {kl:Lit} (s:NxA P n l E L ⟨some d,.lookup t m x true,ty,pos,aft,g⟩ X Y) (K:Keyed P k) (ht:P.underlying t=some (.map k e)) (hz: ∀w,(zeroValue e).run P w=.ok z w) (hm:ev l m=some (.map (some b))) (hx:ev l x=some key) (hb:MapV P k N b c D) (hk:keyOf P k key=some kl) (hv:D.atKey kl (.held z)=.held v) (hN:N∈L) (hn:Nat.ble (d+1) n=true)
 (h:At n ((d,.tuple #[v,.bool (Maps.has D kl)])::l) E L Y):At n l E L X:=by
 refine op_new s (fun x L'=>x=(.tuple #[v,.bool (Maps.has D kl)])∧L'=L) (fun a w hf hw=>⟨_,w,L,?_,fun _ _=>rfl,hw,rfl,rfl⟩) rfl hn (fun x L' ⟨hx',hL'⟩=>by subst hx';subst hL';exact h)
 obtain⟨es,clock,hNb,hown⟩:=hb
 obtain⟨v',ps,hr,hv'⟩:=(hown w (hw.sub N hN _ _ hNb)).look_ok K ht (hz w) (zd:=.held z) (zp:= []) rfl hk
 rw [hv]at hv'
 have e1:v'=v:=by
  simp only [heldV,Option.some.injEq,Prod.mk.injEq,DataW.held.injEq]at hv'
  exact hv'.1
 rw [e1]at hr
 simp only [execOp,hf.eval hm,hf.eval hx,Sem.run_bind,hr,Result.andThen_ok]
 rfl
theorem op_lookupV1 {pos:_} {aft:_} {g:_} {key z v:Value} {kl:Lit} (s:NxA P n l E L ⟨some d,.lookup t m x false,ty,pos,aft,g⟩ X Y) (K:Keyed P k) (ht:P.underlying t=some (.map k e)) (hz: ∀w,(zeroValue e).run P w=.ok z w) (hm:ev l m=some (.map (some b))) (hx:ev l x=some key) (hb:MapV P k N b c D) (hk:keyOf P k key=some kl) (hv:D.atKey kl (.held z)=.held v) (hN:N∈L) (hn:Nat.ble (d+1) n=true)
 (h:At n ((d,v)::l) E L Y):At n l E L X:=by
 refine op_new s (fun x L'=>x=v∧L'=L) (fun a w hf hw=>⟨_,w,L,?_,fun _ _=>rfl,hw,rfl,rfl⟩) rfl hn (fun x L' ⟨hx',hL'⟩=>by subst hx';subst hL';exact h)
 obtain⟨es,clock,hNb,hown⟩:=hb
 obtain⟨v',ps,hr,hv'⟩:=(hown w (hw.sub N hN _ _ hNb)).lookup K ht (hz w) (zd:=.held z) (zp:= []) rfl hk
 rw [hv]at hv'
 have e1:v'=v:=by
  simp only [heldV,Option.some.injEq,Prod.mk.injEq,DataW.held.injEq]at hv'
  exact hv'.1
 rw [e1]at hr
 simp only [execOp,hf.eval hm,hf.eval hx,Sem.run_bind,hr,Result.andThen_ok]
 rfl
theorem op_lenV {pos:_} {aft:_} {g:_} (s:NxF P n l E L Ls ⟨some d,.call ⟨.builtin .len, #[x], #[t]⟩,ty,pos,aft,g⟩ X Y) (ht:P.underlying t=some (.map k e)) (hx:ev l x=some (.map (some b))) (hb:MapV P k N b c D) (hN:N∈Ls) (hn:Nat.ble (d+1) n=true) (h:At n ((d,.int .i64 (Maps.size D:Int))::l) E L Y):At n l E L X:=by
 refine op_val s (fun a w hf hw=>?_) rfl hn h
 obtain⟨es,clock,hNb,hown⟩:=hb
 have hl:=(hown w (hw.sub N hN _ _ hNb)).len ht ty
 simp only [execOp,resolve,invoke,builtin,Sem.run_bind,Sem.run_pure,Result.andThen_ok,List.map_toArray,List.map_cons,List.map_nil,hf.eval hx,hl]
end
end Go.Proofs.YtdpjbefeabokgaaGreat
/- Layer 12: a trie made, written, read, struck out of, counted. No condition but bounds. -/
namespace Go.Proofs.YtdpjbefeabokgaaGreat
open Go Go.RowKit
set_option maxRecDepth 100000
/-- A trie at block bt that holds R, after at most c puts; all lies in N. -/
def TrieN (N:Heaplet) (bt c:Nat) (R:List PR):Prop:= ∃mb D,Blk N bt 98 [.map (some mb)]∧MapV Tryz.prog 9 N mb c D∧MapIs D N R∧Good R
theorem TrieN.le {N M:Heaplet} {bt c:Nat} {R:List PR} (h:TrieN N bt c R) (hl:N.le M):TrieN M bt c R:=by
 obtain⟨mb,D,h1,h2,h3,h4⟩:=h
 exact⟨mb,D,h1.le hl,h2.le hl,h3.le hl,h4⟩
theorem TrieN.mono {N:Heaplet} {bt c d:Nat} {R:List PR} (h:TrieN N bt c R) (hl:c≤d):TrieN N bt d R:=by
 obtain⟨mb,D,h1,h2,h3,h4⟩:=h
 exact⟨mb,D,h1,h2.mono hl,h3,h4⟩
theorem MapIs.off {P:Program} {k:TypeId} {D D0:DataW Value} {N N':Heaplet} {b n:Nat} {R:List PR} (h:MapIs D N R) (hm:MapV P k N b n D0) (ho: ∀j,j≠b→N' j=N j):MapIs D N' R:=
 ⟨h.dis,h.tidy,h.size,h.has,fun p hp=>let ⟨a,c,h1,h2⟩:=h.val p hp;⟨a,c,h1,hm.rsl ho h2⟩⟩
theorem MapIs.look {D:DataW Value} {N:Heaplet} {R:List PR} (h:MapIs D N R) (k:List UInt8): ∃a n c,D.atKey (.string k) (.held (.slice none 0 0))=.held (.slice a n c)∧n=((getR R k).getD []).length∧RSl N 1 a n c (u8s ((getR R k).getD [])):=by
 cases hg:getR R k with
 |none=>
  have hh:Maps.has D (.string k)=false:=by
   rw [h.has k]
   cases hk:hasM k R with
   |false=>rfl
   |true=>exact absurd hg ((has_get h.dis).1 hk)
  exact⟨none,0,0,Maps.atKey_of_not_has hh _,rfl,RSl.nil _ _⟩
 |some v=>
  obtain⟨a,c,h1,h2⟩:=h.val (k,v) ((get_iff h.dis).1 hg)
  exact⟨a,_,c,h1 _,rfl,h2⟩
theorem FNew:Fn Tryz.prog 22 #[] [] [] (fun v L=> ∃N bt,v=.pointer (some ⟨bt,0,none⟩)∧L= [N]∧TrieN N bt 0 []):=by
 refine Fn.enter (vs:= []) Tryz.func22 rfl rfl rfl ?_
 intro E R hR
 change At _ _ E [R] _
 refine At.seq fun _ s_1=>At.region (aE (aD rfl) rfl rfl (aA (aB (s_1 (At.seq fun _ s_2=>At.region (op_makeMapV 9 (bA rfl) rfl (fun N1 b1 M1=>op_build (out:= [_]) (aD rfl) ze98 pl98 (.cons rfl .nil) rfl rfl (op_box (bA rfl) rfl rfl rfl (fun N3 b3 B3=>aE (aD rfl) rfl rfl (aA (aB (s_2 (At.ret ((At.mergeN (fun Q Q1 Q2=>aW (L1:= [Q]) rfl (.tmp rfl .nil) (.refl _) (.refl _) ?_))))))))))))))))
 exact⟨Q,b3,rfl,rfl,b1,_,B3.le Q1,M1.le Q2,MapIs.nil _,Good.nil⟩
section
variable {Nt K V : Heaplet} {bt c : Nat} {R0 : List PR} {ka va : Option Addr} {kn kc vn vc : Nat} {k v : List UInt8}
set_option maxHeartbeats 1000000 in
theorem FPut (h:TrieN Nt bt c R0) (hk:RSl K 1 ka kn kc (u8s k)) (hv:RSl V 1 va vn vc (u8s v)) (hkn:kn≤40) (hvn:vn≤1000000) (hc:c≤1099511627776):Fn Tryz.prog 26 #[.pointer (some ⟨bt,0,none⟩),.slice ka kn kc,.slice va vn vc] [Nt] [K,V] (fun x L=> ∃N',x=.tuple #[]∧L= [N']∧TrieN N' bt (c+1) (putM k v R0)):=by
 obtain⟨mb,D,Bt,hM,hI,hG⟩:=h
 have hkl:=hk.len8
 have hvl:=hv.len8
 have hne:=hM.ne Bt
 refine Fn.enter (vs:= [.pointer (some ⟨bt,0,none⟩),.slice ka kn kc,.slice va vn vc]) Tryz.func26 rfl rfl rfl ?_
 intro E R hR
 have hk:=hk.le (hR K (by simp))
 have hv:=hv.le (hR V (by simp))
 have hkey:keyOf Tryz.prog 9 (str k)=some (.string k):=keyOf_strV Tryz.underlying9 (by unfold maxLen;omega)
 change At _ _ E [Nt,R] _
 refine At.seq fun _ s_1=>At.seq fun _ s_2=>At.region (aC (aD rfl) rfl rfl (aU (aD rfl) se23 rfl rfl (op_eql (aD rfl) rfl rfl rfl (aA (aB (s_2 (aK rfl (fun c8=>?_) (fun c8=>?_))))))))
 ·refine At.seq fun _ s_3=>At.perm sel0 (At.perm sel1 (At.drawnS [R,Nt] [6] [] [0,1,2,3,4,5,6] (by kernel_rfl) (by kernel_rfl) (.refl _) (aC (aX rfl rfl rfl) rfl rfl (aQ (aX rfl rfl rfl) rfl rfl (aF (aX rfl rfl rfl) fl98_0 rfl rfl (aI (aX rfl rfl rfl) sc96 rfl Bt (by first|rfl) aZ rfl ?_))))))
  refine aC (aX rfl rfl rfl) rfl rfl (op_str (aX rfl rfl rfl) Tryz.underlying23 Tryz.underlying5 Tryz.underlying9 rfl (by assumption) (by first|exact aL|exact aZ|exact bB|exact bF|exact bG|exact bH|exact bL|exact bK|exact bJ|exact bM) rfl ?_)
  refine op_deleteV (nxsl rfl rfl rfl rfl) (Maps.string_keyed Tryz.underlying9) Tryz.underlying96 rfl rfl hM hkey sel1 (fun N1 hM1 ho1=>At.sNil (aB (s_3 (At.ret (aM ((bP (L1:= [N1]) rfl .nil rfl (.refl _) (.refl _) ?_)))))))
  have e:v= []:=List.eq_nil_of_length_eq_zero (by omega)
  exact⟨N1,rfl,rfl,mb,_,hM.blk ho1 Bt,hM1.mono (by omega),by rw [putM,if_pos e];exact(hI.off hM ho1).del k,hG.put (by omega) (by omega)⟩
 refine At.skip (aB (s_1 (At.perm sel0 (At.perm sel1 (At.drawnS [R,Nt] [8] [0,4] [0,1,2,3,4,5,6,7,8] (by kernel_rfl) (by kernel_rfl) (.refl _) (aC (aX rfl rfl rfl) rfl rfl (aQ (aX rfl rfl rfl) rfl rfl (aF (aX rfl rfl rfl) fl98_0 rfl rfl (aI (aX rfl rfl rfl) sc96 rfl Bt (by first|rfl) aZ rfl ?_)))))))))
 refine aC (aX rfl rfl rfl) rfl rfl (op_str (aX rfl rfl rfl) Tryz.underlying23 Tryz.underlying5 Tryz.underlying9 rfl (by assumption) (by first|exact aL|exact aZ|exact bB|exact bF|exact bG|exact bH|exact bL|exact bK|exact bJ|exact bM) rfl ?_)
 refine aC (aX rfl rfl rfl) rfl rfl (aJ (Nx.agree (nxsm rfl rfl rfl)) (.cons rfl .nil) (FClone hv (by omega)) Tryz.func51 rfl rfl (by simp) rfl ?_)
 rintro v22 L22 ⟨M22,a22,c22,rfl,rfl,r22⟩
 change At _ _ _ [M22,R,Nt] _
 refine At.moreS (Lst:= [R,Nt]) (Lst':= [M22,R,Nt]) (.cons _ (.refl _)) (.refl _) ?_
 refine op_mapUpdateV (nxsl rfl rfl rfl rfl) (Maps.string_keyed Tryz.underlying9) Tryz.underlying96 rfl rfl rfl hM (by unfold maxLen;omega) hkey sel2 (fun N2 hM2 ho2=>?_)
 refine At.sNil (At.mergeN (fun Q Q1 Q2=>At.retNE (L1:= [Q]) rfl .nil rfl (.refl _) (.refl _) ?_))
 have e:v≠ []:=fun e=>c8 (by rw [←hvl,e];rfl)
 rw [←hvl]at r22
 exact⟨Q,rfl,rfl,mb,_,(hM.blk ho2 Bt).le Q1,(hvl▸hM2).le Q1,((hI.off hM ho2).le Q1).put e (r22.rsl.le Q2),hG.put (by omega) (by omega)⟩
theorem FGet (h:TrieN Nt bt c R0) (hk:RSl K 1 ka kn kc (u8s k)) (hkn:kn≤1099511627776):Fn Tryz.prog 18 #[.pointer (some ⟨bt,0,none⟩),.slice ka kn kc] [] [Nt,K] (fun x L=> ∃M a cp,x=.tuple #[.slice a ((getR R0 k).getD []).length cp,.bool (hasM k R0)]∧L= [M]∧Row M 5 1 a ((getR R0 k).getD []).length cp (u8s ((getR R0 k).getD []))):=by
 obtain⟨mb,D,Bt,hM,hI,hG⟩:=h
 have hkl:=hk.len8
 refine Fn.enter (vs:= [.pointer (some ⟨bt,0,none⟩),.slice ka kn kc]) Tryz.func18 rfl rfl rfl ?_
 intro E R hR
 have hk:=hk.le (hR K (by simp))
 have hle:=hR Nt (by simp)
 have BR:=Bt.le hle
 have hM:=hM.le hle
 have hI:=hI.le hle
 have hkey:keyOf Tryz.prog 9 (str k)=some (.string k):=keyOf_strV Tryz.underlying9 (by unfold maxLen;omega)
 obtain⟨a,n,cp,hat,hn,hr⟩:=hI.look k
 have hn6:n≤1000000:=by
  rw [hn]
  cases hg:getR R0 k with
  |none=>simp
  |some u=>exact(hG.val _ ((get_iff hG.dis).1 hg)).2
 change At _ _ E [R] _
 refine At.seq fun _ s_1=>At.region (aE (aD rfl) rfl rfl (aE (aD rfl) rfl rfl (aA (aB (s_1 (At.seq fun _ s_2=>At.drawn [6] [0,1,2,3,4,5,6,7,8,9,10,11] (by kernel_rfl) (by kernel_rfl) (aC (aN rfl rfl rfl (by kernel_rfl)) rfl rfl (aQ (aN rfl rfl rfl (by kernel_rfl)) rfl rfl (aF (aN rfl rfl rfl (by kernel_rfl)) fl98_0 rfl rfl (aI (aN rfl rfl rfl (by kernel_rfl)) sc96 rfl BR (by first|rfl) aL rfl ?_))))))))))
 refine aC (aN rfl rfl rfl (by kernel_rfl)) rfl rfl (op_str (aN rfl rfl rfl (by kernel_rfl)) Tryz.underlying23 Tryz.underlying5 Tryz.underlying9 rfl (by assumption) (by first|exact aL|exact aZ|exact bB|exact bF|exact bG|exact bH|exact bL|exact bK|exact bJ|exact bM) rfl ?_)
 refine op_lookupV (nxosa rfl rfl rfl rfl) (Maps.string_keyed Tryz.underlying9) Tryz.underlying96 (fun _=>rfl) rfl rfl hM hkey (hat) (by first|exact aL|exact aZ|exact bB|exact bF|exact bG|exact bH|exact bL|exact bK|exact bJ|exact bM) rfl (aC (aN rfl rfl rfl (by kernel_rfl)) rfl rfl (aS (aN rfl rfl rfl (by kernel_rfl)) rfl rfl rfl (aS (aN rfl rfl rfl (by kernel_rfl)) rfl rfl rfl (aE (aN rfl rfl rfl (by kernel_rfl)) rfl rfl (aE (aN rfl rfl rfl (by kernel_rfl)) rfl rfl (At.oneNil (aB (s_2 (At.seq fun _ s_3=>At.region (aC (aD rfl) rfl rfl (aJ (bA rfl) (.cons rfl .nil) (FClone hr (by omega)) Tryz.func51 rfl rfl (by simp) rfl ?_)))))))))))
 rintro v19 L19 ⟨M19,a19,c19,rfl,rfl,r19⟩
 change At _ _ _ [M19,R] _
 refine aC (aD rfl) rfl rfl (aE (aD rfl) rfl rfl (aE (aD rfl) rfl rfl (aA (aB (s_3 (At.ret ((bP (L1:= [M19]) rfl (.tmp rfl (.tmp rfl .nil)) rfl (.refl _) (.refl _) ?_))))))))
 rw [hn]at r19
 exact⟨M19,a19,c19,by rw [hn,hI.has k],rfl,r19⟩
theorem FDelete (h:TrieN Nt bt c R0) (hk:RSl K 1 ka kn kc (u8s k)) (hkn:kn≤1099511627776):Fn Tryz.prog 23 #[.pointer (some ⟨bt,0,none⟩),.slice ka kn kc] [Nt] [K] (fun x L=> ∃N',x=.bool (hasM k R0)∧L= [N']∧TrieN N' bt c (delM k R0)):=by
 obtain⟨mb,D,Bt,hM,hI,hG⟩:=h
 have hkl:=hk.len8
 have hne:=hM.ne Bt
 refine Fn.enter (vs:= [.pointer (some ⟨bt,0,none⟩),.slice ka kn kc]) Tryz.func23 rfl rfl rfl ?_
 intro E R hR
 have hk:=hk.le (hR K (by simp))
 have hkey:keyOf Tryz.prog 9 (str k)=some (.string k):=keyOf_strV Tryz.underlying9 (by unfold maxLen;omega)
 obtain⟨a,n,cp,hat,hn,hr⟩:=hI.look k
 change At _ _ E [Nt,R] _
 refine At.seq fun _ s_1=>At.region (aE (aD rfl) rfl rfl (aA (aB (s_1 (At.seq fun _ s_2=>At.drawn [6] [0,1,2,3,4,5,6,7,8,9,10,11] (by kernel_rfl) (by kernel_rfl) (aC (aN rfl rfl rfl (by kernel_rfl)) rfl rfl (aQ (aN rfl rfl rfl (by kernel_rfl)) rfl rfl (aF (aN rfl rfl rfl (by kernel_rfl)) fl98_0 rfl rfl (aI (aN rfl rfl rfl (by kernel_rfl)) sc96 rfl Bt (by first|rfl) aL rfl ?_)))))))))
 refine aC (aN rfl rfl rfl (by kernel_rfl)) rfl rfl (op_str (aN rfl rfl rfl (by kernel_rfl)) Tryz.underlying23 Tryz.underlying5 Tryz.underlying9 rfl (by assumption) (by first|exact aL|exact aZ|exact bB|exact bF|exact bG|exact bH|exact bL|exact bK|exact bJ|exact bM) rfl ?_)
 refine op_lookupV (nxosa rfl rfl rfl rfl) (Maps.string_keyed Tryz.underlying9) Tryz.underlying96 (fun _=>rfl) rfl rfl hM hkey (hat) (by first|exact aL|exact aZ|exact bB|exact bF|exact bG|exact bH|exact bL|exact bK|exact bJ|exact bM) rfl (aC (aN rfl rfl rfl (by kernel_rfl)) rfl rfl (aS (aN rfl rfl rfl (by kernel_rfl)) rfl rfl rfl (aS (aN rfl rfl rfl (by kernel_rfl)) rfl rfl rfl (aE (aN rfl rfl rfl (by kernel_rfl)) rfl rfl (aE (aN rfl rfl rfl (by kernel_rfl)) rfl rfl (At.oneNil (aB (s_2 (At.seq fun _ s_3=>At.perm sel0 (At.perm sel1 (At.drawnS [R,Nt] [6] [] [0,1,2,3,4,5,6] (by kernel_rfl) (by kernel_rfl) (.refl _) (aC (aX rfl rfl rfl) rfl rfl (aQ (aX rfl rfl rfl) rfl rfl (aF (aX rfl rfl rfl) fl98_0 rfl rfl (aI (aX rfl rfl rfl) sc96 rfl Bt (by first|rfl) aZ rfl ?_)))))))))))))))
 refine aC (aX rfl rfl rfl) rfl rfl (op_str (aX rfl rfl rfl) Tryz.underlying23 Tryz.underlying5 Tryz.underlying9 rfl (by assumption) (by first|exact aL|exact aZ|exact bB|exact bF|exact bG|exact bH|exact bL|exact bK|exact bJ|exact bM) rfl ?_)
 refine op_deleteV (nxsl rfl rfl rfl rfl) (Maps.string_keyed Tryz.underlying9) Tryz.underlying96 rfl rfl hM hkey sel1 (fun N1 hM1 ho1=>At.sNil (aB (s_3 (At.seq fun _ s_4=>At.region (aC (aD rfl) rfl rfl (aE (aD rfl) rfl rfl (aA (aB (s_4 (At.ret ((aW (L1:= [N1]) rfl (.tmp rfl .nil) (.refl _) (.refl _) ?_))))))))))))
 exact⟨N1,by rw [hI.has k],rfl,mb,_,hM.blk ho1 Bt,hM1,(hI.off hM ho1).del k,hG.del k⟩
theorem FLen (h:TrieN Nt bt c R0):Fn Tryz.prog 38 #[.pointer (some ⟨bt,0,none⟩)] [] [Nt] (fun x L=>x=.int .i64 (R0.length:Int)∧L= []):=by
 obtain⟨mb,D,Bt,hM,hI,hG⟩:=h
 refine Fn.enter (vs:= [.pointer (some ⟨bt,0,none⟩)]) Tryz.func38 rfl rfl rfl ?_
 intro E R hR
 have hle:=hR Nt (by simp)
 have BR:=Bt.le hle
 have hM:=hM.le hle
 change At _ _ E [R] _
 refine At.seq fun _ s_1=>At.region (aE (aD rfl) rfl rfl (aA (aB (s_1 (At.seq fun _ s_2=>At.region (aC (aD rfl) rfl rfl (aQ (aD rfl) rfl rfl (aF (aD rfl) fl98_0 rfl rfl (aI (aD rfl) sc96 rfl BR (by first|rfl) aL rfl ?_)))))))))
 refine op_lenV (aD rfl) Tryz.underlying96 rfl hM (by first|exact aL|exact aZ|exact bB|exact bF|exact bG|exact bH|exact bL|exact bK|exact bJ|exact bM) rfl (aE (aD rfl) rfl rfl (aA (aB (s_2 (At.ret ((aW (L1:= []) rfl (.tmp rfl .nil) (.refl _) (.refl _) ?_)))))))
 exact⟨by rw [hI.size],rfl⟩
end
end Go.Proofs.YtdpjbefeabokgaaGreat
/- slices.Sorted and maps.Keys of Go's library at this program, in plain words (written by the kit's tools lay-iter and lay-plain). No condition. -/
namespace Go.Proofs
open Go.RowKit Go.Maps Go.Sort Go.Shelf
def Tryz.keys64_ren:Go.Shelf.Ren:=⟨fun|7=>64|10=>90|n=>n,fun|23=>96|26=>9|3=>23|28=>107|0=>0|27=>106|33=>143|4=>4|n=>n,fun|n=>n⟩
theorem Tryz.keys64:Go.Proofs.SlLaysZ.n7 Tryz.prog Tryz.keys64_ren:= {
 mixed:=by kernel_rfl
 f7:=⟨Tryz.f64.name,by decide,Tryz.func64.trans (congrArg some (by kernel_rfl))⟩
 f10:=⟨Tryz.f90.name,by decide,Tryz.func90.trans (congrArg some (by kernel_rfl))⟩
 t0:=Tryz.underlying0
 a0:=Tryz.isAgg0
 z0:=Tryz.sizeOf0
 v0:=Tryz.zeroValue0
 t4:=Tryz.underlying4
 a4:=Tryz.isAgg4
 z4:=Tryz.sizeOf4
 v4:=Tryz.zeroValue4
 t23:=Tryz.underlying96
 a23:=Tryz.isAgg96
 z23:=Tryz.sizeOf96
 v23:=Tryz.zeroValue96
 t26:=Tryz.underlying9
 a26:=Tryz.isAgg9
 z26:=Tryz.sizeOf9
 v26:=Tryz.zeroValue9
 t27:=Tryz.underlying106
 a27:=Tryz.isAgg106
 z27:=Tryz.sizeOf106
 v27:=Tryz.zeroValue106
 t28:=Tryz.underlying107
 a28:=Tryz.isAgg107
 z28:=Tryz.sizeOf107
 v28:=Tryz.zeroValue107
 t33:=Tryz.underlying143
 a33:=Tryz.isAgg143
 z33:=Tryz.sizeOf143
 v33:=Tryz.zeroValue143 }
def Tryz.sorted63_ren:Go.Shelf.Ren:=⟨fun|6=>63|8=>88|9=>89|11=>105|13=>107|12=>106|23=>128|24=>102|14=>119|15=>120|16=>121|17=>122|18=>123|19=>124|20=>125|21=>126|22=>127|25=>134|26=>135|27=>136|28=>137|29=>138|30=>139|31=>141|n=>n,fun|26=>9|28=>107|24=>104|0=>0|3=>3|37=>111|48=>157|50=>70|4=>4|40=>173|39=>172|45=>178|5=>5|9=>9|51=>189|55=>193|57=>196|58=>197|33=>143|n=>n,fun|n=>n⟩
theorem Tryz.sorted63:Go.Proofs.SlLaysZ.n6 Tryz.prog Tryz.sorted63_ren:= {
 mixed:=by kernel_rfl
 f6:=⟨Tryz.f63.name,by decide,Tryz.func63.trans (congrArg some (by kernel_rfl))⟩
 f8:=⟨Tryz.f88.name,by decide,Tryz.func88.trans (congrArg some (by kernel_rfl))⟩
 f11:=⟨Tryz.f105.name,by decide,Tryz.func105.trans (congrArg some (by kernel_rfl))⟩
 t0:=Tryz.underlying0
 a0:=Tryz.isAgg0
 z0:=Tryz.sizeOf0
 v0:=Tryz.zeroValue0
 t24:=Tryz.underlying104
 a24:=Tryz.isAgg104
 z24:=Tryz.sizeOf104
 v24:=Tryz.zeroValue104
 t26:=Tryz.underlying9
 a26:=Tryz.isAgg9
 z26:=Tryz.sizeOf9
 v26:=Tryz.zeroValue9
 t28:=Tryz.underlying107
 a28:=Tryz.isAgg107
 z28:=Tryz.sizeOf107
 v28:=Tryz.zeroValue107
 i26:=by kernel_rfl }
def Tryz.sort89_ren:Go.Shelf.Ren:=⟨fun|6=>89|8=>107|9=>106|19=>128|20=>102|21=>119|22=>120|23=>121|24=>122|25=>123|26=>124|27=>125|28=>126|29=>127|36=>134|31=>135|32=>136|37=>137|38=>138|39=>139|41=>141|n=>n,fun|27=>104|29=>9|3=>3|32=>111|26=>104|0=>0|44=>157|46=>70|4=>4|36=>173|35=>172|41=>178|5=>5|9=>9|53=>189|57=>193|63=>196|64=>197|n=>n,fun|n=>n⟩
theorem Tryz.sort89:Go.Proofs.SlLaysM.n6 Tryz.prog Tryz.sort89_ren:= {
 mixed:=by kernel_rfl
 f6:=⟨Tryz.f89.name,by decide,Tryz.func89.trans (congrArg some (by kernel_rfl))⟩
 f8:=Tryz.func107.trans (congrArg some (by kernel_rfl))
 f9:=⟨Tryz.f106.name,by decide,Tryz.func106.trans (congrArg some (by kernel_rfl))⟩
 f19:=Tryz.func128.trans (congrArg some (by kernel_rfl))
 f20:=Tryz.func102.trans (congrArg some (by kernel_rfl))
 f21:=⟨Tryz.f119.name,by decide,Tryz.func119.trans (congrArg some (by kernel_rfl))⟩
 f22:=⟨Tryz.f120.name,by decide,Tryz.func120.trans (congrArg some (by kernel_rfl))⟩
 f23:=⟨Tryz.f121.name,by decide,Tryz.func121.trans (congrArg some (by kernel_rfl))⟩
 f24:=⟨Tryz.f122.name,by decide,Tryz.func122.trans (congrArg some (by kernel_rfl))⟩
 f25:=⟨Tryz.f123.name,by decide,Tryz.func123.trans (congrArg some (by kernel_rfl))⟩
 f26:=⟨Tryz.f124.name,by decide,Tryz.func124.trans (congrArg some (by kernel_rfl))⟩
 f27:=⟨Tryz.f125.name,by decide,Tryz.func125.trans (congrArg some (by kernel_rfl))⟩
 f28:=⟨Tryz.f126.name,by decide,Tryz.func126.trans (congrArg some (by kernel_rfl))⟩
 f29:=⟨Tryz.f127.name,by decide,Tryz.func127.trans (congrArg some (by kernel_rfl))⟩
 f31:=Tryz.func135.trans (congrArg some (by kernel_rfl))
 f32:=Tryz.func136.trans (congrArg some (by kernel_rfl))
 f36:=⟨Tryz.f134.name,by decide,Tryz.func134.trans (congrArg some (by kernel_rfl))⟩
 f37:=⟨Tryz.f137.name,by decide,Tryz.func137.trans (congrArg some (by kernel_rfl))⟩
 f38:=⟨Tryz.f138.name,by decide,Tryz.func138.trans (congrArg some (by kernel_rfl))⟩
 f39:=⟨Tryz.f139.name,by decide,Tryz.func139.trans (congrArg some (by kernel_rfl))⟩
 f41:=⟨Tryz.f141.name,by decide,Tryz.func141.trans (congrArg some (by kernel_rfl))⟩
 t0:=Tryz.underlying0
 a0:=Tryz.isAgg0
 z0:=Tryz.sizeOf0
 v0:=Tryz.zeroValue0
 t3:=Tryz.underlying3
 a3:=Tryz.isAgg3
 z3:=Tryz.sizeOf3
 v3:=Tryz.zeroValue3
 t4:=Tryz.underlying4
 a4:=Tryz.isAgg4
 z4:=Tryz.sizeOf4
 v4:=Tryz.zeroValue4
 t5:=Tryz.underlying5
 a5:=Tryz.isAgg5
 z5:=Tryz.sizeOf5
 v5:=Tryz.zeroValue5
 t9:=Tryz.underlying9
 a9:=Tryz.isAgg9
 z9:=Tryz.sizeOf9
 v9:=Tryz.zeroValue9
 t26:=Tryz.underlying104
 a26:=Tryz.isAgg104
 z26:=Tryz.sizeOf104
 v26:=Tryz.zeroValue104
 t27:=Tryz.underlying104
 a27:=Tryz.isAgg104
 z27:=Tryz.sizeOf104
 v27:=Tryz.zeroValue104
 t29:=Tryz.underlying9
 a29:=Tryz.isAgg9
 z29:=Tryz.sizeOf9
 v29:=Tryz.zeroValue9
 t32:=Tryz.underlying111
 a32:=Tryz.isAgg111
 z32:=Tryz.sizeOf111
 v32:=Tryz.zeroValue111
 t35:=Tryz.underlying172
 a35:=Tryz.isAgg172
 z35:=Tryz.sizeOf172
 v35:=Tryz.zeroValue172
 t36:=Tryz.underlying173
 a36:=Tryz.isAgg173
 z36:=Tryz.sizeOf173
 v36:=Tryz.zeroValue173
 t41:=Tryz.underlying178
 a41:=Tryz.isAgg178
 z41:=Tryz.sizeOf178
 v41:=Tryz.zeroValue178
 t44:=Tryz.underlying157
 a44:=Tryz.isAgg157
 z44:=Tryz.sizeOf157
 v44:=Tryz.zeroValue157
 t46:=Tryz.underlying70
 a46:=Tryz.isAgg70
 z46:=Tryz.sizeOf70
 v46:=Tryz.zeroValue70
 t53:=Tryz.underlying189
 a53:=Tryz.isAgg189
 z53:=Tryz.sizeOf189
 v53:=Tryz.zeroValue189
 t57:=Tryz.underlying193
 a57:=Tryz.isAgg193
 z57:=Tryz.sizeOf193
 v57:=Tryz.zeroValue193
 t63:=Tryz.underlying196
 a63:=Tryz.isAgg196
 z63:=Tryz.sizeOf196
 v63:=Tryz.zeroValue196
 t64:=Tryz.underlying197
 a64:=Tryz.isAgg197
 z64:=Tryz.sizeOf197
 v64:=Tryz.zeroValue197 }
theorem Tryz.sorts63 (m:Nat):AnyZ.SortsIn Tryz.prog Tryz.sorted63_ren Fence.wide m:=
 ⟨fun blk off cap ss W hH hblk hsz=>callsIn_wide.2 (AnyM.slices_Sort_string Tryz.sort89 blk off cap ss W hH hblk hsz),
  fun p cap W=>callsIn_wide.2 (AnyM.slices_Sort_string_none Tryz.sort89 p cap W)⟩
end Go.Proofs
/- Bytes of a string in a new slice, and stores to it: the block bears the mark behind its last cell. No condition. -/
namespace Go.Proofs.YtdpjbefeabokgaaGreat
open Go Go.RowKit
/-- The slice of a string's bytes. -/
def RowM (N:Heaplet) (e:TypeId) (b n cap:Nat) (xs:List Value):Prop:=
 xs.length=n∧n≤cap∧cap≤maxLen∧ ∃cs:List Value,N b=some (.cells cs.toArray e (cap,cap+1))∧cs.length=cap∧cs.take n=xs
theorem RowM.rsl {N:Heaplet} {e:TypeId} {b n cap:Nat} {xs:List Value} (h:RowM N e b n cap xs):RSl N 1 (some ⟨b,0,none⟩) n cap xs:=by
 obtain⟨h1,h2,h3,cs,hN,hl,ht⟩:=h
 refine⟨by omega,h2,h3,fun h0=>⟨b,0,rfl,fun i hi=>?_⟩⟩
 unfold cellOf
 rw [hN]
 simp only [Nat.zero_add]
 have:(cs.take n)[i]? =some xs[i]:=by rw [ht];exact List.getElem?_eq_getElem hi
 rw [List.getElem?_take]at this
 split at this
 ·simpa using this
 ·cases this
section
variable {P : Program} {n : Nat} {l : List (Nat × Value)} {E : World} {L L1 : List Heaplet} {X Y : Act → World → Prop} {N : Heaplet}
variable {d : Nat} {ty t t' e : TypeId} {pos : String} {aft : Array Edge} {g : Option (Nat × Bool)} {v : Value} {x y : Operand} {len cap : Nat} {xs : List Value} {b j : Nat}
/-- []byte of a string. -/
theorem op_strB {bs:List UInt8} {src dst:TypeId} (s:NxA P n l E L ⟨some d,.convert src dst x,ty,pos,aft,g⟩ X Y) (hs:P.underlying src=some .string) (ht:P.underlying dst=some (.slice e)) (he:P.underlying e=some (.int .u8)) (hx:ev l x=some (str bs)) (hlen:bs.length≤9223372036854775807) (hn:Nat.ble (d+1) n=true)
 (h: ∀N b cap,RowM N e b bs.length cap (u8s bs)→At n ((d,.slice (some ⟨b,0,none⟩) bs.length cap)::l) E (N::L) Y):At n l E L X:=by
 refine op_new s (fun v L'=> ∃N b cap,v=.slice (some ⟨b,0,none⟩) bs.length cap∧L'=N::L∧RowM N e b bs.length cap (u8s bs)) (fun a w hf hw=>?_) rfl hn (fun v L' ⟨N,b,cap,hv,hL,hB⟩=>by subst hv;subst hL;exact h N b cap hB)
 have hsz:(⟨bs.toArray⟩:ByteArray).size=bs.length:=by simp [ByteArray.size]
 have hrun:=run_bytes_of_string (P:=P) w src dst e ⟨bs.toArray⟩ hs ht he
 rw [hsz]at hrun
 have hge:=grownCap_ge w bs.length 0 e
 have hle:=grownCap_le_maxLen w bs.length 0 e (by unfold maxLen;omega)
 obtain⟨C,hC⟩: ∃C,grownCap w bs.length 0 e=C:=⟨_,rfl⟩
 rw [hC]at hrun hge hle
 have hrow:bytesRow ⟨bs.toArray⟩ C=(u8s bs++List.replicate (C- bs.length) (Value.int .u8 0)).toArray:=by
  unfold bytesRow
  rw [hsz]
  simp [u8s]
  exact fun _ _=>rfl
 have hlr:(u8s bs++List.replicate (C- bs.length) (Value.int .u8 0)).length=C:=by
  rw [List.length_append,length_u8s,List.length_replicate];omega
 rw [hrow]at hrun
 simp only [List.size_toArray,hlr]at hrun
 obtain⟨o,ho⟩: ∃o,Obj.cells (u8s bs++List.replicate (C- bs.length) (Value.int .u8 0)).toArray e (C,C+1)=o:=⟨_,rfl⟩
 rw [ho]at hrun
 refine⟨.slice (some ⟨w.heap.size,0,none⟩) bs.length C,w.drew.alloc o,single w.heap.size o::L,?_,?_,(hw.drew).alloc o,single w.heap.size o,w.heap.size,C,rfl,rfl,?_⟩
 ·simp only [execOp,hf.eval hx,str]
  rw [Sem.run_bind,hrun]
  rfl
 ·exact Agree.alloc w.drew o
 ·exact⟨length_u8s bs,hge,hle,_,by rw [←ho];exact single_self _ _,hlr,by rw [List.take_append,length_u8s,Nat.sub_self,List.take_zero,List.append_nil,List.take_of_length_le (by rw [length_u8s];exact Nat.le_refl _)]⟩
end
end Go.Proofs.YtdpjbefeabokgaaGreat
/- Layer 12: a trie's pairs in rising order, and its root. No condition but bounds. -/
namespace Go.Proofs.YtdpjbefeabokgaaGreat
open Go Go.RowKit
set_option maxRecDepth 100000
section
variable {N K : Heaplet} {blk mb c : Nat} {D : DataW Value}
theorem FKeys:Fn Tryz.prog 64 #[.map (some mb)] [] [] (fun v L=> ∃N b,v=.func (.func 90) #[] #[.pointer (some ⟨b,0,none⟩)]∧L= [N]∧Blk N b 96 [.map (some mb)]):=by
 refine Fn.enter (vs:= [.map (some mb)]) Tryz.func64 rfl rfl rfl ?_
 intro E R hR
 change At _ _ E [R] _
 refine At.seq fun _ s_1=>At.region (op_box (bA rfl) rfl rfl rfl (fun N1 b1 B1=>aE (aD rfl) rfl rfl (aA (aB (s_1 (At.seq fun _ s_2=>At.region (op_mkF (aD rfl) .nil (.cons rfl .nil) rfl (aE (aD rfl) rfl rfl (aA (aB (s_2 (At.ret ((aW (L1:= [N1]) rfl (.tmp rfl .nil) (.refl _) (.refl _) ?_))))))))))))))
 exact⟨N1,b1,rfl,rfl,B1⟩
theorem kecM (R0:List PR):(u8s (rootM R0)).length=32:=kec8 _
theorem pairs_snoc {J:Heaplet} {R0:List PR} {ks:List (List UInt8)} {k:List UInt8} {ys:List PV} {a va:Option Addr} {cp vn vc:Nat} (h:PsN J (prs (byKeys R0 ks)) ys) (hr:RSl J 1 a (2*k.length) cp (u8s (nibs k))) (hvn:vn=((getR R0 k).getD []).length) (hv:RSl J 1 va vn vc (u8s ((getR R0 k).getD []))):PsN J (prs (byKeys R0 (ks++ [k]))) (ys++ [⟨a,2*k.length,cp,va,vn,vc⟩]):=by
 have e:prs (byKeys R0 (ks++ [k]))=prs (byKeys R0 ks)++ [(nibs k,(getR R0 k).getD [])]:=by simp [prs,byKeys]
 rw [e]
 exact h.snoc ⟨(nibs_length k).symm,hr,hvn,hv⟩
/-- The keys of a map in rising order. -/
def keysS (D:DataW Value):List (List UInt8):=(strKeys D).mergeSort (fun x y=>decide (x≤y))
theorem FSorted (B:Blk N blk 96 [.map (some mb)]) (hM:MapV Tryz.prog 9 K mb c D) (hs:Maps.size D≤1000000):Fn Tryz.prog 63 #[.func (.func 90) #[] #[.pointer (some ⟨blk,0,none⟩)]] [] [N,K] (fun v L=> ∃M a cp,v=.slice a ((keysS D).map str).length cp∧L= [M]∧Row M 9 1 a ((keysS D).map str).length cp ((keysS D).map str)):=by
 refine Fn.of_ownb (e:=9) (xs:=(keysS D).map str) fun w hr=>?_
 have hcell:w.cell? ⟨blk,0,none⟩=some (.map (some mb)):=by
  have h1:=hr N (by simp) _ _ B
  have h2:w.heap[blk]? =some (.cells #[.map (some mb)] 96 (0,0)):=h1
  simp [World.cell?,h2]
 have hlt:blk<w.heap.size:=by
  have h1:=hr N (by simp) _ _ B
  exact(Array.getElem?_eq_some_iff.1 h1).1
 obtain⟨es,clock,hNb,hown⟩:=hM
 have hown:=hown w (hr K (by simp) _ _ hNb)
 have hseq:SeqGives Fence.wide 2 Tryz.prog 90 #[.pointer (some ⟨blk,0,none⟩)] encStr (fun ss=>ss.Perm (strKeys D)) (Maps.size D) w:=
  AnyZ.keys_gives (ρ:=Tryz.keys64_ren) { Tryz.keys64 with } Fence.wide _ trivial rfl (by omega) blk mb c D w hlt hcell hown
 have hS:=AnyZ.sorted_in Tryz.sorted63 Fence.wide 5 trivial trivial trivial trivial rfl (by omega) (Tryz.sorts63 _) (enters_of Tryz.func89 (by kernel_rfl) rfl) 90 #[.pointer (some ⟨blk,0,none⟩)] trivial (enters_of Tryz.func90 (by kernel_rfl) rfl) _ _ (by unfold maxLen;omega) (by omega) _ hseq
 refine(callsIn_wide.1 hS).mono ?_
 rintro e w' ⟨v,ss,rfl,hp,hrow,_,hb⟩
 have es2:(ss.mergeSort (fun x y=>decide (x≤y)))=keysS D:=mergeSort_of_perm hp
 rw [es2]at hrow
 have hl:ss.length=((keysS D).map str).length:=by rw [List.length_map,keysS,List.length_mergeSort];exact hp.length_eq
 rw [hl]at hrow
 obtain⟨ao,cap,rfl⟩:=owns_form hrow
 exact⟨_,rfl,⟨ao,cap,rfl,hrow⟩,hb⟩
theorem keysS_perm {w:World} {R0:List PR} (hown:w.ownsMap Tryz.prog 9 heldV mb c D) (hI:MapIs D K R0):(keysS D).Perm (R0.map Prod.fst):=by
 obtain⟨es,hD,hpw,_⟩:=hown.entries (Maps.string_keyed Tryz.underlying9)
 obtain⟨es',hD',hko⟩:=hown.keysOf
 obtain rfl:es=es':=by rw [hD]at hD';simpa using hD'
 have hh:=hI.has
 have hdis:=hI.dis
 subst hD
 have h1:=perm_strKeys (ss:=R0.map Prod.fst) hpw (fun p hp=>by obtain⟨v,hv⟩:=hko p hp;obtain⟨x,_,hx,_⟩:=Maps.keyOf_str Tryz.underlying9 hv;exact⟨x,hx⟩) hdis fun x=>by
  rw [hh x,has_iff,List.mem_map]
  constructor
  ·rintro⟨p,hp,rfl⟩;exact⟨p.2,hp⟩
  ·rintro⟨v,hv⟩;exact⟨(x,v),hv,rfl⟩
 exact(List.mergeSort_perm _ _).trans h1.symm
/-- What pairs gives. -/
def PairsO (Nt:Heaplet) (R0:List PR) (v:Value) (L:List Heaplet):Prop:= ∃M a cp, ∃xs:List PV, ∃S:List PR,v=.slice a xs.length cp∧L= [M]∧S.Perm R0∧PsL [M,Nt] 81 (prs S) xs a xs.length cp
set_option maxHeartbeats 2000000 in
theorem FPairs0 {Nt:Heaplet} {bt:Nat} {R0:List PR} (Bt:Blk Nt bt 98 [.map (some mb)]) (hM:MapV Tryz.prog 9 Nt mb c D) (hI:MapIs D Nt R0) (hG:Good R0) (hkp:(keysS D).Perm (R0.map Prod.fst)) (hc:R0.length≤1000000):Fn Tryz.prog 40 #[.pointer (some ⟨bt,0,none⟩)] [] [Nt] (PairsO Nt R0):=by
 obtain⟨ks,hks⟩: ∃ks,keysS D=ks:=⟨_,rfl⟩
 have hkl:ks.length=R0.length:=by rw [←hks,hkp.length_eq,List.length_map]
 have hsz:=hI.size
 have hsort:Ris (byKeys R0 ks):=byKeys_ris (by rw [←hks];exact keys_sorted) (by rw [←hks];exact hkp.nodup_iff.2 hI.dis)
 have hperm:(byKeys R0 ks).Perm R0:=byKeys_perm hI.dis (by rw [←hks];exact hkp)
 have hkk: ∀k∈ks,k.length≤40:=fun k hk=>by
  rw [←hks]at hk
  obtain⟨p,hp,rfl⟩:=List.mem_map.1 (hkp.mem_iff.1 hk)
  exact hG.key p hp
 refine Fn.enter (vs:= [.pointer (some ⟨bt,0,none⟩)]) Tryz.func40 rfl rfl rfl ?_
 intro E R hR
 have hle:=hR Nt (by simp)
 have BR:=Bt.le hle
 have hM:=hM.le hle
 change At _ _ E [R] _
 refine At.seq fun _ s_1=>At.region (aE (aD rfl) rfl rfl (aA (aB (s_1 (At.seq fun _ s_2=>At.region (aE (aD rfl) rfl rfl (aA (aB (s_2 (At.seq fun _ s_3=>At.seq fun _ s_4=>At.region (aC (aD rfl) rfl rfl (aQ (aD rfl) rfl rfl (aF (aD rfl) fl98_0 rfl rfl (aI (aD rfl) sc96 rfl BR (by first|rfl) aL rfl ?_))))))))))))))
 refine aJ (bA rfl) (.cons rfl .nil) (FKeys) Tryz.func64 rfl rfl (by simp) rfl ?_
 rintro v10 L10 ⟨N10,b10,rfl,rfl,B10⟩
 change At _ _ _ [N10,R] _
 refine aJ (bA rfl) (.cons rfl .nil) (FSorted B10 hM (by omega)) Tryz.func63 rfl rfl (by simp) rfl ?_
 rintro v11 L11 ⟨N11,a11,c11,rfl,rfl,r11⟩
 change At _ _ _ [N11,N10,R] _
 rw [hks]at r11⊢;have s11:=r11.rsl;have hn:(ks.map str).length=R0.length:=by rw [List.length_map,hkl]
 refine aU (aD rfl) se104 rfl rfl (aC (aD rfl) rfl rfl (aA (aB (s_4 (At.block ?_)))))
 obtain⟨n,hnn⟩: ∃n,(ks.map str).length=n:=⟨_,rfl⟩
 rw [hnn]at s11 hn⊢
 have hkn:ks.length=n:=by rw [←hnn,List.length_map]
 have hcp:=s11.cap63
 refine At.empty (At.empty (At.sub (L':= [nilH,nilH,N11,R]) (.cons_cons _ (.cons_cons _ (.cons_cons _ (.cons _ (.cons_cons _ (.slnil)))))) (At.perm sel3 (At.perm sel3 (At.perm sel2 (At.perm sel3 (At.loop (fun fr_ hp_ ms_=> ∃(i m:Nat) (a:Option Addr) (cp:Nat) (ys:List PV) (Na NJ:Heaplet),fr_= [(0,.pointer (some ⟨bt,0,none⟩)),(3,.slice a m cp),(11,.slice a11 n c11),(12,.int .i64 (n:Int)),(13,.int .i64 (i:Int))]∧hp_= [Na,NJ,N11,R]∧n- i=ms_∧(i≤n)∧(m=i)∧(Row Na 110 2 a m cp (cellsP ys))∧(∀J:Heaplet,NJ.le J→Nt.le J→PsN J (prs (byKeys R0 (ks.take i))) ys)) ?_ (.refl _) ⟨0,0,none,0,[],nilH,nilH,rfl,rfl,rfl,Nat.zero_le _,rfl,Row.nil _ _ _,fun J _ _=>PsN.nil _⟩ ?_)))))))
 ·exact .cons (by first|exact aP rfl (by omega)|rfl) (.cons (by first|exact aP rfl (by omega)|rfl) (.cons (by first|exact aP rfl (by omega)|rfl) (.cons (by first|exact aP rfl (by omega)|rfl) (.cons (by first|exact aP rfl (by omega)|rfl) .nil))))
 rintro _ _ _ ⟨i,m,a,cp,ys,Na,NJ,rfl,rfl,rfl,hi,hmi,ra,hy⟩
 refine At.seq fun _ s_5=>At.region (op_lss (aD rfl) rfl rfl rfl (aA (aB (s_5 (At.seq fun _ s_6=>aK rfl (fun c14=>?_) (fun c14=>?_))))))
 ·obtain⟨k,hki⟩: ∃k,ks[i]? =some k:=⟨_,List.getElem?_eq_getElem (by omega)⟩
  have hld:(ks.map str)[i]? =some (str k):=by rw [List.getElem?_map,hki];rfl
  have hk40:=hkk k (List.mem_of_getElem? hki)
  have hkey:keyOf Tryz.prog 9 (str k)=some (.string k):=keyOf_strV Tryz.underlying9 (by unfold maxLen;omega)
  obtain⟨va,vn,vc,hat,hvn,hvr⟩:=hI.look k
  refine At.skip (aB (s_6 (At.seq fun _ s_7=>At.block (At.seq fun _ s_8=>At.region (bI (aD rfl) se104 rfl rfl s11 (show _=(((i:Nat)):Int)from by omega) (by omega) rfl ?_)))))
  refine aT (aD rfl) sc9 rfl s11 (by first|exact get8 (by omega)|exact bT (by omega)|exact bU (by omega)|exact hld) (by first|exact aL|exact aZ|exact bB|exact bF|exact bG|exact bH|exact bL|exact bK|exact bJ|exact bM) rfl ?_
  refine aE (aD rfl) rfl rfl (aA (aB (s_8 (At.perm sel2 (At.perm sel3 (At.perm sel3 (At.perm sel3 (At.planS [R,N11] (.take 0 (.take 1 (.take 4 (.take 5 (.take 6 (.take 7 (.take 8 (.fork 2 false (.fork 3 false (.fork 9 false (.take 10 (.fork 11 false (.fork 12 true (.take 13 .done) .nofork) .nofork)) .nofork) (.fork 9 false (.fork 3 false (.take 10 (.fork 11 false (.fork 12 true (.take 13 .done) .nofork) .nofork)) .nofork) .nofork)) (.fork 9 false (.fork 2 false (.fork 3 false (.take 10 (.fork 11 false (.fork 12 true (.take 13 .done) .nofork) .nofork)) .nofork) .nofork) .nofork))))))))) (by kernel_rfl) (by kernel_rfl) (.cons _ (.cons _ (.refl _))) (aC (nxpf rfl rfl) rfl rfl (aC (nxpf rfl rfl) rfl rfl (aC (nxpf rfl rfl) rfl rfl (aQ (nxpf rfl rfl) rfl rfl (aF (nxpf rfl rfl) fl98_0 rfl rfl (aI (nxpf rfl rfl) sc96 rfl BR (by first|rfl) aL rfl ?_))))))))))))))
  refine aC (nxpf rfl rfl) rfl rfl (At.fork ?_ ?_)
  rotate_left
  ·refine At.fork ?_ ?_
   rotate_left
   ·exact At.pNo
   refine op_lookupV1 (Nx.agree (nxpa rfl rfl)) (Maps.string_keyed Tryz.underlying9) Tryz.underlying96 (fun _=>rfl) rfl rfl hM hkey (hat) (by first|exact aL|exact aZ|exact bB|exact bF|exact bG|exact bH|exact bL|exact bK|exact bJ|exact bM) rfl (At.andS (.cons _ (.cons _ (.refl _))) (At.fork ?_ ?_))
   rotate_left
   ·exact At.pNo
   refine op_strB (bs:=k) (Nx.agree (nxpa rfl rfl)) Tryz.underlying9 Tryz.underlying23 Tryz.underlying5 rfl (by omega) rfl (fun N19 b19 p19 m19=>?_)
   have s19:=m19.rsl
   refine At.andS (.cons _ (.cons _ (.cons _ (.refl _)))) (At.fork ?_ ?_)
   rotate_left
   ·exact At.pNo
   refine aJ (Nx.agree (nxpa rfl rfl)) (.cons rfl .nil) (FNibs s19 (by omega)) Tryz.func41 rfl rfl (by simp) rfl ?_
   rintro v20 L20 ⟨M20,a20,c20,rfl,rfl,r20⟩
   change At _ _ _ [M20,N19,Na,NJ,R,N11] _
   refine At.andS (.cons _ (.cons _ (.cons _ (.cons _ (.refl _))))) (op_build (out:= [_,_]) (nxpf rfl rfl) ze110 pl110 (.cons rfl (.cons rfl .nil)) rfl rfl (At.fork ?_ ?_))
   rotate_left
   ·exact At.pNo
   refine op_lit (Nx.agree (nxpa rfl rfl)) Tryz.underlying80 ze110 sz110 (.cons rfl .nil) rfl rfl (by simp [Value.cells]) rfl rfl rfl (fun N28 a28 r28=>?_)
   simp only [flatV,List.flatMap_cons,List.flatMap_nil,Value.cells,List.append_nil,List.cons_append,List.nil_append]at r28
   have s28:=r28.rsl
   refine At.andS (.cons _ (.cons _ (.cons _ (.cons _ (.cons _ (.refl _)))))) (At.fork ?_ ?_)
   rotate_left
   ·exact At.pNo
   change Row N28 _ 2 a28 1 1 (cellsP [⟨a20,2*k.length,c20,va,vn,vc⟩])at r28
   have s28:=r28.rsl
   refine bE (nxpa rfl rfl) Tryz.underlying80 Tryz.underlying80 te110 rfl rfl ra s28 (by first|exact aL|exact aZ|exact bB|exact bF|exact bG|exact bH|exact bL|exact bK|exact bJ|exact bM) (cellsP_one _) (by omega) (by omega) sel3 rfl (fun N29 a29 p29 r29=>?_)
   have s29:=r29.rsl
   refine At.andS (.cons _ (.cons _ (.cons _ (.cons _ (.cons _ (.refl _)))))) ?_
   rw [←cellsP_app]at r29
   refine aE (nxpf rfl rfl) rfl rfl (At.pDone (aR (aB (s_7 (At.region (aV (aD rfl) rfl rfl (by omega) (by omega) rfl (aC (aD rfl) rfl rfl (aA (aB (At.perm bV (At.perm bV (At.perm sel5 (At.perm sel4 (At.perm sel4 (At.perm sel5 (At.perm bV (At.mergeN (fun J J1 J2=>At.sub (L':= [J,N29,R,N11]) (.cons_cons _ (.cons_cons _ (.cons _ (.cons _ (.cons_cons _ (.cons_cons _ (.slnil))))))) (At.perm sel2 (At.perm sel3 (At.perm sel2 ?_)))))))))))))))))))))
   refine At.perm sel3 ?_
   refine bD ?_ (.refl _) ⟨i+1,m+1,a29,p29,ys++ [⟨a20,2*k.length,c20,va,vn,vc⟩],N29,J,rfl,rfl,rfl,by omega,by omega,r29,fun J' h1 h2=>by rw [take_next1 hki];exact pairs_snoc (hy J' (Heaplet.le_trans J1 h1) h2) (r20.rsl.le (Heaplet.le_trans J2 h1)) hvn (hvr.le h2)⟩ ?_
   ·exact .cons (by first|exact aP rfl (by omega)|rfl) (.cons (by first|exact aP rfl (by omega)|rfl) (.cons (by first|exact aP rfl (by omega)|rfl) (.cons (by first|exact aP rfl (by omega)|rfl) (.cons (by first|exact aP rfl (by omega)|rfl) .nil))))
   ·omega
  refine op_strB (bs:=k) (Nx.agree (nxpa rfl rfl)) Tryz.underlying9 Tryz.underlying23 Tryz.underlying5 rfl (by omega) rfl (fun N19 b19 p19 m19=>?_)
  have s19:=m19.rsl
  refine At.andS (.cons _ (.cons _ (.cons _ (.refl _)))) (At.fork ?_ ?_)
  rotate_left
  ·refine At.fork ?_ ?_
   rotate_left
   ·exact At.pNo
   refine op_lookupV1 (Nx.agree (nxpa rfl rfl)) (Maps.string_keyed Tryz.underlying9) Tryz.underlying96 (fun _=>rfl) rfl rfl hM hkey (hat) (by first|exact aL|exact aZ|exact bB|exact bF|exact bG|exact bH|exact bL|exact bK|exact bJ|exact bM) rfl (At.andS (.cons _ (.cons _ (.cons _ (.refl _)))) (At.fork ?_ ?_))
   rotate_left
   ·exact At.pNo
   refine aJ (Nx.agree (nxpa rfl rfl)) (.cons rfl .nil) (FNibs s19 (by omega)) Tryz.func41 rfl rfl (by simp) rfl ?_
   rintro v20 L20 ⟨M20,a20,c20,rfl,rfl,r20⟩
   change At _ _ _ [M20,N19,Na,NJ,R,N11] _
   refine At.andS (.cons _ (.cons _ (.cons _ (.cons _ (.refl _))))) (op_build (out:= [_,_]) (nxpf rfl rfl) ze110 pl110 (.cons rfl (.cons rfl .nil)) rfl rfl (At.fork ?_ ?_))
   rotate_left
   ·exact At.pNo
   refine op_lit (Nx.agree (nxpa rfl rfl)) Tryz.underlying80 ze110 sz110 (.cons rfl .nil) rfl rfl (by simp [Value.cells]) rfl rfl rfl (fun N28 a28 r28=>?_)
   simp only [flatV,List.flatMap_cons,List.flatMap_nil,Value.cells,List.append_nil,List.cons_append,List.nil_append]at r28
   have s28:=r28.rsl
   refine At.andS (.cons _ (.cons _ (.cons _ (.cons _ (.cons _ (.refl _)))))) (At.fork ?_ ?_)
   rotate_left
   ·exact At.pNo
   change Row N28 _ 2 a28 1 1 (cellsP [⟨a20,2*k.length,c20,va,vn,vc⟩])at r28
   have s28:=r28.rsl
   refine bE (nxpa rfl rfl) Tryz.underlying80 Tryz.underlying80 te110 rfl rfl ra s28 (by first|exact aL|exact aZ|exact bB|exact bF|exact bG|exact bH|exact bL|exact bK|exact bJ|exact bM) (cellsP_one _) (by omega) (by omega) sel3 rfl (fun N29 a29 p29 r29=>?_)
   have s29:=r29.rsl
   refine At.andS (.cons _ (.cons _ (.cons _ (.cons _ (.cons _ (.refl _)))))) ?_
   rw [←cellsP_app]at r29
   refine aE (nxpf rfl rfl) rfl rfl (At.pDone (aR (aB (s_7 (At.region (aV (aD rfl) rfl rfl (by omega) (by omega) rfl (aC (aD rfl) rfl rfl (aA (aB (At.perm bV (At.perm bV (At.perm sel5 (At.perm sel4 (At.perm sel4 (At.perm sel5 (At.perm bV (At.mergeN (fun J J1 J2=>At.sub (L':= [J,N29,R,N11]) (.cons_cons _ (.cons_cons _ (.cons _ (.cons _ (.cons_cons _ (.cons_cons _ (.slnil))))))) (At.perm sel2 (At.perm sel3 (At.perm sel2 ?_)))))))))))))))))))))
   refine At.perm sel3 ?_
   refine bD ?_ (.refl _) ⟨i+1,m+1,a29,p29,ys++ [⟨a20,2*k.length,c20,va,vn,vc⟩],N29,J,rfl,rfl,rfl,by omega,by omega,r29,fun J' h1 h2=>by rw [take_next1 hki];exact pairs_snoc (hy J' (Heaplet.le_trans J1 h1) h2) (r20.rsl.le (Heaplet.le_trans J2 h1)) hvn (hvr.le h2)⟩ ?_
   ·exact .cons (by first|exact aP rfl (by omega)|rfl) (.cons (by first|exact aP rfl (by omega)|rfl) (.cons (by first|exact aP rfl (by omega)|rfl) (.cons (by first|exact aP rfl (by omega)|rfl) (.cons (by first|exact aP rfl (by omega)|rfl) .nil))))
   ·omega
  refine aJ (Nx.agree (nxpa rfl rfl)) (.cons rfl .nil) (FNibs s19 (by omega)) Tryz.func41 rfl rfl (by simp) rfl ?_
  rintro v20 L20 ⟨M20,a20,c20,rfl,rfl,r20⟩
  change At _ _ _ [M20,N19,Na,NJ,R,N11] _
  refine At.andS (.cons _ (.cons _ (.cons _ (.cons _ (.refl _))))) (At.fork ?_ ?_)
  rotate_left
  ·exact At.pNo
  refine op_lookupV1 (Nx.agree (nxpa rfl rfl)) (Maps.string_keyed Tryz.underlying9) Tryz.underlying96 (fun _=>rfl) rfl rfl hM hkey (hat) (by first|exact aL|exact aZ|exact bB|exact bF|exact bG|exact bH|exact bL|exact bK|exact bJ|exact bM) rfl (At.andS (.cons _ (.cons _ (.cons _ (.cons _ (.refl _))))) (op_build (out:= [_,_]) (nxpf rfl rfl) ze110 pl110 (.cons rfl (.cons rfl .nil)) rfl rfl (At.fork ?_ ?_)))
  rotate_left
  ·exact At.pNo
  refine op_lit (Nx.agree (nxpa rfl rfl)) Tryz.underlying80 ze110 sz110 (.cons rfl .nil) rfl rfl (by simp [Value.cells]) rfl rfl rfl (fun N28 a28 r28=>?_)
  simp only [flatV,List.flatMap_cons,List.flatMap_nil,Value.cells,List.append_nil,List.cons_append,List.nil_append]at r28
  have s28:=r28.rsl
  refine At.andS (.cons _ (.cons _ (.cons _ (.cons _ (.cons _ (.refl _)))))) (At.fork ?_ ?_)
  rotate_left
  ·exact At.pNo
  change Row N28 _ 2 a28 1 1 (cellsP [⟨a20,2*k.length,c20,va,vn,vc⟩])at r28
  have s28:=r28.rsl
  refine bE (nxpa rfl rfl) Tryz.underlying80 Tryz.underlying80 te110 rfl rfl ra s28 (by first|exact aL|exact aZ|exact bB|exact bF|exact bG|exact bH|exact bL|exact bK|exact bJ|exact bM) (cellsP_one _) (by omega) (by omega) sel3 rfl (fun N29 a29 p29 r29=>?_)
  have s29:=r29.rsl
  refine At.andS (.cons _ (.cons _ (.cons _ (.cons _ (.cons _ (.refl _)))))) ?_
  rw [←cellsP_app]at r29
  refine aE (nxpf rfl rfl) rfl rfl (At.pDone (aR (aB (s_7 (At.region (aV (aD rfl) rfl rfl (by omega) (by omega) rfl (aC (aD rfl) rfl rfl (aA (aB (At.perm bV (At.perm bV (At.perm sel5 (At.perm sel4 (At.perm sel4 (At.perm sel5 (At.perm bV (At.mergeN (fun J J1 J2=>At.sub (L':= [J,N29,R,N11]) (.cons_cons _ (.cons_cons _ (.cons _ (.cons _ (.cons_cons _ (.cons_cons _ (.slnil))))))) (At.perm sel2 (At.perm sel3 (At.perm sel2 ?_)))))))))))))))))))))
  refine At.perm sel3 ?_
  refine bD ?_ (.refl _) ⟨i+1,m+1,a29,p29,ys++ [⟨a20,2*k.length,c20,va,vn,vc⟩],N29,J,rfl,rfl,rfl,by omega,by omega,r29,fun J' h1 h2=>by rw [take_next1 hki];exact pairs_snoc (hy J' (Heaplet.le_trans J1 h1) h2) (r20.rsl.le (Heaplet.le_trans J2 h1)) hvn (hvr.le h2)⟩ ?_
  ·exact .cons (by first|exact aP rfl (by omega)|rfl) (.cons (by first|exact aP rfl (by omega)|rfl) (.cons (by first|exact aP rfl (by omega)|rfl) (.cons (by first|exact aP rfl (by omega)|rfl) (.cons (by first|exact aP rfl (by omega)|rfl) .nil))))
  ·omega
 refine At.exit (aG (aG (bC (aB (s_3 (At.seq fun _ s_9=>At.region (aC (aD rfl) rfl rfl (aE (aD rfl) rfl rfl (aA (aB (s_9 (At.ret ((At.mergeN (fun Q Q1 Q2=>At.sub (L':= [Q,R]) (.cons_cons _ (.cons _ (.cons_cons _ (.slnil)))) (aW (L1:= [Q]) rfl (.tmp rfl .nil) (.refl _) (.refl _) ?_))))))))))))))))
 have hin:i=n:=by omega
 rw [List.take_of_length_le (by omega)]at hy
 have hyl:m=ys.length:=by have h3:=ra.1;rw [cellsP_len]at h3;omega
 rw [hyl]at ra⊢
 refine⟨Q,a,cp,ys,_,rfl,rfl,hperm,fun J hJ=>?_⟩
 have h1:=hJ Q (by simp)
 exact⟨ra.rsl.le (Heaplet.le_trans Q1 h1),hy J (Heaplet.le_trans Q2 h1) (hJ Nt (by simp)),hsort.prs,(hG.perm hperm.symm).fit,by omega⟩
theorem FPairs {Nt:Heaplet} {bt:Nat} {R0:List PR} (h:TrieN Nt bt c R0) (hc:R0.length≤1000000):Fn Tryz.prog 40 #[.pointer (some ⟨bt,0,none⟩)] [] [Nt] (PairsO Nt R0):=fun E w F hw hr=>by
 obtain⟨mb,D,Bt,hM,hI,hG⟩:=h
 have hle:Nt.le (whole w):=Heaplet.le_trans (hr Nt (by simp)) (hw.sub F (by simp))
 have hM2:=hM
 obtain⟨es,clock,hNb,hown⟩:=hM2
 exact FPairs0 Bt hM hI hG (keysS_perm (hown w (hle _ _ hNb)) hI) hc E w F hw hr
theorem FRoot {Nt:Heaplet} {bt:Nat} {R0:List PR} (h:TrieN Nt bt c R0) (hc:R0.length≤1000000):Fn Tryz.prog 17 #[.pointer (some ⟨bt,0,none⟩)] [] [Nt] (fun v L=>v=.agg (u8s (rootM R0)).toArray∧L= []):=by
 obtain⟨mb,D,Bt,hM,hI,hG⟩:=id h
 refine Fn.enter (vs:= [.pointer (some ⟨bt,0,none⟩)]) Tryz.func17 rfl rfl rfl ?_
 intro E R hR
 have hle:=hR Nt (by simp)
 change At _ _ E [R] _
 refine At.seq fun _ s_1=>At.region (bO (bA rfl) ze26 rfl (fun N2 b2 B2=>?_))
 change Blk N2 b2 _ [.int .u8 0,.int .u8 0,.int .u8 0,.int .u8 0,.int .u8 0,.int .u8 0,.int .u8 0,.int .u8 0,.int .u8 0,.int .u8 0,.int .u8 0,.int .u8 0,.int .u8 0,.int .u8 0,.int .u8 0,.int .u8 0,.int .u8 0,.int .u8 0,.int .u8 0,.int .u8 0,.int .u8 0,.int .u8 0,.int .u8 0,.int .u8 0,.int .u8 0,.int .u8 0,.int .u8 0,.int .u8 0,.int .u8 0,.int .u8 0,.int .u8 0,.int .u8 0]at B2
 refine aA (aB (s_1 (At.seq fun _ s_2=>At.region (aC (aD rfl) rfl rfl (aJ (bA rfl) (.cons rfl .nil) (FPairs (h.le hle) hc) Tryz.func40 rfl rfl (by simp) rfl ?_)))))
 rintro v4 L4 ⟨M4,a4,c4,xs,S,rfl,rfl,hp,hL⟩
 change At _ _ _ [M4,N2,R] _
 have hroot:rootM R0=kec (nodeF 81 (prs S)).form:=by rw [root_perm hG.dis hp.symm,rootM]
 have hsm:=node_small 81 (hG.perm hp.symm).fit.sml
 refine aJ (bA rfl) (.cons rfl .nil) (FForm hL) Tryz.func42 rfl rfl (by simp) rfl ?_
 rintro v5 L5 ⟨M5,a5,c5,rfl,rfl,r5⟩
 change At _ _ _ [M5,M4,N2,R] _
 refine aJ (bA rfl) (.cons rfl .nil) (FKeccak_f r5.rsl (by omega)) Tryz.func52 rfl rfl (by simp) rfl ?_
 rintro v6 L6 ⟨rfl,rfl⟩
 change At _ _ _ [M5,M4,N2,R] _
 rw [←hroot]
 refine aO (nxl rfl) sz26 rfl rfl rfl (kecM _) (all8x2 _) B2 (by rw [kecM];exact Nat.le_refl 32) sel2 (fun N2 B2=>?_)
 rw [setL_whole (by rw [kecM];rfl)]at B2
 refine aA (aB (s_2 (At.ret ((At.sub (L':= [N2,R]) (.cons_cons _ (.cons _ (.cons _ (.cons_cons _ (.slnil))))) ?_)))))
 refine aW (L1:= []) rfl (.cell rfl (res_agg (ds:=u8s (rootM R0)) ag26 B2 (by rw [List.drop_zero,List.take_of_length_le (by rw [kecM];exact Nat.le_refl 32)]) (kecM _) aL) .nil) (.cons _ (.refl _)) (.refl _) ?_
 exact⟨rfl,rfl⟩
end
end Go.Proofs.YtdpjbefeabokgaaGreat
/- Layer 12, the reference: Get, pairs, Root. No condition but bounds. -/
namespace Go.Proofs.YtdpjbefeabokgaaGreat
open Go Go.RowKit
set_option maxRecDepth 100000
section
variable {Nt K : Heaplet} {bt : Nat} {R0 : List PR} {ka : Option Addr} {kn kc : Nat} {k : List UInt8}
theorem get_at {i:Nat} {x:List UInt8} (hd:Dis R0) (h:R0[i]? =some (k,x)):getR R0 k=some x∧hasM k R0=true:=
 ⟨(get_iff hd).2 (List.mem_of_getElem? h),has_iff.2 ⟨x,List.mem_of_getElem? h⟩⟩
/-- What pairs gives. -/
def PairsD (Nt:Heaplet) (R0:List PR) (v:Value) (L:List Heaplet):Prop:= ∃M a cp, ∃xs:List PV,v=.slice a xs.length cp∧L= [M]∧PsM [M,Nt] 81 (prs R0) xs a xs.length cp
set_option maxHeartbeats 2000000 in
theorem rPairs (h:RefS Nt bt R0) (hc:R0.length≤1000000):Fn Tryz.prog 44 #[.pointer (some ⟨bt,0,none⟩)] [] [Nt] (PairsD Nt R0):=by
 obtain⟨aa,ac,va,vc,ks,vs,Bt,rk,rv,bk,bv,hG⟩:=h
 have hcap:=rk.cap63
 have hcap2:=rv.cap63
 refine Fn.enter (vs:= [.pointer (some ⟨bt,0,none⟩)]) Tryz.func44 rfl rfl rfl ?_
 intro E R hR
 have hle:=hR Nt (by simp)
 have BR:=Bt.le hle
 have rkR:=rk.le hle
 have rvR:=rv.le hle
 change At _ _ E [R] _
 refine At.seq fun _ s_1=>At.region (aE (aD rfl) rfl rfl (aA (aB (s_1 (At.seq fun _ s_2=>At.region (aE (aD rfl) rfl rfl (aA (aB (s_2 (At.seq fun _ s_3=>At.seq fun _ s_4=>At.region (aE (aD rfl) rfl rfl (aA (aB (s_4 (At.block (At.empty (At.empty (At.perm sel2 (At.perm sel1 ?_)))))))))))))))))))
 refine At.perm sel2 (At.loop (fun fr_ hp_ ms_=> ∃(i m:Nat) (a:Option Addr) (cp:Nat) (ys:List PV) (Na NJ:Heaplet),fr_= [(0,.pointer (some ⟨bt,0,none⟩)),(3,.slice a m cp),(4,.int .i64 (i:Int))]∧hp_= [Na,NJ,R]∧R0.length- i=ms_∧(i≤R0.length)∧(m=i)∧(Row Na 92 2 a m cp (cellsP ys))∧(∀J:Heaplet,NJ.le J→Nt.le J→PsN J (prs (R0.take i)) ys)) ?_ (.refl _) ⟨0,0,none,0,[],nilH,nilH,rfl,rfl,rfl,Nat.zero_le _,rfl,Row.nil _ _ _,fun J _ _=>PsN.nil _⟩ ?_)
 ·exact .cons (by first|exact aP rfl (by omega)|rfl) (.cons (by first|exact aP rfl (by omega)|rfl) (.cons (by first|exact aP rfl (by omega)|rfl) .nil))
 rintro _ _ _ ⟨i,m,a,cp,ys,Na,NJ,rfl,rfl,rfl,hi,hmi,ra,hy⟩
 refine At.seq fun _ s_5=>At.seq fun _ s_6=>At.region (aC (aD rfl) rfl rfl (aC (aD rfl) rfl rfl (aQ (aD rfl) rfl rfl (aF (aD rfl) fl52_0 rfl rfl (aI (aD rfl) sc22 rfl BR (by first|rfl) bB rfl ?_)))))
 refine aU (aD rfl) se22 rfl rfl (op_lss (aD rfl) rfl rfl rfl (aA (aB (s_6 (aK rfl (fun c11=>?_) (fun c11=>?_))))))
 ·obtain⟨p,hp⟩: ∃p,R0[i]? =some p:=⟨_,List.getElem?_eq_getElem (by omega)⟩
  obtain⟨ya,yc,hkc,hks⟩:=bags_at (f:=Prod.fst) bk hp
  obtain⟨xa,xc,hvc,hvs⟩:=bags_at (f:=Prod.snd) bv hp
  have hk40:=hG.key p (List.mem_of_getElem? hp)
  refine At.skip (aB (s_5 (At.seq fun _ s_7=>At.block (At.drawnS [R] [17,18] [0,9,13] [0,1,2,3,4,5,6,7,9,10,11,12,13,14,15,8,16,17,18,19] (by kernel_rfl) (by kernel_rfl) (.cons _ (.cons _ (.refl _))) (aC (aX rfl rfl rfl) rfl rfl (aC (aX rfl rfl rfl) rfl rfl (aQ (aX rfl rfl rfl) rfl rfl (aF (aX rfl rfl rfl) fl52_0 rfl rfl (aI (aX rfl rfl rfl) sc22 rfl BR (by first|rfl) aL rfl ?_)))))))))
  refine aC (aX rfl rfl rfl) rfl rfl (bI (aX rfl rfl rfl) se22 rfl rfl rkR (show _=(((i:Nat)):Int)from by omega) (by omega) rfl ?_)
  refine aT (aX rfl rfl rfl) sc23 rfl rkR (by first|exact get8 (by omega)|exact bT (by omega)|exact bU (by omega)|exact hkc) (by first|exact aL|exact aZ|exact bB|exact bF|exact bG|exact bH|exact bL|exact bK|exact bJ|exact bM) rfl ?_
  refine aC (aX rfl rfl rfl) rfl rfl (aQ (aX rfl rfl rfl) rfl rfl (aF (aX rfl rfl rfl) fl52_1 rfl rfl (aI (aX rfl rfl rfl) sc22 rfl BR (by first|rfl) aL rfl ?_)))
  refine aC (aX rfl rfl rfl) rfl rfl (bI (aX rfl rfl rfl) se22 rfl rfl rvR (show _=(((i:Nat)):Int)from by omega) (by omega) rfl ?_)
  refine aT (aX rfl rfl rfl) sc23 rfl rvR (by first|exact get8 (by omega)|exact bT (by omega)|exact bU (by omega)|exact hvc) (by first|exact aL|exact aZ|exact bB|exact bF|exact bG|exact bH|exact bL|exact bK|exact bJ|exact bM) rfl ?_
  refine aJ (Nx.agree (nxsm rfl rfl rfl)) (.cons rfl .nil) (rNibs (hks.le hle) (by omega)) Tryz.func45 rfl rfl (by simp) rfl ?_
  rintro v22 L22 ⟨M22,a22,c22,rfl,rfl,r22⟩
  change At _ _ _ [M22,Na,NJ,R] _
  refine At.perm sel3 (At.perm sel1 (At.perm sel3 (At.perm sel3 (At.moreS (Lst:= [R]) (Lst':= [M22,R]) (.cons _ (.refl _)) (.cons _ (.cons _ (.refl _))) (op_build (out:= [_,_]) (aX rfl rfl rfl) ze92 pl92 (.cons rfl (.cons rfl .nil)) rfl rfl (op_lit (Nx.agree (nxss rfl rfl rfl rfl)) Tryz.underlying85 ze92 sz92 (.cons rfl .nil) rfl rfl (by simp [Value.cells]) rfl rfl rfl (fun N31 a31 r31=>?_)))))))
  simp only [flatV,List.flatMap_cons,List.flatMap_nil,Value.cells,List.append_nil,List.cons_append,List.nil_append]at r31
  have s31:=r31.rsl
  refine At.anyS (.refl _) ?_
  change Row N31 _ 2 a31 1 1 (cellsP [⟨a22,2*p.1.length,c22,xa,p.2.length,xc⟩])at r31
  have s31:=r31.rsl
  refine bE (nxss rfl rfl rfl rfl) Tryz.underlying85 Tryz.underlying85 te92 rfl rfl ra s31 (by first|exact aL|exact aZ|exact bB|exact bF|exact bG|exact bH|exact bL|exact bK|exact bJ|exact bM) (cellsP_one _) (by omega) (by omega) sel1 rfl (fun N32 a32 p32 r32=>?_)
  have s32:=r32.rsl
  refine At.anyS (.refl _) ?_
  rw [←cellsP_app]at r32
  refine aE (aX rfl rfl rfl) rfl rfl (At.sNil (aR (aB (s_7 (At.region (aC (aD rfl) rfl rfl (aV (aD rfl) rfl rfl (by omega) (by omega) rfl (aE (aD rfl) rfl rfl (aA (aB (At.perm sel4 (At.perm sel2 (At.perm sel2 (At.perm sel4 (At.perm sel4 (At.mergeN (fun J J1 J2=>At.sub (L':= [J,N32,R]) (.cons_cons _ (.cons_cons _ (.cons _ (.cons_cons _ (.slnil))))) (At.perm sel2 (At.perm sel1 (At.perm sel2 ?_))))))))))))))))))))
  refine bD ?_ (.refl _) ⟨i+1,m+1,a32,p32,ys++ [⟨a22,2*p.1.length,c22,xa,p.2.length,xc⟩],N32,J,rfl,rfl,rfl,by omega,by omega,r32,fun J' h1 h2=>by rw [take_next1 hp,show prs (R0.take i++ [p])=prs (R0.take i)++ [(nibs p.1,p.2)]from by simp [prs]];exact(hy J' (Heaplet.le_trans J1 h1) h2).snoc ⟨(nibs_length p.1).symm,r22.rsl.le (Heaplet.le_trans J2 h1),rfl,hvs.le h2⟩⟩ ?_
  ·exact .cons (by first|exact aP rfl (by omega)|rfl) (.cons (by first|exact aP rfl (by omega)|rfl) (.cons (by first|exact aP rfl (by omega)|rfl) .nil))
  ·omega
 refine At.exit (aG (aG (bC (aB (s_3 (At.seq fun _ s_8=>At.region (aC (aD rfl) rfl rfl (aE (aD rfl) rfl rfl (aA (aB (s_8 (At.ret ((At.mergeN (fun Q Q1 Q2=>aW (L1:= [Q]) rfl (.tmp rfl .nil) (.refl _) (.refl _) ?_)))))))))))))))
 rw [List.take_of_length_le (by omega)]at hy
 have hyl:m=ys.length:=by have h3:=ra.1;rw [cellsP_len]at h3;omega
 rw [hyl]at ra⊢
 refine⟨Q,a,cp,ys,rfl,rfl,fun J hJ=>?_⟩
 have h1:=hJ Q (by simp)
 exact⟨ra.rsl.le (Heaplet.le_trans Q1 h1),hy J (Heaplet.le_trans Q2 h1) (hJ Nt (by simp)),hG.dis.prs,hG.fit,by omega⟩
theorem rRoot (h:RefS Nt bt R0) (hc:R0.length≤1000000):Fn Tryz.prog 31 #[.pointer (some ⟨bt,0,none⟩)] [] [Nt] (fun v L=>v=.agg (u8s (rootM R0)).toArray∧L= []):=by
 obtain⟨aa,ac,va,vc,ks,vs,Bt,rk,rv,bk,bv,hG⟩:=id h
 have hsm:=node_small 81 hG.fit.sml
 obtain⟨t,ht⟩: ∃t,nodeF 81 (prs R0)=t:=⟨_,rfl⟩
 have hroot:rootM R0=kec t.form:=by rw [rootM,ht]
 have hN:=rNode 81
 rw [ht]at hsm
 refine Fn.enter (vs:= [.pointer (some ⟨bt,0,none⟩)]) Tryz.func31 rfl rfl rfl ?_
 intro E R hR
 have hle:=hR Nt (by simp)
 change At _ _ E [R] _
 refine At.seq fun _ s_1=>At.region (bO (bA rfl) ze26 rfl (fun N2 b2 B2=>?_))
 change Blk N2 b2 _ [.int .u8 0,.int .u8 0,.int .u8 0,.int .u8 0,.int .u8 0,.int .u8 0,.int .u8 0,.int .u8 0,.int .u8 0,.int .u8 0,.int .u8 0,.int .u8 0,.int .u8 0,.int .u8 0,.int .u8 0,.int .u8 0,.int .u8 0,.int .u8 0,.int .u8 0,.int .u8 0,.int .u8 0,.int .u8 0,.int .u8 0,.int .u8 0,.int .u8 0,.int .u8 0,.int .u8 0,.int .u8 0,.int .u8 0,.int .u8 0,.int .u8 0,.int .u8 0]at B2
 refine aA (aB (s_1 (At.seq fun _ s_2=>At.region (aC (aD rfl) rfl rfl (aJ (bA rfl) (.cons rfl .nil) (rPairs (h.le hle) hc) Tryz.func44 rfl rfl (by simp) rfl ?_)))))
 rintro v4 L4 ⟨M4,a4,c4,xs,rfl,rfl,hL⟩
 change At _ _ _ [M4,N2,R] _
 have hN:=hN _ _ _ _ _ _ hL
 rw [ht]at hN
 refine aJ (bA rfl) (.cons rfl .nil) (hN) Tryz.func46 rfl rfl (by simp) rfl ?_
 rintro v5 L5 ⟨M5,x,rfl,rfl,hx⟩
 change At _ _ _ [M5,M4,N2,R] _
 refine aJ (bA rfl) (.cons rfl .nil) (Fn.overJ (Ns:= [M5,M4,R]) fun J hJ=>rForm_b (hx J (hJ _ (by simp)) fun N hN=>hJ N (by simp only [List.mem_cons,List.not_mem_nil,or_false]at hN⊢;exact .inr hN)) (by omega)) Tryz.func35 rfl rfl (by simp) rfl ?_
 rintro v6 L6 ⟨M6,a6,c6,rfl,rfl,r6⟩
 change At _ _ _ [M6,M5,M4,N2,R] _
 refine aJ (bA rfl) (.cons rfl .nil) (rKeccak_f r6.rsl (by omega)) Tryz.func21 rfl rfl (by simp) rfl ?_
 rintro v7 L7 ⟨rfl,rfl⟩
 change At _ _ _ [M6,M5,M4,N2,R] _
 rw [←hroot]
 refine aO (nxl rfl) sz26 rfl rfl rfl (kecM _) (all8x2 _) B2 (by rw [kecM];exact Nat.le_refl 32) sel3 (fun N2 B2=>?_)
 rw [setL_whole (by rw [kecM];rfl)]at B2
 refine aA (aB (s_2 (At.ret ((At.sub (L':= [N2,R]) (.cons_cons _ (.cons _ (.cons _ (.cons _ (.cons_cons _ (.slnil)))))) ?_)))))
 refine aW (L1:= []) rfl (.cell rfl (res_agg (ds:=u8s (rootM R0)) ag26 B2 (by rw [List.drop_zero,List.take_of_length_le (by rw [kecM];exact Nat.le_refl 32)]) (kecM _) aL) .nil) (.cons _ (.refl _)) (.refl _) ?_
 exact⟨rfl,rfl⟩
end
end Go.Proofs.YtdpjbefeabokgaaGreat
