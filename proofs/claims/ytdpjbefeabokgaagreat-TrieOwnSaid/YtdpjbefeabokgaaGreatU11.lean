/- Several texts in one: see the remarks ahead of each part. No condition but those told there. -/
import Derived.Test.YtdpjbefeabokgaaGreatU7
import Derived.Test.YtdpjbefeabokgaaGreatU10
import Derived.Maps.OwnSet
import Derived.Sort.KeysCollected
import Derived.Test.YtdpjbefeabokgaaGreatU4
import Derived.Laws.Cover3
import Derived.Laws.Pointers
set_option linter.unusedSimpArgs false
set_option linter.unusedVariables false
/- rlp.decode, rlp.Decode: what they give is the caller's own. No condition but that bytes are not longer than a machine holds. -/
namespace Go.Proofs.YtdpjbefeabokgaaGreat
open Go Go.RowKit
def It.bytes:It→List UInt8
 |.mk _ bs _=>bs
def It.items:It→List It
 |.mk _ _ its=>its
def slB (x:IV):Value:=.slice x.ab x.nb x.cb
mutual
/-- Below each list of the item the items' bytes lie in blocks of their own. -/
def DepB (M:Heaplet):It→IV→Prop
 |.mk _ _ its,x=> ∃xs,RSl M 3 x.ai x.ni x.ci (cellsI xs)∧Bag 5 M (xs.map slB) (its.map It.bytes)∧DepBs M its xs
def DepBs (M:Heaplet):List It→List IV→Prop
 | [],xs=>xs= []
 |t::ts,xs=> ∃x r,xs=x::r∧DepB M t x∧DepBs M ts r
end
mutual
theorem DepB.le {N M:Heaplet} (hl:N.le M): ∀ {t:It} {x:IV},DepB N t x→DepB M t x
 |.mk l bs its,x,h=>by
  simp only [DepB]at h⊢
  obtain⟨xs,h1,h2,h3⟩:=h
  exact⟨xs,h1.le hl,h2.le hl,DepBs.le hl h3⟩
theorem DepBs.le {N M:Heaplet} (hl:N.le M): ∀ {ts:List It} {xs:List IV},DepBs N ts xs→DepBs M ts xs
 | [],xs,h=>by simp only [DepBs]at h⊢;exact h
 |t::ts,xs,h=>by
  simp only [DepBs]at h⊢
  obtain⟨x,r,h1,h2,h3⟩:=h
  exact⟨x,r,h1,DepB.le hl h2,DepBs.le hl h3⟩
end
theorem DepBs.nil (M:Heaplet):DepBs M [] []:=by simp only [DepBs]
theorem DepBs.snoc {M:Heaplet} : ∀ {ts:List It} {xs:List IV} {t:It} {x:IV},DepBs M ts xs→DepB M t x→DepBs M (ts++ [t]) (xs++ [x])
 | [],xs,t,x,h,k=>by
  simp only [DepBs]at h
  subst h
  show DepBs M [t] [x]
  simp only [DepBs]
  exact⟨x,[],rfl,k,rfl⟩
 |u::ts,xs,t,x,h,k=>by
  simp only [DepBs]at h
  obtain⟨y,r,rfl,h2,h3⟩:=h
  show DepBs M (u::(ts++ [t])) (y::(r++ [x]))
  simp only [DepBs]
  exact⟨y,r++ [x],rfl,h2,DepBs.snoc h3 k⟩
/-- The item's bytes, its list, its items' bytes lie in blocks of their own, and so on below. -/
def OwnTop (M:Heaplet) (t:It) (x:IV):Prop:=DepB M t x∧ ∃NB NR NS xs,[NB,NR,NS].Pairwise Apart∧M=joinL [NB,NR,NS]∧Row NB 5 1 x.ab x.nb x.cb (u8s t.bytes)∧Row NR 68 3 x.ai x.ni x.ci (cellsI xs)∧xs.length=x.ni∧Bag 5 NS (xs.map slB) (t.items.map It.bytes)
/-- No bytes in it are longer. -/
def Small (t:It) (n:Nat):Prop:=t.bytes.length≤n∧ ∀u∈t.items,u.bytes.length≤n
theorem join_nil (N:Heaplet):join2 N nilH=N:=by
 funext k
 simp only [join2]
 cases N k<;>rfl
theorem OwnTop.row {M:Heaplet} {t:It} {x:IV} (h:OwnTop M t x):Row M 5 1 x.ab x.nb x.cb (u8s t.bytes):=by
 obtain⟨_,NB,NR,NS,xs,h1,rfl,h3,_⟩:=h
 exact h3.le (le_joinL h1 (by simp))
theorem Bag.more {Ns M:Heaplet} {done:List It} {xs:List IV} {t:It} {x:IV} (h:Bag 5 Ns (xs.map slB) (done.map It.bytes)) (hr:Row M 5 1 x.ab x.nb x.cb (u8s t.bytes)) (ha:Apart Ns M):Bag 5 (join2 Ns M) ((xs++ [x]).map slB) ((done++ [t]).map It.bytes):=by
 have hl:t.bytes.length=x.nb:=by have:=hr.1;simpa using this
 have h2:Row M 5 1 x.ab t.bytes.length x.cb (u8s t.bytes):=by rw [hl];exact hr
 have:=h.snoc h2 ha.symm
 rw [List.map_append,List.map_append]
 show Bag _ _ (xs.map slB++ [slB x]) (done.map It.bytes++ [t.bytes])
 rw [slB, ←hl]
 refine this.le ?_
 intro k o hk
 simp only [join2]at hk⊢
 rcases ha k with h0|h0
 ·rw [h0];rw [h0]at hk
  cases hm:M k with
  |none=>rw [hm]at hk;cases hk
  |some o'=>rw [hm]at hk;simpa using hk
 ·rw [h0]at hk
  cases hn:Ns k with
  |none=>rw [hn]at hk;cases hk
  |some o'=>rw [hn]at hk;simpa using hk
/-- What decode tells. -/
def DecO (ao:Option Addr) (n cap:Nat) (b:List UInt8) (r:Except Nat (It×List UInt8)) (v:Value) (L:List Heaplet):Prop:=
 (∃t q M, ∃x:IV, ∃aq cq,r=.ok (t,q)∧v=.tuple #[.agg #[.bool x.l,.slice x.ab x.nb x.cb,.slice x.ai x.ni x.ci],.slice aq q.length cq,.int .i64 0]∧L= [M]∧ItN M t x∧OwnTop M t x∧Small t b.length∧ ∀N,RSl N 1 ao n cap (u8s b)→RSl N 1 aq q.length cq (u8s q))∨
 (∃e:Nat,r=.error e∧v=.tuple #[.agg #[.bool false,.slice none 0 0,.slice none 0 0],.slice none 0 0,.int .i64 (e:Int)]∧L= []∧e≠0)
def DecodeO (nb:Nat) (r:Except Nat It) (v:Value) (L:List Heaplet):Prop:=
 (∃t M, ∃x:IV,r=.ok t∧v=.tuple #[.agg #[.bool x.l,.slice x.ab x.nb x.cb,.slice x.ai x.ni x.ci],.int .i64 0]∧L= [M]∧ItN M t x∧OwnTop M t x∧Small t nb)∨
 (∃e:Nat,r=.error e∧v=.tuple #[.agg #[.bool false,.slice none 0 0,.slice none 0 0],.int .i64 (e:Int)]∧L= []∧e≠0)
/-- What Decode gives, parts of the memory one by one: the caller's own. -/
def DecW (nb:Nat) (v:Value) (L:List Heaplet):Prop:= ∃x:IV, ∃e:Int, ∃NB NR NS bb xs bbs,v=.tuple #[.agg #[.bool x.l,.slice x.ab x.nb x.cb,.slice x.ai x.ni x.ci],.int .i64 e]∧L= [NB,NR,NS]∧Row NB 5 1 x.ab x.nb x.cb (u8s bb)∧Row NR 68 3 x.ai x.ni x.ci (cellsI xs)∧xs.length=x.ni∧Bag 5 NS (xs.map slB) bbs∧bb.length≤nb∧ ∀u∈bbs,u.length≤nb
end Go.Proofs.YtdpjbefeabokgaaGreat
/- Layer 12 in plain words: paths written and read, proofs made and read; whoever reads a proof by the root alone is told what the map holds, or two byte strings of one hash are at hand. No condition. -/
namespace Go.Proofs.YtdpjbefeabokgaaGreat
open Go Go.RowKit
def Nib (l:List UInt8):Prop:= ∀x∈l,x.toNat<16
theorem nibs_nib: ∀(k:List UInt8),Nib (nibs k)
 | [],x,hx=>by cases hx
 |c::k,x,hx=>by
  rw [nibs_cons]at hx
  have h:=c.toNat_lt
  rcases List.mem_cons.1 hx with rfl|hx
  ·rw [nib_hi];omega
  ·rcases List.mem_cons.1 hx with rfl|hx
   ·rw [nib_lo];omega
   ·exact nibs_nib k x hx
theorem Nib.drop {l:List UInt8} (h:Nib l) (k:Nat):Nib (l.drop k):=fun x hx=>h x (List.mem_of_mem_drop hx)
theorem Nib.take {l:List UInt8} (h:Nib l) (k:Nat):Nib (l.take k):=fun x hx=>h x (List.mem_of_mem_take hx)
theorem nib_two {a b:UInt8} (ha:a.toNat<16) (hb:b.toNat<16):(16*a+b).toNat=16*a.toNat+b.toNat:=by
 rw [UInt8.toNat_add,UInt8.toNat_mul,show(16:UInt8).toNat=16 from rfl]
 omega
theorem nibs_pack: ∀ {l:List UInt8},l.length % 2=0→Nib l→nibs (packN l)=l
 | [],_,_=>rfl
 | [a],h,_=>by simp at h
 |a::b::r,h,hn=>by
  have ha:=hn a (by simp)
  have hb:=hn b (by simp)
  have e:=nib_two ha hb
  rw [packN,nibs_cons,nibs_pack (l:=r) (by simp only [List.length_cons]at h;omega) fun x hx=>hn x (by simp [hx])]
  have e1:(16*a+b)>>>4=a:=by rw [←UInt8.toNat_inj,nib_hi,e];omega
  have e2:(16*a+b)&&&15=b:=by rw [←UInt8.toNat_inj,nib_lo,e];omega
  rw [e1,e2]
theorem pack_len: ∀(l:List UInt8),(packN l).length=l.length/2
 | []=>rfl
 | [a]=>by simp [packN]
 |a::b::r=>by rw [packN,List.length_cons,pack_len r];simp only [List.length_cons];omega
/-- Bytes as nibbles again, and whether a leaf's. -/
def expF (b:List UInt8):Option (List UInt8×Bool):=
 if b= []∨3<((nibs b).getD 0 0).toNat∨(((nibs b).getD 0 0).toNat % 2=0∧((nibs b).getD 1 0).toNat≠0)then none
 else some (if ((nibs b).getD 0 0).toNat % 2=1 then (nibs b).drop 1 else (nibs b).drop 2,decide (1<((nibs b).getD 0 0).toNat))
theorem cpt_nibs (l:List UInt8) (leaf:Bool) (h:Nib l):nibs (cpt l leaf)=if l.length % 2=1 then (if leaf then 3 else 1)::l else (if leaf then 2 else 0)::0::l:=by
 unfold cpt
 split
 ·refine nibs_pack (by simp only [List.length_cons];omega) fun x hx=>?_
  rcases List.mem_cons.1 hx with rfl|hx
  ·cases leaf<;>decide
  ·exact h x hx
 ·refine nibs_pack (by simp only [List.length_cons];omega) fun x hx=>?_
  rcases List.mem_cons.1 hx with rfl|hx
  ·cases leaf<;>decide
  ·rcases List.mem_cons.1 hx with rfl|hx
   ·decide
   ·exact h x hx
theorem cpt_len (l:List UInt8) (leaf:Bool):(cpt l leaf).length=l.length/2+1:=by
 unfold cpt
 split
 ·rw [pack_len];simp only [List.length_cons];omega
 ·rw [pack_len];simp only [List.length_cons];omega
theorem exp_cpt {l:List UInt8} {leaf:Bool} (h:Nib l):expF (cpt l leaf)=some (l,leaf):=by
 have h0:cpt l leaf≠ []:=fun e=>by have:=congrArg List.length e;rw [cpt_len]at this;simp at this
 unfold expF
 rw [cpt_nibs l leaf h]
 by_cases ho:l.length % 2=1
 ·simp only [if_pos ho]
  cases leaf<;>simp [h0]
 ·simp only [if_neg ho]
  cases leaf<;>simp [h0]
def isL:It→Bool
 |.mk l _ _=>l
def innerI (t:It):Bool:=isL t ||t.bytes.length==0 ||t.bytes.length==32
def branF (its:List It) (row:List UInt8):Option (List UInt8⊕It×List UInt8):=
 if isL (its.getD 16 (itS []))=true∨ ∃t∈its.take 16,innerI t=false then none else match row with
  | []=>some (.inl (its.getD 16 (itS [])).bytes)
  |c::r=>some (.inr (its.getD c.toNat (itS []),r))
def twoF (a s:It) (row:List UInt8):Option (List UInt8⊕It×List UInt8):=if isL a=true then none else match expF a.bytes with
 |none=>none
 |some (path,leaf)=>if (leaf=true∧(isL s=true∨s.bytes= []))∨(leaf=false∧innerI s=false)then none
  else if leaf=true∧path=row then some (.inl s.bytes)else if leaf=true∨ ¬path<+:row then some (.inl [])else some (.inr (s,row.drop path.length))
/-- Where a node leads to: a value, or a link and what is left of the row. -/
def atF (x:It) (row:List UInt8):Option (List UInt8⊕It×List UInt8):=if isL x=false then none else match x.items with
 | [a,s]=>twoF a s row
 |its=>if its.length=17 then branF its row else none
def nextF (h:List UInt8):List (List UInt8)→Option (It×List (List UInt8))
 | []=>none
 |b::q=>match decodeF b with
  |.ok x=>if kec b=h then some (x,q)else none
  |.error _=>none
def goL (go:It→List UInt8→List (List UInt8)→Option (List UInt8×List (List UInt8))) (y:It) (row:List UInt8) (q:List (List UInt8)):Option (List UInt8×List (List UInt8)):=
 if isL y=true then go y row q else if y.bytes= []then some ([],q)else match nextF y.bytes q with
  |none=>none
  |some (x,q')=>go x row q'
/-- A proof read from a node on: the value (none: no bytes), and what is left of the proof. -/
def goF:Nat→It→List UInt8→List (List UInt8)→Option (List UInt8×List (List UInt8))
 |0,_,_,_=>none
 |g+1,x,row,q=>match atF x row with
  |none=>none
  |some (.inl v)=>some (v,q)
  |some (.inr (y,row'))=>goL (goF g) y row' q
def getR (l:List PR) (row:List UInt8):Option (List UInt8):=(l.find? fun p=>p.1==row).map Prod.snd
theorem get_iff {l:List PR} (h:Dis l) {row v:List UInt8} :getR l row=some v↔(row,v)∈l:=by
 unfold getR
 constructor
 ·intro k
  cases hf:l.find? fun p=>p.1==row with
  |none=>rw [hf]at k;cases k
  |some p=>
   rw [hf]at k
   have h1:=List.mem_of_find?_eq_some hf
   have h2:=List.find?_some hf
   simp only [beq_iff_eq]at h2
   simp only [Option.map_some,Option.some.injEq]at k
   rw [←h2, ←k];exact h1
 ·intro k
  cases hf:l.find? fun p=>p.1==row with
  |none=>
   have:=List.find?_eq_none.1 hf _ k
   simp at this
  |some p=>
   have h1:=List.mem_of_find?_eq_some hf
   have h2:=List.find?_some hf
   simp only [beq_iff_eq]at h2
   rw [h.eq h1 k h2];rfl
theorem get_ext {l m:List PR} (hl:Dis l) (hm:Dis m) {r s:List UInt8} (h: ∀v,(r,v)∈l↔(s,v)∈m):getR l r=getR m s:=by
 refine Option.ext fun v=>?_
 show getR l r=some v↔getR m s=some v
 rw [get_iff hl,get_iff hm];exact h v
theorem get_none {l:List PR} {row:List UInt8} (h: ∀p∈l,p.1≠row):getR l row=none:=by
 unfold getR
 rw [List.find?_eq_none.2 fun p hp=>by simpa using h p hp];rfl
theorem get_cut {l:List PR} (h:Dis l) {k:Nat} (hk:k≤shar l) {p:PR} (hp:p∈l) {row:List UInt8} (hr:p.1.take k<+:row):getR l row=getR (cutR k l) (row.drop k):=by
 refine get_ext h (h.cut hk) fun v=>?_
 have e:row=p.1.take k++row.drop k:=by
  obtain⟨s,rfl⟩:=hr
  have hlen:(p.1.take k).length=k:=by rw [List.length_take,Nat.min_eq_left (shar_take hp hp hk).2]
  rw [List.drop_append,List.drop_eq_nil_of_le (by omega),List.nil_append,hlen,Nat.sub_self,List.drop_zero]
 unfold cutR
 rw [List.mem_map]
 constructor
 ·intro hm;exact⟨(row,v),hm,rfl⟩
 ·rintro⟨x,hx,ex⟩
  simp only [Prod.mk.injEq]at ex
  have:x=(row,v):=by
   refine Prod.ext ?_ ex.2
   rw [e, ←List.take_append_drop k x.1,ex.1,(shar_take hx hp hk).1]
  rw [←this];exact hx
theorem get_cut_no {l:List PR} {k:Nat} (hk:k≤shar l) {p:PR} (hp:p∈l) {row:List UInt8} (hr: ¬p.1.take k<+:row):getR l row=none:=by
 refine get_none fun x hx e=>hr ?_
 rw [(shar_take hp hx hk).1,e];exact List.take_prefix _ _
theorem get_und {l:List PR} (h:Dis l) (c:UInt8) (r:List UInt8):getR l (c::r)=getR (cutR 1 (undR c l)) r:=by
 refine get_ext h (h.und c) fun v=>?_
 unfold cutR
 rw [List.mem_map]
 constructor
 ·intro hm;exact⟨(c::r,v),mem_und.2 ⟨hm,r,rfl⟩,rfl⟩
 ·rintro⟨x,hx,ex⟩
  obtain⟨h1,s,h2⟩:=mem_und.1 hx
  simp only [Prod.mk.injEq,h2,List.drop_succ_cons,List.drop_zero]at ex
  have:x=(c::r,v):=Prod.ext (by rw [h2,ex.1]) ex.2
  rw [←this];exact h1
theorem get_last {l:List PR} (h:Dis l):(getR l []).getD []=lastV l:=by
 by_cases k: ∃q∈l,q.1= []
 ·obtain⟨q,hq,e⟩:=k
  rw [(get_iff h (row:= []) (v:=q.2)).2 (by rw [←e];exact hq),lastV_of h hq e];rfl
 ·have k': ∀q∈l,q.1≠ []:=fun q hq e=>k ⟨q,hq,e⟩
  rw [get_none k',lastV_no k'];rfl
/-- The pairs of the next node on a row's way, and what is left of the row. -/
def stepF (l:List PR) (row:List UInt8):Option (List PR×List UInt8):=
 if l.length<2 then none else if 0<shar l then (if (l.headD ([],[])).1.take (shar l)<+:row then some (cutR (shar l) l,row.drop (shar l))else none)else match row with
  | []=>none
  |c::r=>if cutR 1 (undR c l)= []then none else some (cutR 1 (undR c l),r)
/-- The forms on a row's way, but the first. -/
def proveF:Nat→List PR→List UInt8→List (List UInt8)
 |0,_,_=> []
 |f+1,l,row=>match stepF l row with
  |none=> []
  |some (m,r)=>(if 32≤(nodeF f m).form.length then [(nodeF f m).form]else [])++proveF f m r
/-- Rows of nibbles shorter than f, with values that are not empty. -/
structure Fit (f:Nat) (l:List PR):Prop where
 len: ∀p∈l,p.1.length<f
 nib: ∀p∈l,Nib p.1
 val: ∀p∈l,p.2≠ []
 sml: ∀p∈l,p.1.length≤1000000∧p.2.length≤1000000
theorem Fit.cut {f:Nat} {l:List PR} (h:Fit (f+1) l) {k:Nat} (hk:k≤shar l) (h0:0<k):Fit f (cutR k l):=by
 refine⟨fun p hp=>?_,fun p hp=>?_,fun p hp=>?_,fun p hp=>?_⟩
 all_goals (obtain⟨x,hx,rfl⟩:=List.mem_map.1 hp)
 ·have h1:=h.len x hx
  have h2:=(shar_take hx hx hk).2
  simp only [List.length_drop];omega
 ·exact(h.nib x hx).drop k
 ·exact h.val x hx
 ·have:=h.sml x hx
  simp only [List.length_drop];omega
theorem Fit.und {f:Nat} {l:List PR} (h:Fit (f+1) l) (c:UInt8):Fit f (cutR 1 (undR c l)):=by
 refine⟨fun p hp=>?_,fun p hp=>?_,fun p hp=>?_,fun p hp=>?_⟩
 all_goals (obtain⟨x,hx,rfl⟩:=List.mem_map.1 hp;obtain⟨h1,r,h2⟩:=mem_und.1 hx)
 ·have:=h.len x h1
  rw [h2]at this⊢
  simp only [List.length_cons,List.drop_succ_cons,List.drop_zero]at this⊢;omega
 ·exact(h.nib x h1).drop 1
 ·exact h.val x h1
 ·have:=h.sml x h1
  simp only [List.length_drop];omega
theorem cut_ne {k:Nat} {l:List PR} (h:l≠ []):cutR k l≠ []:=by
 cases l with
 |nil=>exact absurd rfl h
 |cons p l=>simp [cutR]
theorem node_isL {f:Nat} {l:List PR} (h:l≠ []):isL (nodeF (f+1) l)=true:=by
 match l with
 | []=>exact absurd rfl h
 | [p]=>rfl
 |p::q::r=>
  rw [nodeF]
  split<;>rfl
theorem node_nil (f:Nat):nodeF f []=itS []:=by cases f<;>rfl
theorem plains_map: ∀ {l:List It},(∀t∈l,t.plain=t)→It.plains l=l
 | [],_=>by simp [It.plains]
 |t::ts,h=>by rw [It.plains,h t (by simp),plains_map fun u hu=>h u (by simp [hu])]
theorem plainS (b:List UInt8):(itS b).plain=itS b:=by simp [itS,It.plain]
theorem plainL {l:List It} (h: ∀t∈l,t.plain=t):(itL l).plain=itL l:=by rw [itL,It.plain,plains_map h]
theorem link_plain {x:It} (h:x.plain=x):(linkI x).plain=linkI x:=by
 unfold linkI;split
 ·exact h
 ·exact plainS _
theorem node_plain: ∀(f:Nat) (l:List PR),(nodeF f l).plain=nodeF f l
 |0,l=>plainS _
 |f+1,[]=>plainS _
 |f+1,[p]=>plainL fun t ht=>by
  simp only [List.mem_cons,List.not_mem_nil,or_false]at ht
  rcases ht with rfl|rfl<;>exact plainS _
 |f+1,p::q::r=>by
  rw [nodeF]
  split
  ·exact plainL fun t ht=>by
    simp only [List.mem_cons,List.not_mem_nil,or_false]at ht
    rcases ht with rfl|rfl
    ·exact plainS _
    ·exact link_plain (node_plain f _)
  ·refine plainL fun t ht=>?_
   rcases List.mem_append.1 ht with ht|ht
   ·obtain⟨c,_,rfl⟩:=List.mem_map.1 ht
    exact link_plain (node_plain f _)
   ·rw [List.mem_singleton.1 ht];exact plainS _
mutual
theorem depth_form: ∀t:It,t.depth≤t.form.length
 |.mk false bs its=>by rw [It.depth];exact Nat.zero_le _
 |.mk true bs its=>by
  rw [It.depth,form_true,List.length_append]
  have:=depths_form its
  have:0<(rlpHead 192 (It.forms its).length).length:=by unfold rlpHead;split<;>simp
  omega
theorem depths_form: ∀ts:List It,It.depths ts≤(It.forms ts).length
 | []=>by simp [It.depths]
 |t::ts=>by
  rw [It.depths,It.forms,List.length_append]
  have:=depth_form t
  have:=depths_form ts
  omega
end
theorem link_depth (x:It):(linkI x).depth≤31:=by
 unfold linkI;split
 ·have:=depth_form x;omega
 ·simp [itS,It.depth]
theorem node_depth (f:Nat) (l:List PR):(nodeF f l).depth≤32:=by
 match f,l with
 |0,l=>simp [nodeF,itS,It.depth]
 |f+1,[]=>simp [nodeF,itS,It.depth]
 |f+1,[p]=>simp [nodeF,itL,itS,It.depth,It.depths]
 |f+1,p::q::r=>
  rw [nodeF]
  split
  ·rw [itL,It.depth]
   refine Nat.succ_le_succ (depths_le.2 fun t ht=>?_)
   simp only [List.mem_cons,List.not_mem_nil,or_false]at ht
   rcases ht with rfl|rfl
   ·simp [itS,It.depth]
   ·exact link_depth _
  ·rw [itL,It.depth]
   refine Nat.succ_le_succ (depths_le.2 fun t ht=>?_)
   rcases List.mem_append.1 ht with ht|ht
   ·obtain⟨c,_,rfl⟩:=List.mem_map.1 ht
    exact link_depth _
   ·rw [List.mem_singleton.1 ht];simp [itS,It.depth]
theorem formS_le {b:List UInt8} (h:b.length≤1000000):(itS b).form.length≤b.length+9:=by
 rw [itS,form_false]
 split
 ·omega
 ·rw [List.length_append]
  have:=rlpHead_le 128 b.length (by omega)
  omega
theorem link_le (x:It):(linkI x).form.length≤41:=by
 unfold linkI;split
 ·omega
 ·have:=formS_le (b:=kec x.form) (by rw [kec_len];omega)
  rw [kec_len]at this;exact this
theorem formL_le {l:List It} {B:Nat} (h:(It.forms l).length≤B) (hB:B≤100000000):(itL l).form.length≤B+9:=by
 rw [itL,form_true,List.length_append]
 have:=rlpHead_le 192 (It.forms l).length (by omega)
 omega
theorem forms_le_mul {l:List It} {B:Nat} (h: ∀t∈l,t.form.length≤B):(It.forms l).length≤l.length*B:=by
 induction l with
 |nil=>simp [It.forms]
 |cons t ts ih=>
  rw [It.forms,List.length_append,List.length_cons,Nat.succ_mul]
  have:=h t (by simp)
  have:=ih fun u hu=>h u (by simp [hu])
  omega
theorem node_small (f:Nat) {l:List PR} (h: ∀p∈l,p.1.length≤1000000∧p.2.length≤1000000):(nodeF f l).form.length≤2000000:=by
 have h0:(itS []).form.length≤2000000:=by have:=formS_le (b:= []) (by simp);simp at this⊢;omega
 match f,l with
 |0,l=>exact h0
 |f+1,[]=>exact h0
 |f+1,[p]=>
  have hp:=h p (by simp)
  have h1:=formS_le (b:=cpt p.1 true) (by rw [cpt_len];omega)
  have h2:=formS_le hp.2
  rw [cpt_len]at h1
  show(itL [itS (cpt p.1 true),itS p.2]).form.length≤2000000
  have:=formL_le (l:= [itS (cpt p.1 true),itS p.2]) (B:=1600000) (by simp only [It.forms,List.length_append,List.length_nil];omega) (by omega)
  omega
 |f+1,p::q::r=>
  have hp:=h p (by simp)
  rw [nodeF]
  split
  ·have h1:=formS_le (b:=cpt (p.1.take (shar (p::q::r))) false) (by rw [cpt_len,List.length_take];omega)
   rw [cpt_len,List.length_take]at h1
   have h2:=link_le (nodeF f (cutR (shar (p::q::r)) (p::q::r)))
   have:=formL_le (l:= [itS (cpt (p.1.take (shar (p::q::r))) false),linkI (nodeF f (cutR (shar (p::q::r)) (p::q::r)))]) (B:=1600000) (by simp only [It.forms,List.length_append,List.length_nil];omega) (by omega)
   omega
  ·have h2:(lastV (p::q::r)).length≤1000000:=by
    rcases lastV_spec (p::q::r) []with ⟨x,hx,_,e⟩|⟨_,e⟩
    ·rw [lastV,e];exact(h x hx).2
    ·rw [lastV,e];simp
   have h1:=formS_le h2
   have h3:=forms_le_mul (l:=(List.range 16).map (fun c=>linkI (nodeF f (cutR 1 (undR (UInt8.ofNat c) (p::q::r)))))) (B:=41) fun t ht=>by
    obtain⟨c,_,rfl⟩:=List.mem_map.1 ht
    exact link_le _
   simp only [List.length_map,List.length_range]at h3
   have:=formL_le (l:=(List.range 16).map (fun c=>linkI (nodeF f (cutR 1 (undR (UInt8.ofNat c) (p::q::r)))))++ [itS (lastV (p::q::r))]) (B:=1600000) (by rw [forms_append,List.length_append];simp only [It.forms,List.length_append,List.length_nil];omega) (by omega)
   omega
theorem Fit.form {f:Nat} {l:List PR} (h:Fit f l) (g:Nat):(nodeF g l).form.length<2^64:=Nat.lt_of_le_of_lt (node_small g h.sml) (by decide)
end Go.Proofs.YtdpjbefeabokgaaGreat
/- Layer 12 in plain words: what is read out of a proof by the root alone. No condition. -/
namespace Go.Proofs.YtdpjbefeabokgaaGreat
open Go Go.RowKit
theorem bytes_S (b:List UInt8):(itS b).bytes=b:=rfl
theorem isL_S (b:List UInt8):isL (itS b)=false:=rfl
/-- Two lists differ first at a place where both have byte strings of one hash. -/
def Clash (P q:List (List UInt8)):Prop:= ∃i b c,P[i]? =some b∧q[i]? =some c∧P.take i=q.take i∧b≠c∧kec b=kec c
/-- What may come of reading q where P is right and v is the value. -/
def Right (P q:List (List UInt8)) (v:List UInt8) (r:Option (List UInt8×List (List UInt8))):Prop:=
 Clash P q∨(r=none∧ ¬P<+:q)∨ ∃q',q=P++q'∧r=some (v,q')
theorem Right.nil {q:List (List UInt8)} {v:List UInt8} :Right [] q v (some (v,q)):=.inr (.inr ⟨q,rfl,rfl⟩)
theorem Right.cons {P q:List (List UInt8)} {v b:List UInt8} {r:Option (List UInt8×List (List UInt8))} (h:Right P q v r):Right (b::P) (b::q) v r:=by
 rcases h with ⟨i,x,y,h1,h2,h3,h4,h5⟩|⟨h1,h2⟩|⟨q',h1,h2⟩
 ·exact .inl ⟨i+1,x,y,h1,h2,by simp [h3],h4,h5⟩
 ·refine .inr (.inl ⟨h1,fun k=>h2 ?_⟩)
  obtain⟨s,hs⟩:=k
  exact⟨s,by simpa using hs⟩
 ·exact .inr (.inr ⟨q',by rw [h1];rfl,h2⟩)
def mu (q:List (List UInt8)) (x:It):Nat:=q.length*1026+x.depth
theorem link_go {f g:Nat} {m:List PR} {row:List UInt8} {q:List (List UInt8)} {x:It} (hb: ∀b∈q,b.length<2^64) (hF:(nodeF f m).form.length<2^64) (hm:m= []∨isL (nodeF f m)=true) (hm0:m= []→getR m row=none) (hd:(linkI (nodeF f m)).depth<x.depth) (hg:mu q x≤g)
 (ih:m≠ []→ ∀(q:List (List UInt8)),(∀b∈q,b.length<2^64)→mu q (nodeF f m)<g→Right (proveF f m row) q ((getR m row).getD []) (goF g (nodeF f m) row q)):
 Right (if m= []then []else (if 32≤(nodeF f m).form.length then [(nodeF f m).form]else [])++proveF f m row) q ((getR m row).getD []) (goL (goF g) (linkI (nodeF f m)) row q):=by
 by_cases h0:m= []
 ·have e:linkI (nodeF f m)=itS []:=by rw [h0,node_nil];rfl
  rw [if_pos h0,hm0 h0,e]
  exact Right.nil
 ·rw [if_neg h0]
  have hl:=hm.resolve_left h0
  by_cases hs:(nodeF f m).form.length<32
  ·have e:linkI (nodeF f m)=nodeF f m:=if_pos hs
   rw [if_neg (by omega),List.nil_append,e,goL,if_pos hl]
   rw [e]at hd
   exact ih h0 q hb (by unfold mu at hg⊢;omega)
  ·have e:linkI (nodeF f m)=itS (kec (nodeF f m).form):=if_neg hs
   have hk:kec (nodeF f m).form≠ []:=fun k=>by have:=congrArg List.length k;rw [kec_len]at this;simp at this
   rw [if_pos (by omega),e,goL,if_neg (by simp [isL_S])]
   rw [bytes_S,if_neg hk]
   cases q with
   |nil=>exact .inr (.inl ⟨rfl,fun k=>by simpa using k.length_le⟩)
   |cons b q=>
    have hb': ∀c∈q,c.length<2^64:=fun c hc=>hb c (List.mem_cons_of_mem _ hc)
    by_cases eb:b=(nodeF f m).form
    ·have hn:nextF (kec (nodeF f m).form) (b::q)=some (nodeF f m,q):=by
      rw [nextF,eb,decodeF_form hF (Nat.le_trans (node_depth f m) (by decide)),node_plain]
      simp
     rw [hn,eb]
     refine Right.cons (ih h0 q hb' ?_)
     have:=node_depth f m
     unfold mu at hg⊢
     simp only [List.length_cons]at hg
     omega
    ·by_cases ek:kec b=kec (nodeF f m).form
     ·exact .inl ⟨0,_,b,rfl,rfl,rfl,fun k=>eb k.symm,ek.symm⟩
     ·have hn:nextF (kec (nodeF f m).form) (b::q)=none:=by
       rw [nextF]
       split
       ·rw [if_neg ek]
       ·rfl
      rw [hn]
      refine .inr (.inl ⟨rfl,fun k=>eb ?_⟩)
      obtain⟨s,hs⟩:=k
      simp only [List.singleton_append,List.cons_append,List.cons.injEq]at hs
      exact hs.1.symm
theorem link_inner {f:Nat} {m:List PR} (hm:m= []∨isL (nodeF f m)=true):innerI (linkI (nodeF f m))=true:=by
 unfold innerI
 by_cases hs:(nodeF f m).form.length<32
 ·have e:linkI (nodeF f m)=nodeF f m:=if_pos hs
  rw [e]
  rcases hm with rfl|h
  ·rw [node_nil];rfl
  ·rw [h];rfl
 ·have e:linkI (nodeF f m)=itS (kec (nodeF f m).form):=if_neg hs
  rw [e,bytes_S,kec_len]
  simp
theorem pre_len {l:List PR} {p:PR} (hp:p∈l):(p.1.take (shar l)).length=shar l:=by
 rw [List.length_take,Nat.min_eq_left (shar_take hp hp (Nat.le_refl _)).2]
theorem bra_get {f:Nat} {l:List PR} {v:List UInt8} {c:UInt8} (hc:c.toNat<16):((List.range 16).map (fun c=>linkI (nodeF f (cutR 1 (undR (UInt8.ofNat c) l))))++ [itS v]).getD c.toNat (itS [])=linkI (nodeF f (cutR 1 (undR c l))):=by
 rw [List.getD_eq_getElem?_getD,List.getElem?_append_left (by simpa using hc),List.getElem?_map,List.getElem?_range hc]
 simp
theorem step_1 {l:List PR} {row:List UInt8} (h:l.length<2):stepF l row=none:=by unfold stepF;exact if_pos h
set_option maxRecDepth 10000 in
theorem go_node: ∀(f:Nat) {l:List PR} {row:List UInt8} {q:List (List UInt8)} {g:Nat},Dis l→Fit f l→l≠ []→Nib row→(∀b∈q,b.length<2^64)→mu q (nodeF f l)<g→
 Right (proveF f l row) q ((getR l row).getD []) (goF g (nodeF f l) row q)
 |0,l,row,q,g,_,hf,h0,_,_,_=>by
  cases l with
  |nil=>exact absurd rfl h0
  |cons p l=>exact absurd (hf.len p (by simp)) (by omega)
 |f+1,l,row,q,0,_,_,_,_,_,hg=>absurd hg (Nat.not_lt_zero _)
 |f+1,[],row,q,g+1,_,_,h0,_,_,_=>absurd rfl h0
 |f+1,[p],row,q,g+1,hd,hf,_,_,_,_=>by
  have hv:=hf.val p (by simp)
  have ha:atF (nodeF (f+1) [p]) row=some (.inl (if p.1=row then p.2 else [])):=by
   show twoF (itS (cpt p.1 true)) (itS p.2) row=_
   rw [twoF,if_neg (by simp [isL_S]),bytes_S,exp_cpt (hf.nib p (by simp))]
   simp only [bytes_S,isL_S,hv,or_self,and_false,Bool.false_eq_true,false_and,if_false,true_and,true_or,if_true,reduceCtorEq,and_self]
   split<;>rfl
  have hp:proveF (f+1) [p] row= []:=by rw [proveF,step_1 (by simp)]
  have hgv:(getR [p] row).getD []=if p.1=row then p.2 else []:=by
   unfold getR
   by_cases e:p.1=row
   ·simp [e]
   ·simp [e]
  rw [hp,goF,ha,hgv]
  exact Right.nil
 |f+1,p::p2::l,row,q,g+1,hd,hf,h0,hr,hb,hg=>by
  obtain⟨L,hL⟩: ∃L,p::p2::l=L:=⟨_,rfl⟩
  have hp:p∈L:=hL▸List.mem_cons_self ..
  have h2:2≤L.length:=by rw [←hL];simp
  have hh:(L.headD ([],[])).1=p.1:=by rw [←hL];rfl
  rw [hL]at hd hf h0 hg⊢
  have hpe:=pre_len hp
  by_cases hs:0<shar L
  ·have hn:=node_ext (f:=f) h2 hs
   rw [hh]at hn
   have hne:=cut_ne (k:=shar L) h0
   have hfc:=hf.cut (Nat.le_refl _) hs
   have hdc:=hd.cut (Nat.le_refl (shar L))
   have hil:isL (nodeF f (cutR (shar L) L))=true:=by
    cases f with
    |zero=>
     obtain⟨x,hx⟩:=List.exists_mem_of_ne_nil _ hne
     exact absurd (hfc.len x hx) (by omega)
    |succ f=>exact node_isL hne
   have hin:=link_inner (.inr hil)
   have ha:atF (nodeF (f+1) L) row=if p.1.take (shar L)<+:row then some (.inr (linkI (nodeF f (cutR (shar L) L)),row.drop (shar L)))else some (.inl []):=by
    rw [hn]
    show twoF (itS (cpt (p.1.take (shar L)) false)) (linkI (nodeF f (cutR (shar L) L))) row=_
    rw [twoF,if_neg (by simp [isL_S]),bytes_S,exp_cpt ((hf.nib p hp).take _)]
    simp only [hin,Bool.false_eq_true,false_and,reduceCtorEq,and_false,or_self,if_false,false_or,hpe]
    by_cases hpr:p.1.take (shar L)<+:row
    ·simp [hpr]
    ·simp [hpr]
   by_cases hpr:p.1.take (shar L)<+:row
   ·have hst:stepF L row=some (cutR (shar L) L,row.drop (shar L)):=by unfold stepF;rw [if_neg (by omega),if_pos hs,hh,if_pos hpr]
    rw [goF,ha,if_pos hpr,proveF,hst,get_cut hd (Nat.le_refl _) hp hpr]
    have hdx:(linkI (nodeF f (cutR (shar L) L))).depth<(nodeF (f+1) L).depth:=by
     rw [hn,itL,It.depth]
     exact Nat.lt_succ_of_le (depths_le.1 (Nat.le_refl _) _ (by simp))
    have:=link_go (f:=f) (g:=g) (m:=cutR (shar L) L) (row:=row.drop (shar L)) (q:=q) (x:=nodeF (f+1) L) hb (hfc.form f) (.inr hil) (fun e=>absurd e hne) hdx (by omega) fun _ q hb hm=>go_node f hdc hfc hne (hr.drop _) hb hm
    rw [if_neg hne]at this
    exact this
   ·have hst:stepF L row=none:=by unfold stepF;rw [if_neg (by omega),if_pos hs,hh,if_neg hpr]
    rw [goF,ha,if_neg hpr,proveF,hst,get_cut_no (Nat.le_refl _) hp hpr]
    exact Right.nil
  ·have hn:=node_bra (f:=f) h2 hs
   have hmi: ∀c,(cutR 1 (undR c L)= []∨isL (nodeF f (cutR 1 (undR c L)))=true):=fun c=>by
    by_cases e:cutR 1 (undR c L)= []
    ·exact .inl e
    ·right
     cases f with
     |zero=>
      obtain⟨x,hx⟩:=List.exists_mem_of_ne_nil _ e
      exact absurd ((hf.und c).len x hx) (by omega)
     |succ f=>exact node_isL e
   have hlen:((List.range 16).map (fun c=>linkI (nodeF f (cutR 1 (undR (UInt8.ofNat c) L))))++ [itS (lastV L)]).length=17:=by simp
   have h16:((List.range 16).map (fun c=>linkI (nodeF f (cutR 1 (undR (UInt8.ofNat c) L))))++ [itS (lastV L)]).getD 16 (itS [])=itS (lastV L):=by
    rw [List.getD_eq_getElem?_getD,List.getElem?_append_right (by simp)];simp
   have htk:((List.range 16).map (fun c=>linkI (nodeF f (cutR 1 (undR (UInt8.ofNat c) L))))++ [itS (lastV L)]).take 16=(List.range 16).map (fun c=>linkI (nodeF f (cutR 1 (undR (UInt8.ofNat c) L)))):=List.take_left' (by simp)
   have hno: ¬(isL (itS (lastV L))=true∨ ∃t∈(List.range 16).map (fun c=>linkI (nodeF f (cutR 1 (undR (UInt8.ofNat c) L)))),innerI t=false):=by
    rintro(k|⟨t,ht,k⟩)
    ·simp [isL_S]at k
    ·obtain⟨c,_,rfl⟩:=List.mem_map.1 ht
     rw [link_inner (hmi _)]at k;cases k
   have ha:atF (nodeF (f+1) L) row=branF ((List.range 16).map (fun c=>linkI (nodeF f (cutR 1 (undR (UInt8.ofNat c) L))))++ [itS (lastV L)]) row:=by
    rw [hn]
    obtain⟨I,hI⟩: ∃I,(List.range 16).map (fun c=>linkI (nodeF f (cutR 1 (undR (UInt8.ofNat c) L))))++ [itS (lastV L)]=I:=⟨_,rfl⟩
    rw [hI]at hlen⊢
    show(match I with| [a,s]=>twoF a s row|its=>if its.length=17 then branF its row else none)=_
    match I,hlen with
    | [],k=>cases k
    | [_],k=>cases k
    | [_,_],k=>cases k
    |_::_::_::_,k=>exact if_pos k
   cases row with
   |nil=>
    rw [goF,ha,branF,h16,htk,if_neg hno,proveF,stepF,if_neg (by omega),if_neg hs,get_last hd]
    exact Right.nil
   |cons c r=>
    have hc:=hr c (by simp)
    rw [goF,ha,branF,h16,htk,if_neg hno,proveF,stepF,if_neg (by omega),if_neg hs]
    simp only [bra_get hc]
    rw [get_und hd c r]
    have hdx:(linkI (nodeF f (cutR 1 (undR c L)))).depth<(nodeF (f+1) L).depth:=by
     rw [hn,itL,It.depth]
     refine Nat.lt_succ_of_le (depths_le.1 (Nat.le_refl _) _ (List.mem_append_left _ (List.mem_map.2 ⟨c.toNat,List.mem_range.2 hc,?_⟩)))
     simp
    have:=link_go (f:=f) (g:=g) (m:=cutR 1 (undR c L)) (row:=r) (q:=q) (x:=nodeF (f+1) L) hb ((hf.und c).form f) (hmi c) (fun e=>by rw [e];rfl) hdx (by omega) fun hne q hb hm=>go_node f (hd.und c) (hf.und c) hne (fun x hx=>hr x (by simp [hx])) hb hm
    by_cases e:cutR 1 (undR c L)= []
    ·simp only [if_pos e]at this⊢
     exact this
    ·simp only [if_neg e]at this⊢
     exact this
end Go.Proofs.YtdpjbefeabokgaaGreat
/- Layer 12 in plain words: a whole proof read; two maps of one root that are not the same tell two byte strings of one hash. No condition. -/
namespace Go.Proofs.YtdpjbefeabokgaaGreat
open Go Go.RowKit
def goesF (g:Nat) (root row:List UInt8) (q:List (List UInt8)):Option (List UInt8×List (List UInt8)):=match nextF root q with
 |none=>none
 |some (x,q')=>if isL x=false∧x.bytes= []then some ([],q')else goF g x row q'
theorem goes_right {f g:Nat} {l:List PR} {row:List UInt8} {q:List (List UInt8)} (hd:Dis l) (hf:Fit f l) (hr:Nib row) (hb: ∀b∈q,b.length<2^64) (hg:q.length*1026<g):
 Right ((nodeF f l).form::proveF f l row) q ((getR l row).getD []) (goesF g (kec (nodeF f l).form) row q):=by
 cases q with
 |nil=>exact .inr (.inl ⟨rfl,fun k=>by simpa using k.length_le⟩)
 |cons b q=>
  have hb': ∀c∈q,c.length<2^64:=fun c hc=>hb c (List.mem_cons_of_mem _ hc)
  by_cases eb:b=(nodeF f l).form
  ·have hn:nextF (kec (nodeF f l).form) (b::q)=some (nodeF f l,q):=by
    rw [nextF,eb,decodeF_form (hf.form f) (Nat.le_trans (node_depth f l) (by decide)),node_plain]
    simp
   rw [goesF,hn,eb]
   refine Right.cons ?_
   by_cases h0:l= []
   ·have e:nodeF f l=itS []:=by rw [h0,node_nil]
    have e2:proveF f l row= []:=by
     cases f with
     |zero=>rfl
     |succ f=>rw [proveF,step_1 (by rw [h0];simp)]
    simp only [e,isL_S,bytes_S,true_and,if_true,and_self]
    rw [e2,h0]
    exact Right.nil
   ·have hi:isL (nodeF f l)=true:=by
     cases f with
     |zero=>
      obtain⟨x,hx⟩:=List.exists_mem_of_ne_nil _ h0
      exact absurd (hf.len x hx) (by omega)
     |succ f=>exact node_isL h0
    simp only [hi,Bool.true_eq_false,false_and,if_false,reduceCtorEq]
    have hm:mu q (nodeF f l)<g:=by
     have:=node_depth f l
     unfold mu
     simp only [List.length_cons]at hg
     omega
    exact go_node f hd hf h0 hr hb' hm
  ·by_cases ek:kec b=kec (nodeF f l).form
   ·exact .inl ⟨0,_,b,rfl,rfl,rfl,fun k=>eb k.symm,ek.symm⟩
   ·have hn:nextF (kec (nodeF f l).form) (b::q)=none:=by
     rw [nextF]
     split
     ·rw [if_neg ek]
     ·rfl
    rw [goesF,hn]
    refine .inr (.inl ⟨rfl,fun k=>eb ?_⟩)
    obtain⟨s,hs⟩:=k
    simp only [List.cons_append,List.cons.injEq]at hs
    exact hs.1.symm
theorem right_own {P:List (List UInt8)} {v:List UInt8} {r:Option (List UInt8×List (List UInt8))} (h:Right P P v r):r=some (v,[]):=by
 rcases h with ⟨i,b,c,h1,h2,_,h4,_⟩|⟨_,h⟩|⟨q',h1,h2⟩
 ·rw [h1]at h2;exact absurd (Option.some.inj h2) h4
 ·exact absurd (List.prefix_refl P) h
 ·have:q'= []:=by
   have:=congrArg List.length h1
   rw [List.length_append]at this
   exact List.eq_nil_of_length_eq_zero (by omega)
  rw [h2,this]
/-- Down two lists of pairs to two forms that are not the same. -/
def clashF:Nat→List PR→List PR→Option (List UInt8×List UInt8)
 |0,_,_=>none
 |f+1,a,b=>if (nodeF (f+1) a).form≠(nodeF (f+1) b).form then some ((nodeF (f+1) a).form,(nodeF (f+1) b).form)
  else if a.length<2∨b.length<2 then none
  else if 0<shar a then clashF f (cutR (shar a) a) (cutR (shar a) b)
  else (List.range 16).findSome? fun c=>clashF f (cutR 1 (undR (UInt8.ofNat c) a)) (cutR 1 (undR (UInt8.ofNat c) b))
theorem dis_nodup {l:List PR} (h:Dis l):l.Nodup:=by
 unfold Dis at h
 exact List.Pairwise.imp (fun k e=>k (by rw [e])) (List.pairwise_map.1 h)
theorem perm_mem {a b:List PR} (ha:Dis a) (hb:Dis b) (h: ∀p,p∈a↔p∈b):a.Perm b:=(List.perm_ext_iff_of_nodup (dis_nodup ha) (dis_nodup hb)).2 h
/-- Which of the four kinds of nodes. -/
inductive NK (f:Nat) (l:List PR):Prop
 |nil (h:l= []) (e:nodeF (f+1) l=itS [])
 |leaf (p:PR) (h:l= [p]) (e:nodeF (f+1) l=itL [itS (cpt p.1 true),itS p.2])
 |ext (p:PR) (h:p∈l) (h2:2≤l.length) (hs:0<shar l) (e:nodeF (f+1) l=itL [itS (cpt (p.1.take (shar l)) false),linkI (nodeF f (cutR (shar l) l))])
 |bra (h2:2≤l.length) (hs: ¬0<shar l) (e:nodeF (f+1) l=itL ((List.range 16).map (fun c=>linkI (nodeF f (cutR 1 (undR (UInt8.ofNat c) l))))++ [itS (lastV l)]))
end Go.Proofs.YtdpjbefeabokgaaGreat
/- Layer 12 in plain words: a map's keys and values; the same map in the program's memory. No condition. -/
namespace Go.Proofs.YtdpjbefeabokgaaGreat
open Go Go.RowKit
def delM (k:List UInt8) (R:List PR):List PR:=R.filter fun p=>p.1 !=k
def putM (k v:List UInt8) (R:List PR):List PR:=if v= []then delM k R else delM k R++ [(k,v)]
def hasM (k:List UInt8) (R:List PR):Bool:=R.any fun p=>p.1==k
theorem mem_del {k:List UInt8} {R:List PR} {p:PR} :p∈delM k R↔p∈R∧p.1≠k:=by simp [delM]
theorem has_iff {k:List UInt8} {R:List PR} :hasM k R=true↔ ∃v,(k,v)∈R:=by
 unfold hasM
 rw [List.any_eq_true]
 constructor
 ·rintro⟨⟨a,v⟩,h,e⟩
  simp only [beq_iff_eq]at e
  exact⟨v,by rw [←e];exact h⟩
 ·rintro⟨v,h⟩;exact⟨(k,v),h,by simp⟩
theorem Dis.del {R:List PR} (h:Dis R) (k:List UInt8):Dis (delM k R):=List.Sublist.nodup ((List.filter_sublist).map _) h
theorem Dis.put {R:List PR} (h:Dis R) (k v:List UInt8):Dis (putM k v R):=by
 unfold putM;split
 ·exact h.del k
 ·unfold Dis
  rw [List.map_append,List.nodup_append]
  refine⟨h.del k,by simp,fun a ha b hb e=>?_⟩
  obtain⟨p,hp,rfl⟩:=List.mem_map.1 ha
  simp only [List.map_cons,List.map_nil,List.mem_singleton]at hb
  exact(mem_del.1 hp).2 (e.trans hb)
theorem del_len: ∀ {R:List PR},Dis R→ ∀k,(delM k R).length+(if hasM k R=true then 1 else 0)=R.length
 | [],_,k=>by simp [delM,hasM]
 |p::R,h,k=>by
  have hn:=List.nodup_cons.1 h
  have ih:=del_len (R:=R) hn.2 k
  by_cases e:p.1=k
  ·have h0:hasM k R=false:=by
    cases hh:hasM k R with
    |false=>rfl
    |true=>
     obtain⟨v,hv⟩:=has_iff.1 hh
     exact absurd (List.mem_map.2 ⟨(k,v),hv,e.symm⟩) hn.1
   have h1:hasM k (p::R)=true:=has_iff.2 ⟨p.2,by rw [←e];exact List.mem_cons_self ..⟩
   have h2:delM k (p::R)=delM k R:=by simp [delM,e]
   rw [h1,h2,if_pos rfl]
   rw [h0,if_neg (by simp)]at ih
   simp only [List.length_cons];omega
  ·have h1:hasM k (p::R)=hasM k R:=by simp [hasM,e]
   have h2:delM k (p::R)=p::delM k R:=by simp [delM,e]
   rw [h1,h2,List.length_cons,List.length_cons];omega
theorem del_none {R:List PR} {k:List UInt8} (h:hasM k R=false):delM k R=R:=by
 refine List.filter_eq_self.2 fun p hp=>?_
 simp only [bne_iff_ne,ne_eq]
 intro e
 have:=(has_iff (k:=k) (R:=R)).2 ⟨p.2,by rw [←e];exact hp⟩
 rw [h]at this;cases this
/-- Keys and values of bounded length, no value empty. -/
structure Good (R:List PR):Prop where
 dis:Dis R
 key: ∀p∈R,p.1.length≤40
 val: ∀p∈R,p.2≠ []∧p.2.length≤1000000
theorem Good.nil:Good []:=⟨List.nodup_nil,fun p h=>absurd h List.not_mem_nil,fun p h=>absurd h List.not_mem_nil⟩
theorem Good.del {R:List PR} (h:Good R) (k:List UInt8):Good (delM k R):=⟨h.dis.del k,fun p hp=>h.key p (mem_del.1 hp).1,fun p hp=>h.val p (mem_del.1 hp).1⟩
theorem Good.put {R:List PR} (h:Good R) {k v:List UInt8} (hk:k.length≤40) (hv:v.length≤1000000):Good (putM k v R):=by
 refine⟨h.dis.put k v,fun p hp=>?_,fun p hp=>?_⟩
 all_goals (unfold putM at hp;split at hp)
 ·exact h.key p (mem_del.1 hp).1
 ·rcases List.mem_append.1 hp with hp|hp
  ·exact h.key p (mem_del.1 hp).1
  ·rw [List.mem_singleton.1 hp];exact hk
 ·exact h.val p (mem_del.1 hp).1
 ·rename_i h0
  rcases List.mem_append.1 hp with hp|hp
  ·exact h.val p (mem_del.1 hp).1
  ·rw [List.mem_singleton.1 hp];exact⟨h0,hv⟩
theorem Good.perm {R S:List PR} (h:Good R) (p:R.Perm S):Good S:=⟨h.dis.perm p,fun x hx=>h.key x (p.mem_iff.2 hx),fun x hx=>h.val x (p.mem_iff.2 hx)⟩
theorem Good.fit {R:List PR} (h:Good R):Fit 81 (prs R):=by
 refine⟨fun p hp=>?_,fun p hp=>?_,fun p hp=>?_,fun p hp=>?_⟩
 all_goals (obtain⟨x,hx,rfl⟩:=List.mem_map.1 hp)
 ·have:=h.key x hx
  simp only [nibs_length];omega
 ·exact nibs_nib _
 ·exact(h.val x hx).1
 ·have:=h.key x hx
  exact⟨by simp only [nibs_length];omega,(h.val x hx).2⟩
theorem get_prs {R:List PR} (h:Dis R) (k:List UInt8):getR (prs R) (nibs k)=getR R k:=by
 refine get_ext h.prs h fun v=>?_
 unfold prs
 rw [List.mem_map]
 constructor
 ·rintro⟨x,hx,e⟩
  simp only [Prod.mk.injEq]at e
  rw [←nibs_inj e.1, ←e.2];exact hx
 ·intro hx;exact⟨_,hx,rfl⟩
theorem get_has {R:List PR} (h:Dis R) {k:List UInt8} :(getR R k).isSome=hasM k R:=by
 cases hg:getR R k with
 |none=>
  cases hh:hasM k R with
  |false=>rfl
  |true=>
   obtain⟨v,hv⟩:=has_iff.1 hh
   rw [(get_iff h).2 hv]at hg;cases hg
 |some v=>exact(has_iff.2 ⟨v,(get_iff h).1 hg⟩).symm
/-- The root of a map. -/
def rootM (R:List PR):List UInt8:=kec (nodeF 81 (prs R)).form
theorem root_perm {R S:List PR} (h:Dis R) (p:R.Perm S):rootM R=rootM S:=by
 unfold rootM
 rw [node_perm 81 h.prs (p.map _)];rfl
theorem key_str (k:List UInt8):WideAt.IsKeyLit (.string k):=by simp [WideAt.IsKeyLit]
/-- The program's map D holds R; the values lie in N. -/
structure MapIs (D:DataW Value) (N:Heaplet) (R:List PR):Prop where
 dis:Dis R
 tidy:Maps.Tidy D
 size:Maps.size D=R.length
 has: ∀k,Maps.has D (.string k)=hasM k R
 val: ∀p∈R, ∃a c,(∀z,D.atKey (.string p.1) z=.held (.slice a p.2.length c))∧RSl N 1 a p.2.length c (u8s p.2)
theorem MapIs.nil (N:Heaplet):MapIs (.map []) N []:=⟨List.nodup_nil,⟨_,rfl,.nil⟩,rfl,fun k=>rfl,fun p h=>absurd h List.not_mem_nil⟩
theorem MapIs.le {D:DataW Value} {N M:Heaplet} {R:List PR} (h:MapIs D N R) (hl:N.le M):MapIs D M R:=
 ⟨h.dis,h.tidy,h.size,h.has,fun p hp=>let ⟨a,c,h1,h2⟩:=h.val p hp;⟨a,c,h1,h2.le hl⟩⟩
theorem MapIs.del {D:DataW Value} {N:Heaplet} {R:List PR} (h:MapIs D N R) (k:List UInt8):MapIs (D.del (.string k)) N (delM k R):=by
 have hs:=Maps.size_del (k:=.string k) h.tidy
 have hl:=del_len h.dis k
 rw [h.has k]at hs
 have hsz:=h.size
 refine⟨h.dis.del k,h.tidy.del _,by omega,fun j=>?_,fun p hp=>?_⟩
 ·by_cases e:j=k
  ·rw [e,Maps.has_del_same]
   cases hh:hasM k (delM k R)with
   |false=>rfl
   |true=>
    obtain⟨v,hv⟩:=has_iff.1 hh
    exact absurd rfl (mem_del.1 hv).2
  ·rw [Maps.has_del_other (by simpa using e),h.has j,Bool.eq_iff_iff,has_iff,has_iff]
   constructor
   ·rintro⟨v,hv⟩;exact⟨v,mem_del.2 ⟨hv,e⟩⟩
   ·rintro⟨v,hv⟩;exact⟨v,(mem_del.1 hv).1⟩
 ·obtain⟨h1,h2⟩:=mem_del.1 hp
  obtain⟨a,c,h3,h4⟩:=h.val p h1
  exact⟨a,c,fun z=>by rw [Maps.atKey_del_other (by simpa using h2)];exact h3 z,h4⟩
theorem MapIs.put {D:DataW Value} {N:Heaplet} {R:List PR} {k v:List UInt8} {a:Option Addr} {c:Nat} (h:MapIs D N R) (h0:v≠ []) (hr:RSl N 1 a v.length c (u8s v)):MapIs (D.put (.string k) (.held (.slice a v.length c))) N (putM k v R):=by
 have hs:=Maps.size_put (k:=.string k) h.tidy (.held (.slice a v.length c))
 have hl:=del_len h.dis k
 rw [h.has k]at hs
 have hsz:=h.size
 have e:putM k v R=delM k R++ [(k,v)]:=if_neg h0
 refine⟨h.dis.put k v,h.tidy.put (key_str k) _,?_,fun j=>?_,fun p hp=>?_⟩
 ·rw [e,List.length_append,hs]
  simp only [List.length_cons,List.length_nil]
  split<;>simp_all<;>omega
 ·by_cases ej:j=k
  ·rw [ej,Maps.has_put_same h.tidy.isMap (key_str k)]
   exact(has_iff.2 ⟨v,by rw [e];simp⟩).symm
  ·rw [Maps.has_put_other (by simpa using ej),h.has j,Bool.eq_iff_iff,has_iff,has_iff,e]
   constructor
   ·rintro⟨u,hu⟩;exact⟨u,List.mem_append_left _ (mem_del.2 ⟨hu,ej⟩)⟩
   ·rintro⟨u,hu⟩
    rcases List.mem_append.1 hu with hu|hu
    ·exact⟨u,(mem_del.1 hu).1⟩
    ·simp only [List.mem_singleton,Prod.mk.injEq]at hu;exact absurd hu.1 ej
 ·rw [e]at hp
  rcases List.mem_append.1 hp with hp|hp
  ·obtain⟨h1,h2⟩:=mem_del.1 hp
   obtain⟨a',c',h3,h4⟩:=h.val p h1
   exact⟨a',c',fun z=>by rw [Maps.atKey_put_other (by simpa using h2)];exact h3 z,h4⟩
  ·rw [List.mem_singleton.1 hp]
   exact⟨a,c,fun z=>Maps.atKey_put_same h.tidy.isMap (key_str k) _ z,hr⟩
end Go.Proofs.YtdpjbefeabokgaaGreat
/- Pairs of rows and values, where they lie; keys in rising order. No condition. -/
namespace Go.Proofs.YtdpjbefeabokgaaGreat
open Go Go.RowKit
structure PV where
 ra:Option Addr
 rn:Nat
 rc:Nat
 va:Option Addr
 vn:Nat
 vc:Nat
def PV.cells (x:PV):List Value:= [.slice x.ra x.rn x.rc,.slice x.va x.vn x.vc]
def cellsP (xs:List PV):List Value:=xs.flatMap PV.cells
theorem cellsP_len (xs:List PV):(cellsP xs).length=xs.length*2:=by
 induction xs with
 |nil=>rfl
 |cons x t ih=>simp only [cellsP,List.flatMap_cons,List.length_append,List.length_cons]at ih⊢;rw [ih];simp [PV.cells];omega
theorem cellsP_at {xs:List PV} {k:Nat} {x:PV} (h:xs[k]? =some x):((cellsP xs).drop (k*2)).take 2= [.slice x.ra x.rn x.rc,.slice x.va x.vn x.vc]:=by
 induction xs generalizing k with
 |nil=>simp at h
 |cons y t ih=>
  cases k with
  |zero=>simp at h;subst h;simp [cellsP,PV.cells]
  |succ k=>
   have:=ih (k:=k) (by simpa using h)
   rw [←this]
   have e:cellsP (y::t)=y.cells++cellsP t:=by simp [cellsP]
   have hl:y.cells.length=2:=rfl
   rw [e,show(k+1)*2=y.cells.length+k*2 from by rw [hl];omega,List.drop_append,List.drop_eq_nil_of_le (by omega),List.nil_append,Nat.add_sub_cancel_left]
theorem cellsP_row {xs:List PV} {k:Nat} {x:PV} (h:xs[k]? =some x):(cellsP xs)[k*2+0]? =some (.slice x.ra x.rn x.rc):=by
 have e:=cellsP_at h
 have e2:(((cellsP xs).drop (k*2)).take 2)[0]? =some (.slice x.ra x.rn x.rc):=by rw [e];rfl
 rwa [List.getElem?_take,if_pos (by omega),List.getElem?_drop]at e2
theorem cellsP_val {xs:List PV} {k:Nat} {x:PV} (h:xs[k]? =some x):(cellsP xs)[k*2+1]? =some (.slice x.va x.vn x.vc):=by
 have e:=cellsP_at h
 have e2:(((cellsP xs).drop (k*2)).take 2)[1]? =some (.slice x.va x.vn x.vc):=by rw [e];rfl
 rwa [List.getElem?_take,if_pos (by omega),List.getElem?_drop]at e2
/-- A pair reads so in K. -/
structure PAt (K:Heaplet) (p:PR) (x:PV):Prop where
 rn:x.rn=p.1.length
 row:RSl K 1 x.ra x.rn x.rc (u8s p.1)
 vn:x.vn=p.2.length
 val:RSl K 1 x.va x.vn x.vc (u8s p.2)
theorem PAt.le {N M:Heaplet} (hl:N.le M) {p:PR} {x:PV} (h:PAt N p x):PAt M p x:=⟨h.rn,h.row.le hl,h.vn,h.val.le hl⟩
structure PsN (K:Heaplet) (l:List PR) (xs:List PV):Prop where
 len:xs.length=l.length
 each: ∀(i:Nat) (p:PR) (x:PV),l[i]? =some p→xs[i]? =some x→PAt K p x
theorem PsN.le {N M:Heaplet} (hl:N.le M) {l:List PR} {xs:List PV} (h:PsN N l xs):PsN M l xs:=⟨h.len,fun i p x hp hx=>(h.each i p x hp hx).le hl⟩
theorem PsN.nil (K:Heaplet):PsN K [] []:=⟨rfl,fun i p x h=>by simp at h⟩
theorem PsN.at {K:Heaplet} {l:List PR} {xs:List PV} (h:PsN K l xs) {i:Nat} (hi:i<l.length): ∃p x,l[i]? =some p∧xs[i]? =some x∧PAt K p x:=
 ⟨l[i],xs[i]'(by rw [h.len];exact hi),List.getElem?_eq_getElem hi,List.getElem?_eq_getElem _,h.each i _ _ (List.getElem?_eq_getElem hi) (List.getElem?_eq_getElem _)⟩
theorem PsN.snoc {K:Heaplet} {l:List PR} {xs:List PV} {p:PR} {x:PV} (h:PsN K l xs) (k:PAt K p x):PsN K (l++ [p]) (xs++ [x]):=by
 refine⟨by simp [h.len],fun i q y hq hy=>?_⟩
 rcases Nat.lt_or_ge i l.length with hi|hi
 ·rw [List.getElem?_append_left hi]at hq
  rw [List.getElem?_append_left (by rw [h.len];exact hi)]at hy
  exact h.each i q y hq hy
 ·rw [List.getElem?_append_right hi]at hq
  rw [List.getElem?_append_right (by rw [h.len];exact hi),h.len]at hy
  have h0:i- l.length=0:=by
   obtain⟨h3,_⟩:=List.getElem?_eq_some_iff.1 hq
   simp at h3;omega
  rw [h0]at hq hy
  simp only [List.getElem?_cons_zero,Option.some.injEq]at hq hy
  rw [←hq, ←hy];exact k
def PV.cut (n:Nat) (x:PV):PV:=⟨sadr x.ra n x.rc 1,x.rn- n,x.rc- n,x.va,x.vn,x.vc⟩
theorem PAt.cut {K:Heaplet} {p:PR} {x:PV} (h:PAt K p x) {n:Nat} (hn:n≤p.1.length):PAt K (p.1.drop n,p.2) (x.cut n):=
 ⟨by simp only [PV.cut,List.length_drop,h.rn],h.row.drop8 (by rw [h.rn];exact hn),h.vn,h.val⟩
theorem PsN.take_cut {K:Heaplet} {l:List PR} {xs:List PV} (h:PsN K l xs) {n:Nat} (hn: ∀p∈l,n≤p.1.length):PsN K (cutR n l) (xs.map (PV.cut n)):=by
 refine⟨by simp [cutR,h.len],fun i q y hq hy=>?_⟩
 unfold cutR at hq
 rw [List.getElem?_map]at hq hy
 obtain⟨p,hp,rfl⟩:=Option.map_eq_some_iff.1 hq
 obtain⟨x,hx,rfl⟩:=Option.map_eq_some_iff.1 hy
 exact(h.each i p x hp hx).cut (hn p (List.mem_of_getElem? hp))
/-- A map's pairs by the order of the keys ks. -/
def byKeys (R:List PR) (ks:List (List UInt8)):List PR:=ks.map fun k=>(k,(getR R k).getD [])
theorem byKeys_perm {R:List PR} (hd:Dis R) {ks:List (List UInt8)} (h:ks.Perm (R.map Prod.fst)):(byKeys R ks).Perm R:=by
 have h1:(byKeys R ks).Perm ((R.map Prod.fst).map fun k=>(k,(getR R k).getD [])):=h.map _
 have h2:(R.map Prod.fst).map (fun k=>(k,(getR R k).getD []))=R:=by
  rw [List.map_map]
  conv=>rhs;rw [←List.map_id R]
  refine List.map_congr_left fun p hp=>?_
  show(p.1,(getR R p.1).getD [])=p
  rw [(get_iff hd).2 (show(p.1,p.2)∈R from hp)];rfl
 rwa [h2]at h1
theorem byKeys_ris {R:List PR} {ks:List (List UInt8)} (h:ks.Pairwise fun x y=>x≤y) (hn:ks.Nodup):Ris (byKeys R ks):=by
 unfold Ris byKeys
 rw [List.pairwise_map]
 refine List.Pairwise.imp₂ (fun {a b} h1 h2=>?_) h hn
 exact Classical.byContradiction fun k=>h2 (List.le_antisymm h1 (fun q=>k q))
theorem keys_sorted {l:List (List UInt8)} :(l.mergeSort (fun x y=>decide (x≤y))).Pairwise fun x y=>x≤y:=by
 have:=List.pairwise_mergeSort (le:=fun x y:List UInt8=>decide (x≤y)) (fun a b c h1 h2=>by simp only [decide_eq_true_eq]at*;exact List.le_trans h1 h2) (fun a b=>by simp only [Bool.or_eq_true,decide_eq_true_eq];exact List.le_total a b) l
 exact this.imp fun h=>by simpa using h
end Go.Proofs.YtdpjbefeabokgaaGreat
/- The engine: slices and pointers compared with nil. For whatever program. No condition. -/
namespace Go.Proofs.YtdpjbefeabokgaaGreat
open Go Go.RowKit
section
variable {P : Program} {n : Nat} {l : List (Nat × Value)} {E : World} {L Ls : List Heaplet} {X Y : Act → World → Prop} {d : Nat} {t t' ty e : TypeId} {x : Operand} {ao : Option Addr} {m c : Nat} {ad : Addr} {pos : _} {aft : _} {g : _}
theorem op_eqSl (s:NxF P n l E L Ls ⟨some d,.binOp .eql t x (.const (.slice none 0 0)) t',ty,pos,aft,g⟩ X Y) (ht:P.underlying t=some (.slice e)) (hx:ev l x=some (.slice ao m c)) (hn:Nat.ble (d+1) n=true) (h:At n ((d,.bool ao.isNone)::l) E L Y):At n l E L X:=
 op_bin s hx rfl (fun w=>by simp [eqGuard]) (fun w=>by simp [binOp,run_equal_slice_nil w t e ao m c ht]) hn h
theorem op_eqPt (s:NxF P n l E L Ls ⟨some d,.binOp .eql t x (.const (.pointer none)) t',ty,pos,aft,g⟩ X Y) (ht:P.underlying t=some (.pointer (P.pointee t))) (hx:ev l x=some (.pointer (some ad))) (hn:Nat.ble (d+1) n=true) (h:At n ((d,.bool false)::l) E L Y):At n l E L X:=
 op_bin s hx rfl (fun w=>by simp [eqGuard]) (fun w=>by simp [binOp,run_equal_pointer_nil w t (some ad) ht]) hn h
/-- make([]T, 0, m) -/
theorem op_make0 {y:Operand} {size:Nat} {zv:Value} {bytes m:Nat} {p q:Int} {kl kc:IntKind} (s:NxA P n l E L ⟨some d,.makeSlice t x y,ty,pos,aft,g⟩ X Y) (ht:P.underlying t=some (.slice e)) (hE:ElemInfo P e zv size bytes) (hx:ev l x=some (.int kl p)) (hy:ev l y=some (.int kc q)) (hp:p=0) (hq:q=(m:Int)) (hb:bytes*m≤281474976710656) (hm:m≤maxLen) (hn:Nat.ble (d+1) n=true)
 (h: ∀N ao,Row N e size ao 0 m []→At n ((d,.slice ao 0 m)::l) E (N::L) Y):At n l E L X:=by
 obtain⟨i,hi,hz,hsz,hby,hzs,h0⟩:=hE
 refine op_new s (fun v L'=> ∃N ao,v=.slice ao 0 m∧L'=N::L∧Row N e size ao 0 m []) (fun a w hf hw=>?_) rfl hn (fun v L' ⟨N,ao,hv,hL,hB⟩=>by subst hv;subst hL;exact h N ao hB)
 subst hp;subst hq
 have hr:=run_make (P:=P) w t e i zv ht hi hz kl kc 0 (m:Int) (by omega) (by omega) (cast_mul_le (by rw [hby];exact hb)) (by unfold maxLen at hm;omega)
 rw [Int.toNat_natCast,hsz]at hr
 refine⟨_,_,_,?_,Agree.alloc w (.cells (madeCells zv.cells (m*size)) e),hw.alloc _,single w.heap.size (.cells (madeCells zv.cells (m*size)) e),some ⟨w.heap.size,0,none⟩,rfl,rfl,?_⟩
 ·simp only [execOp,hf.eval hx,hf.eval hy]
  rw [Sem.run_bind,hr]
  rfl
 ·exact⟨by simp,Nat.zero_le _,hm,.inr ⟨w.heap.size,_,rfl,single_self _ _,size_madeCells _ _,by simp⟩⟩
end
end Go.Proofs.YtdpjbefeabokgaaGreat
/- The engine: a test that was made is known behind it; a byte of a string. For whatever program. No condition. -/
namespace Go.Proofs.YtdpjbefeabokgaaGreat
open Go Go.RowKit
section
variable {P : Program} {n : Nat} {l : List (Nat × Value)} {E : World} {L Ls : List Heaplet} {X Y : Act → World → Prop} {K : Act → World → Prop} {d : Nat} {t t' ty : TypeId} {x y : Operand}
theorem op_quo8 {p q:Int} {pos:_} {aft:_} {g:_} (s:NxF P n l E L Ls ⟨some d,.binOp .quo t x y t',ty,pos,aft,g⟩ X Y) (hx:ev l x=some (.int .u8 p)) (hy:ev l y=some (.int .u8 q)) (h1:0≤p) (h2:0<q) (h3:p≤255) (hn:Nat.ble (d+1) n=true) (h:At n ((d,.int .u8 (p/q))::l) E L Y):At n l E L X:=
 op_int s hx hy (fun w=>by
  have e:q≠0:=by omega
  have e2:p/q≤p:=Int.ediv_le_self _ h1
  have e3:0≤p/q:=Int.ediv_nonneg h1 (by omega)
  have e4:IntKind.u8.wrap (p/q)=p/q:=by rw [wrapU8];omega
  simp [binOp,Op.intDiv,e,Int.tdiv_eq_ediv_of_nonneg h1,e4]) hn h
end
section
variable {P : Program} {n : Nat} {l : List (Nat × Value)} {E : World} {L Ls : List Heaplet} {X Y : Act → World → Prop} {d : Nat} {t ty : TypeId} {x : Operand}
end
end Go.Proofs.YtdpjbefeabokgaaGreat
