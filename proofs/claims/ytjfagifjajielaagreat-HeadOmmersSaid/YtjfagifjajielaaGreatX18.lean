/- Several texts in one: see the remarks ahead of each part. No condition but those told there. -/
import Derived.Test.YtjfagifjajielaaGreatX1
import Derived.Test.YtjfagifjajielaaGreatX17
import Derived.Test.YtjfagifjajielaaGreatX16
import Derived.Test.YtjfagifjajielaaGreatX13
set_option linter.unusedSimpArgs false
set_option linter.unusedVariables false
namespace Go.Proofs.YtjfagifjajielaaGreat
open Go Go.RowKit
set_option maxRecDepth 100000
structure AccM where
 addr:List UInt8
 keys:List (List UInt8)
structure AV where
 addr:List UInt8
 ka:Option Addr
 kn:Nat
 kc:Nat
def AV.cells (x:AV):List Value:=u8s x.addr++ [.slice x.ka x.kn x.kc]
def accC (xs:List AV):List Value:=xs.flatMap AV.cells
def AccN (N:Heaplet) (g:AccM) (x:AV):Prop:=x.addr=g.addr∧g.addr.length=20∧x.kn=g.keys.length∧RSl N 32 x.ka x.kn x.kc (hashC g.keys)∧ ∀h∈g.keys,h.length=32
def AccsN (N:Heaplet) (gs:List AccM) (xs:List AV):Prop:=xs.length=gs.length∧ ∀(i:Nat) (g:AccM) (x:AV),gs[i]? =some g→xs[i]? =some x→AccN N g x
section
variable {N M : Heaplet} {g : AccM} {x : AV} {gs : List AccM} {xs : List AV}
theorem AccN.le (hl:N.le M) (h:AccN N g x):AccN M g x:=⟨h.1,h.2.1,h.2.2.1,h.2.2.2.1.le hl,h.2.2.2.2⟩
theorem AccsN.le (hl:N.le M) (h:AccsN N gs xs):AccsN M gs xs:=⟨h.1,fun i g x h1 h2=>(h.2 i g x h1 h2).le hl⟩
theorem AccsN.nil:AccsN N [] []:=⟨rfl,fun i g x h=>by simp at h⟩
theorem AccsN.snoc (h:AccsN N gs xs) (k:AccN N g x):AccsN N (gs++ [g]) (xs++ [x]):=by
 refine⟨by simp [h.1],fun i g' x' h1 h2=>?_⟩
 rcases Nat.lt_or_ge i gs.length with hi|hi
 ·rw [List.getElem?_append_left hi]at h1
  rw [List.getElem?_append_left (by rw [h.1];exact hi)]at h2
  exact h.2 i g' x' h1 h2
 ·rw [List.getElem?_append_right hi]at h1
  rw [List.getElem?_append_right (by rw [h.1];exact hi),h.1]at h2
  have h0:i- gs.length=0:=by
   obtain⟨h3,_⟩:=List.getElem?_eq_some_iff.1 h1
   simp at h3;omega
  rw [h0]at h1 h2
  simp at h1 h2
  subst h1;subst h2;exact k
theorem AccsN.at (h:AccsN N gs xs) {i:Nat} (hi:i<gs.length): ∃g x,gs[i]? =some g∧xs[i]? =some x∧AccN N g x:=by
 have hx:i<xs.length:=by rw [h.1];exact hi
 exact⟨gs[i],xs[i],List.getElem?_eq_getElem hi,List.getElem?_eq_getElem hx,h.2 i _ _ (List.getElem?_eq_getElem hi) (List.getElem?_eq_getElem hx)⟩
theorem AV.cells_len {x:AV} (h:x.addr.length=20):x.cells.length=21:=by rw [AV.cells,List.length_append,cK,h];rfl
theorem AV.cells_one (x:AV):x.cells.all (·.oneCell')=true:=by
 refine List.all_eq_true.2 fun u hu=>?_
 rcases List.mem_append.1 hu with hu|hu
 ·exact one_u8s _ u hu
 ·obtain rfl:=List.mem_singleton.1 hu;rfl
end
def accE (t:It):Except Nat AccM:=match listE t with
 |.error e=>.error e
 |.ok [x,y]=>match fixE 20 x with
  |.error e=>.error e
  |.ok a=>match hashesE y with
   |.error e=>.error e
   |.ok ks=>.ok ⟨a,ks⟩
 |.ok _=>.error 2
section
variable {Np NI Nl Na Nk : Heaplet} {bp bl m c : Nat} {a : Option Addr} {t : It} {ts : List It} {gs : List AccM} {xs : List AV} {z : IV} {zs : List IV}
theorem PartsN.two {u y:It} (h:PartsN Np NI bp zs [u,y]): ∃a b,zs= [a,b]:=by
 obtain⟨ao,n,cap,B,hs,x,ys,rfl,hx,x',ys',rfl,hx',e⟩:=h
 have e:ys'= []:=e
 subst e;exact⟨x,x',rfl⟩
def ItOK (B:Nat) (t:It):Prop:= ∀its,listE t=.ok its→its.length≤B∧ ∀y∈its, ∀l,listE y=.ok l→l.length≤B
def AccV (b:Nat) (gs:List AccM) (N:Heaplet):Prop:= ∃Nl Na Nk a c xs,[Nl,Na,Nk].Pairwise Apart∧N=joinL [Nl,Na,Nk]∧Blk Nl b 29 [.slice a gs.length c]∧Row Na 117 21 a gs.length c (accC xs)∧AccsN Nk gs xs
def accessE:It→Except Nat (List AccM):=eachE accE
end
def Dne {α:Type} (r:Except Nat (List α)) (xs:List α) (E:Nat):Prop:=(E=0∧r=.ok xs)∨(E≠0∧r=.error E)
section
variable {α : Type} {g : It → Except Nat α}
def snE:Except Nat (List α)→Except Nat α→Except Nat (List α)
 |.error e,_=>.error e
 |.ok _,.error e=>.error e
 |.ok xs,.ok x=>.ok (xs++ [x])
theorem mapE_snoc (l:List It) (t:It):mapE g (l++ [t])=snE (mapE g l) (g t):=by
 induction l with
 |nil=>
  simp only [List.nil_append,mapE]
  cases g t<;>rfl
 |cons u l ih=>
  rw [List.cons_append,mapE,mapE,ih]
  cases g u with
  |error e=>rfl
  |ok a=>
   cases mapE g l with
   |error e=>rfl
   |ok xs=>
    cases g t<;>rfl
theorem Dne.step {l:List It} {t:It} {xs:List α} {x:α} {E E':Nat} (h:Dne (mapE g l) xs E) (hs:Stp E (g t) x E'):Dne (mapE g (l++ [t])) (xs++ [x]) E':=by
 rw [mapE_snoc]
 rcases h with ⟨rfl,h⟩|⟨h0,h⟩
 ·rw [h]
  rcases hs with ⟨h1,rfl⟩|⟨e,h1,h2,rfl⟩
  ·rw [h1];exact .inl ⟨rfl,rfl⟩
  ·rw [h1];exact .inr ⟨h2,rfl⟩
 ·rw [h]
  rcases hs with ⟨h1,rfl⟩|⟨e,h1,h2,rfl⟩
  ·exact .inr ⟨h0,rfl⟩
  ·rw [if_neg h0];exact .inr ⟨h0,rfl⟩
end
theorem take_nx {α:Type} {l:List α} {i:Nat} {x:α} (h:l[i]? =some x):l.take (i+1)=l.take i++ [x]:=by
 rw [List.take_add_one,h];rfl
section
variable {Np NI : Heaplet} {bp i E : Nat} {all : List It}
def RHashesP (NI:Heaplet) (bp:Nat) (all:List It) (i E:Nat) (v:Value) (L:List Heaplet):Prop:= ∃Np Na a c hs E',v=.slice a hs.length c∧L= [Np,Na]∧PartsQ Np NI bp all (i+1) E'∧Row Na 40 32 a hs.length c (hashC hs)∧(∀x∈hs,x.length=32)∧Stp E (hashesE (nxt all i)) hs E'
def Deep3 (t:It):Prop:=t.items.length≤1099511627776∧ ∀y∈t.items,y.items.length≤1099511627776∧ ∀u∈y.items,u.items.length≤1099511627776
def RAccessP (NI:Heaplet) (bp:Nat) (all:List It) (i E:Nat) (v:Value) (L:List Heaplet):Prop:= ∃Np Na Nk a c gs xs E',v=.slice a gs.length c∧L= [Np,Na,Nk]∧PartsQ Np NI bp all (i+1) E'∧Row Na 117 21 a gs.length c (accC xs)∧AccsN Nk gs xs∧Stp E (accessE (nxt all i)) gs E'
end
def txP (ki:Int) (ch nn pr tp ga:Nat) (mk:Bool) (to:List UInt8) (va:Nat) (d a:Value) (bf:Nat) (b:Value) (od:Bool) (r s:Nat):List (List Value):= [[.int .i64 ki],[.int .u64 (ch:Int)],[.int .u64 (nn:Int)],u64s (wl pr),u64s (wl tp),[.int .u64 (ga:Int)],[.bool mk],u8s to,u64s (wl va),[d],[a],u64s (wl bf),[b],[.bool od],u64s (wl r),u64s (wl s)]
def txLens:List Nat:= [1,1,1,4,4,1,1,20,4,1,1,4,1,1,4,4]
section
variable {ki : Int} {ch nn pr tp ga va bf r s : Nat} {mk od : Bool} {to : List UInt8} {d a b : Value}
theorem txP_lens (ht:to.length=20):(txP ki ch nn pr tp ga mk to va d a bf b od r s).map List.length=txLens:=by
 simp only [txP,List.map_cons,List.map_nil,cK,u64s_len,length_wl,ht]
 rfl
theorem txP_len (ht:to.length=20):(txP ki ch nn pr tp ga mk to va d a bf b od r s).flatten.length=53:=by
 rw [flatten_len,txP_lens ht];rfl
def zero20:List UInt8:=List.replicate 20 0
def toE (ki:Int) (t:It):Except Nat (Bool×List UInt8):=match strE t with
 |.error e=>.error e
 |.ok l=>if l.length=20 then .ok (false,l)else if l.length=0∧ki≠3 then .ok (true,zero20)else .error 2
end
section
variable {Np NI Nt : Heaplet} {bp bt : Nat} {t : It} {ts : List It} {z : IV} {zs : List IV} {ki : Int} {ch nn pr tp ga va bf r s : Nat} {mk od : Bool} {d a b : Value}
end
def scmp (x y:Nat):Int:=if (negB x !=negB y)=true then (if negB x=true then-1 else 1)else cmpN x y
def amt (n:Nat):Nat:=if n<256 then n else 256
def wSt (T i:Nat):List UInt64:=(wl T).take i++List.replicate (4- i) 0
end Go.Proofs.YtjfagifjajielaaGreat
