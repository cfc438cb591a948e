/- Several texts in one: see the remarks ahead of each part. No condition but those told there. -/
import Derived.Test.YtjfagifjajielaaGreatX1
import Derived.Test.YtjfagifjajielaaGreatX29
import Derived.Test.YtjfagifjajielaaGreatX25
import Derived.Test.YtjfagifjajielaaGreatXBSa
import Derived.Test.YtjfagifjajielaaGreatX27
import Derived.Test.YtjfagifjajielaaGreatX14
set_option linter.unusedSimpArgs false
set_option linter.unusedVariables false
namespace Go.Proofs.YtjfagifjajielaaGreat
open Go Go.RowKit
set_option maxRecDepth 100000
section
variable {N : Heaplet} {ao : Option Addr} {n cap : Nat} {b p : List UInt8}
end
section
variable {N : Heaplet} {ao : Option Addr} {n cap : Nat} {b p : List UInt8}
end
section
variable {N : Heaplet} {ao : Option Addr} {n cap : Nat} {b p : List UInt8}
end
theorem Fn.one {P:Program} {f:FuncId} {args:Array Value} {L0 Lr:List Heaplet} {Post:Value→List Heaplet→Prop} (h:Fn P f args L0 Lr Post):Fn P f args L0 Lr (fun v L=> ∃M L',L= [M]∧Post v L'∧ ∀N∈L',N.le M):=fun E w R hw hr=>by
 refine(h E w R hw hr).mono ?_
 rintro e w' ⟨v,L1,rfl,hP,hh⟩
 exact⟨v,[joinL L1],rfl,⟨joinL L1,L1,rfl,hP,fun N hN=>le_joinL (List.pairwise_append.1 hh.sep).1 hN⟩,hh.packL⟩
def RdW {α:Type} (r:Except Nat α) (z:α) (e:Nat) (m:α):Prop:=(r=.ok m∧e=0)∨(r=.error e∧e≠0∧m=z)
theorem RdW.same {α:Type} {r:Except Nat α} {z:α} {e e':Nat} {m m':α} (h:RdW r z e m) (k:RdW r z e' m'):e=e'∧m=m':=by
 rcases h with ⟨h1,h2⟩|⟨h1,h2,h3⟩
 ·rcases k with ⟨k1,k2⟩|⟨k1,k2,k3⟩
  ·rw [h1]at k1;cases k1;exact⟨h2.trans k2.symm,rfl⟩
  ·rw [h1]at k1;cases k1
 ·rcases k with ⟨k1,k2⟩|⟨k1,k2,k3⟩
  ·rw [h1]at k1;cases k1
  ·rw [h1]at k1;cases k1;exact⟨rfl,h3.trans k3.symm⟩
def txZ:TxM:=⟨0,0,0,0,0,0,false,zero20,0,[],[],0,[],false,0,0⟩
def bkZ:BlkM:=⟨HdM.zero 0,[],[],false,[]⟩
def TxG (b:List UInt8) (v:Value) (L:List Heaplet):Prop:= ∃M, ∃e:Nat, ∃m d x y,v=.tuple #[.agg (TxM.cells m d x y).toArray,.int .i64 (e:Int)]∧L= [M]∧RdW (readTxE b) txZ e m∧m.Ok∧TxR M m d x y
def HdG (b:List UInt8) (v:Value) (L:List Heaplet):Prop:= ∃M, ∃e:Nat, ∃m v1,v=.tuple #[.agg (HdM.cells m v1).toArray,.int .i64 (e:Int)]∧L= [M]∧RdW (readHdE b) (HdM.zero 0) e m∧HdIn M m v1
def BkG (b:List UInt8) (v:Value) (L:List Heaplet):Prop:= ∃M, ∃e:Nat, ∃m cs,v=.tuple #[.agg (cs:List Value).toArray,.int .i64 (e:Int)]∧L= [M]∧RdW (readBlkE b) bkZ e m∧BlkR M m cs
theorem HdIn.one {N:Heaplet} {m:HdM} {v:Value} (h:HdIn N m v):(m.cells v).length=556∧(m.cells v).all (·.oneCell')=true:=by
 obtain⟨k,ea,ec,rfl,_⟩:=h
 exact⟨HdM.len k _,HdM.one rfl⟩
section
variable {N : Heaplet} {ao : Option Addr} {n cap : Nat} {b : List UInt8}
end
end Go.Proofs.YtjfagifjajielaaGreat
