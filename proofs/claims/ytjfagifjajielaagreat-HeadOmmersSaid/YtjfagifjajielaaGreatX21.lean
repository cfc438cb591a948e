/- Several texts in one: see the remarks ahead of each part. No condition but those told there. -/
import Derived.Test.YtjfagifjajielaaGreatX1
import Derived.Test.YtjfagifjajielaaGreatX20
set_option linter.unusedSimpArgs false
set_option linter.unusedVariables false
namespace Go.Proofs.YtjfagifjajielaaGreat
open Go Go.RowKit
set_option maxRecDepth 100000
def readTxE (b:List UInt8):Except Nat TxM:=match envF b with
 |none=>.error 2
 |some (k,p)=>if k≤3∧(0<k∨0<(b.getD 0 0).toNat)then eb (decodeF p) fun t=>eb (listE t) (txE k)else .error 2
def ItemO (NI:Heaplet) (t:It) (zs:List IV):Prop:= ∃x:IV,ItN NI t x∧OwnTop NI t x∧RSl NI 3 x.ai x.ni x.ci (cellsI zs)
def ReadTxP (b:List UInt8) (v:Value) (L:List Heaplet):Prop:=
 (∃e:Nat,e≠0∧v=.tuple #[.agg z32.toArray,.int .i64 (e:Int)]∧L= []∧readTxE b=.error e)∨
 (∃NI J m d x y t zs,v=.tuple #[.agg (m.cells d x y).toArray,.int .i64 0]∧L= [NI,J]∧readTxE b=.ok m∧m.Ok∧TxS zs NI J m d x y∧ItemO NI t zs)
theorem TxM.cells_len {m:TxM} (h:m.Ok) (d a b:Value):(m.cells d a b).length=53:=txP_len h.to
theorem TxM.one {m:TxM} {d a b:Value} (hd:d.oneCell'=true) (ha:a.oneCell'=true) (hb:b.oneCell'=true):(m.cells d a b).all (·.oneCell')=true:=by
 refine part_all fun p hp u hu=>?_
 simp only [txP,List.mem_cons,List.not_mem_nil,or_false]at hp
 rcases hp with rfl|rfl|rfl|rfl|rfl|rfl|rfl|rfl|rfl|rfl|rfl|rfl|rfl|rfl|rfl|rfl
 all_goals first
  |exact one_u8s _ u hu
  |exact one_u64s _ u hu
  |(obtain rfl:=List.mem_singleton.1 hu;first|exact hd|exact ha|exact hb|rfl)
section
variable {N : Heaplet} {ao : Option Addr} {n cap : Nat} {b : List UInt8}
end
section
variable {h : HdM} {v w : Value} {x : List UInt8} {n : Nat} {u : UInt64}
variable {fi : Int} {pa om co st tx rc bl ex mx no wd be : List UInt8} {df bf : Nat} {nu gl gu ti bg xs : UInt64}
end
section
variable {Np NI : Heaplet} {bp : Nat} {t : It} {ts : List It} {z : IV} {zs : List IV}
end
def HdS (zs:List IV) (NI:Heaplet) (h:HdM) (v:Value):Prop:= ∃ea ec,v=.slice ea h.ex.length ec∧RSl NI 1 ea h.ex.length ec (u8s h.ex)∧ ∃(i:Nat) (z:IV),zs[i]? =some z∧v=slB z
section
variable {NI : Heaplet} {t : It} {x : IV}
end
end Go.Proofs.YtjfagifjajielaaGreat
