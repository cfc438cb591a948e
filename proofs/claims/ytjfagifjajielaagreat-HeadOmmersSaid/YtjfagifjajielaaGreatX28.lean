/- Several texts in one: see the remarks ahead of each part. No condition but those told there. -/
import Derived.Test.YtjfagifjajielaaGreatX1
import Derived.Test.YtjfagifjajielaaGreatX22
import Derived.Test.YtjfagifjajielaaGreatX21
import Derived.Test.YtjfagifjajielaaGreatX23
set_option linter.unusedSimpArgs false
set_option linter.unusedVariables false
namespace Go.Proofs.YtjfagifjajielaaGreat
open Go Go.RowKit
set_option maxRecDepth 100000
section
variable {N M : Heaplet} {p q : Option Addr} {n m c k A B : Nat}
end
section
variable {ki : Int} {ch n : Nat} {t : It}
end
def RVP (NI:Heaplet) (bp:Nat) (all:List It) (i E:Nat) (ki:Int) (ch:Nat) (v:Value) (L:List Heaplet):Prop:= ∃Np co E',v=.tuple #[.int .u64 ((co:Nat×Bool).1:Int),.bool co.2]∧co.1<2^64∧L= [Np]∧PartsQ Np NI bp all (i+1) E'∧Stp E (vE ki ch (nxt all i)) co E'
section
variable {Np NI : Heaplet} {bp i E : Nat} {all : List It} {ki : Int} {ch : Nat}
end
section
variable {ki : Int} {ch nn pr tp ga va bf r s x : Nat} {mk od o : Bool} {to l : List UInt8} {d a b v : Value}
end
def RReadTxP (b:List UInt8) (v:Value) (L:List Heaplet):Prop:=
 (∃M m d x y,readTxE b=.ok m∧v=.tuple #[.agg (m.cells d x y).toArray,.int .i64 0]∧L= [M]∧m.Ok∧TxR M m d x y)∨
 (∃e:Nat,readTxE b=.error e∧v=.tuple #[.agg z32.toArray,.int .i64 (e:Int)]∧e≠0∧L= [nilH])
end Go.Proofs.YtjfagifjajielaaGreat
