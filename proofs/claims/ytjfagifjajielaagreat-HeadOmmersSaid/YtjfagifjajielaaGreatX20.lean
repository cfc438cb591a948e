/- Several texts in one: see the remarks ahead of each part. No condition but those told there. -/
import Derived.Test.YtjfagifjajielaaGreatX1
import Derived.Test.YtjfagifjajielaaGreatX19
import Derived.Test.YtjfagifjajielaaGreatX10
import Derived.Test.YtjfagifjajielaaGreatX15
import Derived.Test.YtjfagifjajielaaGreatX16
import Derived.Test.YtjfagifjajielaaGreatX11
set_option linter.unusedSimpArgs false
set_option linter.unusedVariables false
namespace Go.Proofs.YtjfagifjajielaaGreat
open Go Go.RowKit
set_option maxRecDepth 100000
section
variable {Np NI Nt : Heaplet} {bp bt : Nat} {its : List It} {zs : List IV}
def txE:Nat→List It→Except Nat TxM
 |0=>tx0
 |1=>tx1
 |2=>tx2
 |3=>tx3
 |_=>fun _=>.error 2
end
def hf (l:Bool) (p:List UInt8):List UInt8:=if l then rlpHead 192 p.length++p else if small p then p else rlpHead 128 p.length++p
mutual
def sizeT:It→Nat
 |.mk _ bs its=>9+bs.length+sizesT its
def sizesT:List It→Nat
 | []=>0
 |t::ts=>sizeT t+sizesT ts
end
mutual
theorem form_size: ∀t:It,sizeT t<256^8→t.form.length≤sizeT t
 |.mk false bs its,h=>by
  simp only [sizeT]at h⊢
  rw [form_false]
  split
  ·omega
  ·have:=rlpHead_le 128 bs.length (by omega)
   rw [List.length_append];omega
 |.mk true bs its,h=>by
  simp only [sizeT]at h⊢
  have:=forms_size its (by omega)
  have h9:=rlpHead_le 192 (It.forms its).length (by omega)
  rw [form_true,List.length_append];omega
theorem forms_size: ∀ts:List It,sizesT ts<256^8→(It.forms ts).length≤sizesT ts
 | [],_=>by simp [It.forms,sizesT]
 |t::ts,h=>by
  simp only [sizesT]at h⊢
  have h1:=form_size t (by omega)
  have h2:=forms_size ts (by omega)
  rw [It.forms,List.length_append];omega
end
def TwinP (bl deep left:Nat) (v:Value) (L:List Heaplet):Prop:=
 ∃Nl M, ∃y:IV, ∃t' left',v=.agg #[.bool y.l,.slice y.ab y.nb y.cb,.slice y.ai y.ni y.ci]∧L= [Nl,M]∧Blk Nl bl 3 [.int .i64 ((left':Nat):Int)]∧ItN M t' y∧t'.depth≤deep+1∧sizeT t'≤409*(left- left')∧left'<left
open Go Go.RowKit
open Go Go.RowKit
theorem decodeF_form {t:It} (hl:t.form.length<2^64) (hd:t.depth≤1024):decodeF t.form=.ok t.plain:=by
 have e:=dec_form t 1024 [] hl hd
 rw [List.append_nil]at e
 rw [decodeF,e];rfl
open Go Go.RowKit
def SplW (nb:Nat) (v:Value) (L:List Heaplet):Prop:= ∃M1 M2 l n1 n2 a1 c1 a2 c2 p q, ∃e:Int,v=.tuple #[.bool l,.slice a1 n1 c1,.slice a2 n2 c2,.int .i64 e]∧L= [M1,M2]∧Row M1 5 1 a1 n1 c1 (u8s p)∧Row M2 5 1 a2 n2 c2 (u8s q)∧n1≤nb∧n2≤nb
def EnvW (nb:Nat) (v:Value) (L:List Heaplet):Prop:= ∃M k n1 a c p, ∃e:Int,v=.tuple #[.int .i64 k,.slice a n1 c,.int .i64 e]∧L= [M]∧Row M 5 1 a n1 c (u8s p)∧n1≤nb
theorem Fn.over {P:Program} {f:FuncId} {args:Array Value} {Ns:List Heaplet} {Post:Value→List Heaplet→Prop} (h: ∀J,(∀N∈Ns,N.le J)→Fn P f args [] [J] Post):Fn P f args [] Ns Post:=
 fun E w R hw hr=>h R hr E w R hw fun N hN=>by rw [List.mem_singleton.1 hN];exact Heaplet.le_refl _
end Go.Proofs.YtjfagifjajielaaGreat
