/- Several texts in one: see the remarks ahead of each part. No condition but those told there. -/
import Derived.Test.YtjfagifjajielaaGreatX1
import Derived.Test.YtjfagifjajielaaGreatX18
import Derived.Test.YtjfagifjajielaaGreatX21
import Derived.Test.YtjfagifjajielaaGreatX13
set_option linter.unusedSimpArgs false
set_option linter.unusedVariables false
namespace Go.Proofs.YtjfagifjajielaaGreat
open Go Go.RowKit
set_option maxRecDepth 100000
def Inv {α:Type} (E:Nat) (T R:Except Nat α):Prop:=(E=0∧T=R)∨(E≠0∧T=.error E)
theorem Inv.step {α β:Type} {E E':Nat} {T:Except Nat β} {r:Except Nat α} {f:α→Except Nat β} {x:α} (h:Inv E T (eb r f)) (s:Stp E r x E'):Inv E' T (f x):=by
 rcases h with ⟨h0,h⟩|⟨h0,h⟩
 ·rcases s with ⟨s1,s2⟩|⟨e,s1,s2,s3⟩
  ·exact .inl ⟨s2.trans h0,by rw [h,s1];rfl⟩
  ·rw [if_pos h0]at s3
   exact .inr ⟨by rw [s3];exact s2,by rw [h,s1,s3];rfl⟩
 ·have e:E'=E:=by
   rcases s with ⟨_,s2⟩|⟨e,_,_,s3⟩
   ·exact s2
   ·rw [if_neg h0]at s3;exact s3
  rw [e];exact .inr ⟨h0,h⟩
theorem Inv.ok {α:Type} {E:Nat} {T R:Except Nat α} (h:Inv E T R) (he:E=0):T=R:=by
 rcases h with ⟨_,h⟩|⟨h0,_⟩
 ·exact h
 ·exact absurd he h0
section
variable {v : Value} {i : Nat}
variable {fi : Int} {pa om co st tx rc bl ex mx no wd be : List UInt8} {df bf : Nat} {nu gl gu ti bg xs : UInt64}
end
theorem RFields (n:Int):Fn Tryz.prog 21 #[.int .i64 n] [] [] (fun v L=>v=.bool (decide (okF n))∧L= []):=by
 refine Fn.enter (vs:= [.int .i64 n]) Tryz.func21 U U U ?_
 intro E R hR
 change At _ _ E [R] _
 refine aC fun _ s_1=>aA (aG U U (aB (s_1 (aC fun _ s_2=>aA (aF U U (op_eql aD U U U (aF U U (cJ (d:=5) U (fun g5=>?_) (fun g5=>?_)))))))))
 ·refine aU U U U U U U U (aU U U U U U U U (bO aD U U U (aF U U (aU U U U U U U U (aU U U U U U U U (bO aD U U U (aF U U (aU U U U U U U U (aU U U U U U U U (bO aD U U U (aG U U (aB (s_2 (aR ((aW (L1:= []) U (.tmp U .nil) (.refl _) aM ?_))))))))))))))))
  exact⟨by congr 1;symm;first|(rw [decide_eq_true_iff];unfold okF;omega)|(rw [Bool.eq_iff_iff,decide_eq_true_iff,decide_eq_true_iff];unfold okF;omega),rfl⟩
 refine aL (cL U U U U) U U (op_eql (cL U U U U) U U U (cB aD U U U (aF U U (cJ (d:=9) U (fun g9=>?_) (fun g9=>?_)))))
 ·refine aU U U U U U U U (aU U U U U U U U (bO aD U U U (aF U U (aU U U U U U U U (aU U U U U U U U (bO aD U U U (aG U U (aB (s_2 (aR ((aW (L1:= []) U (.tmp U .nil) (.refl _) aM ?_))))))))))))
  exact⟨by congr 1;symm;first|(rw [decide_eq_true_iff];unfold okF;omega)|(rw [Bool.eq_iff_iff,decide_eq_true_iff,decide_eq_true_iff];unfold okF;omega),rfl⟩
 refine aL (cL U U U U) U U (op_eql (cL U U U U) U U U (cB aD U U U (aF U U (cJ (d:=13) U (fun g13=>?_) (fun g13=>?_)))))
 ·refine aU U U U U U U U (aU U U U U U U U (bO aD U U U (aG U U (aB (s_2 (aR ((aW (L1:= []) U (.tmp U .nil) (.refl _) aM ?_))))))))
  exact⟨by congr 1;symm;first|(rw [decide_eq_true_iff];unfold okF;omega)|(rw [Bool.eq_iff_iff,decide_eq_true_iff,decide_eq_true_iff];unfold okF;omega),rfl⟩
 refine aL (cL U U U U) U U (op_eql (cL U U U U) U U U (cB aD U U U (aG U U (aB (s_2 (aR ((aW (L1:= []) U (.tmp U .nil) (.refl _) aM ?_))))))))
 exact⟨by congr 1;symm;first|(rw [decide_eq_true_iff];unfold okF;omega)|(rw [Bool.eq_iff_iff,decide_eq_true_iff,decide_eq_true_iff];unfold okF;omega),rfl⟩
def RHdP (NI:Heaplet) (t:It) (v:Value) (L:List Heaplet):Prop:=
 (∃M h v1,hdE t=.ok h∧v=.tuple #[.agg (h.cells v1).toArray,.int .i64 0]∧L= [M]∧h.Ok∧okF h.fi∧ ∃ea ec,v1=.slice ea h.ex.length ec∧ ∀J:Heaplet,M.le J→NI.le J→RSl J 1 ea h.ex.length ec (u8s h.ex))∨
 (∃e:Nat,hdE t=.error e∧v=.tuple #[.agg z44.toArray,.int .i64 (e:Int)]∧e≠0∧L= [nilH])
section
variable {NI : Heaplet} {t : It} {x : IV}
end
def readHdE (b:List UInt8):Except Nat HdM:=eb (decodeF b) hdE
def ReadHdP (b:List UInt8) (v:Value) (L:List Heaplet):Prop:=
 (∃e:Nat,e≠0∧v=.tuple #[.agg z44.toArray,.int .i64 (e:Int)]∧L= []∧readHdE b=.error e)∨
 (∃NI h v1 t zs,v=.tuple #[.agg (h.cells v1).toArray,.int .i64 0]∧L= [NI]∧readHdE b=.ok h∧h.Ok∧okF h.fi∧HdS zs NI h v1∧ItemO NI t zs)
section
variable {bt be : Nat} {Nt Ne : Heaplet} {cs : List Value} {x : Value} {e : Int}
end
section
variable {N : Heaplet} {ao : Option Addr} {n cap : Nat} {b : List UInt8}
end
def RReadHdP (b:List UInt8) (v:Value) (L:List Heaplet):Prop:=
 (∃M h v1,readHdE b=.ok h∧v=.tuple #[.agg (h.cells v1).toArray,.int .i64 0]∧L= [M]∧h.Ok∧okF h.fi∧ ∃ea ec,v1=.slice ea h.ex.length ec∧RSl M 1 ea h.ex.length ec (u8s h.ex))∨
 (∃e:Nat,readHdE b=.error e∧v=.tuple #[.agg z44.toArray,.int .i64 (e:Int)]∧e≠0∧L= [nilH])
section
variable {N : Heaplet} {ao : Option Addr} {n cap : Nat} {b : List UInt8}
end
section
variable {α : Type} {El : It → Prop} {g : It → Except Nat α} {Inv : List IV → List α → Heaplet → Prop} {z : IV} {zs : List IV} {Np NI NO : Heaplet} {bp : Nat} {t : It} {ts : List It} {f : FuncId} {fn : Func} {caps : List Value} {PInv : Heaplet → Prop}
end
section
variable {NI : Heaplet} {t : It} {x : IV}
def RawAt (NI NE:Heaplet) (z:IV) (v:Value) (g:List UInt8):Prop:=
 (z.l=false∧v=slB z∧z.nb=g.length∧RSl NI 1 z.ab z.nb z.cb (u8s g)∧NE=nilH)∨(z.l=true∧ ∃p c,v=.slice p g.length c∧Row NE 5 1 p g.length c (u8s g))
end
end Go.Proofs.YtjfagifjajielaaGreat
