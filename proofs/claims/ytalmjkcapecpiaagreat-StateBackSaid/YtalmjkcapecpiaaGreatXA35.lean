/- The engine: a contract upon one part of joined memory. For whatever program. No condition. -/
import Derived.Test.YtalmjkcapecpiaaGreatX1
import Derived.Test.YtalmjkcapecpiaaGreatX18
set_option linter.unusedSimpArgs false
set_option linter.unusedVariables false
namespace Go.Proofs.YtalmjkcapecpiaaGreat
open Go Go.RowKit
section
variable {P : Program} {f : FuncId} {args : Array Value} {L0 Lr F0 : List Heaplet} {Post : Value → List Heaplet → Prop}
theorem Fn.frameR (h:Fn P f args L0 Lr Post) (F0:List Heaplet) (hN: ∀N∈Lr,N∈F0):Fn P f args (L0++F0) [] (fun v L=> ∃L1,L=L1++F0∧Post v L1):=fun E w R hw _=>by
 have hw1:Hp E ((F0++ [R])++L0) w:=hw.perm (by rw [List.append_assoc];exact List.perm_append_comm)
 have hs:=(List.pairwise_append.1 hw1.sep).1
 have hw2:Hp E (L0++ [joinL (F0++ [R])]) w:=hw1.packL.perm (List.perm_append_comm (l₁:= [joinL (F0++ [R])]))
 refine(h E w _ hw2 fun N hN'=>le_joinL hs (List.mem_append_left _ (hN N hN'))).mono ?_
 rintro e w' ⟨v,L1,rfl,hP,hh⟩
 refine⟨v,L1++F0,rfl,⟨L1,rfl,hP⟩,?_⟩
 have h3:Hp E (joinL (F0++ [R])::L1) w':=hh.perm (List.perm_append_comm (l₁:=L1))
 refine(h3.unpackL hs).perm ?_
 rw [List.append_assoc L1]
 exact List.perm_append_comm
theorem Fn.inJ {X NS:Heaplet} {As Bs:List Heaplet} {Q:Heaplet→Prop} (h:Fn P f args [X] Lr (fun _ L=> ∃X',L= [X']∧Q X')) (hJ: ∀N∈Lr,N∈As++Bs) (hA:(As++X::Bs).Pairwise Apart):Fn P f args [NS,joinL (As++X::Bs)] [] (fun _ L=> ∃X',L= [NS,joinL (As++X'::Bs)]∧(As++X'::Bs).Pairwise Apart∧Q X'):=by
 have hp: ∀Y:Heaplet,([Y]++(As++Bs++ [NS])).Perm ((As++Y::Bs)++ [NS]):=fun Y=>by
  simp only [List.append_assoc,List.cons_append,List.nil_append]
  exact List.perm_middle.symm
 have h1:=((h.frameR (As++Bs++ [NS]) fun N hN=>List.mem_append_left _ (hJ N hN)).permL (hp X)).out (Post':=fun _ L=> ∃X',L=(As++X'::Bs)++ [NS]∧Q X') fun v L ⟨L1,h1,X',h2,h3⟩=>⟨_,by rw [h1,h2];exact hp X',X',rfl,h3⟩
 have h2:=Fn.pack hA h1 (Post':=fun _ L=> ∃X',L= [joinL (As++X'::Bs),NS]∧(As++X'::Bs).Pairwise Apart∧Q X') fun v L ⟨X',e,q⟩=>⟨_,_,e,fun hs=>⟨X',rfl,hs,q⟩⟩
 exact(h2.permL (.swap _ _ _)).out fun v L ⟨X',e,q⟩=>⟨_,by rw [e];exact .swap _ _ _,X',rfl,q⟩
end
end Go.Proofs.YtalmjkcapecpiaaGreat
