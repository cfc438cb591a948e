/- The engine, part 9: interfaces, byte strings out of literals, pointers. For whatever program. No condition. -/
import Derived.Test.YtdplcfineaikjaaDoorG8
namespace Go.Proofs.YtdplcfineaikjaaDoor
set_option linter.unusedVariables false
set_option linter.unusedSimpArgs false
open Go Go.RowKit
def isIfc (P : Program) (t : TypeId) : Bool := match P.underlying t with
  | some (.interface _) => true
  | _ => false
def notIfc (P : Program) (t : TypeId) : Bool := match P.underlying t with
  | some (.interface _) => false
  | none => false
  | _ => true
section
variable {P : Program} {n : Nat} {l l' : List (Nat × Value)} {E : World} {L L1 Ls : List Heaplet} {o : Oper} {X Y K : Act → World → Prop} {N : Heaplet} {Q : Exit → Act → World → Prop}
variable {d : Nat} {ty t t' e : TypeId} {pos : String} {aft : Array Edge} {g : Option (Nat × Bool)} {v : Value} {x y z : Operand} {k : IntKind} {p q : Int} {size len cap : Nat} {ao : Option Addr} {xs : List Value} {b off j : Nat}
theorem op_mkI (s : NxF P n l E L Ls ⟨some d, .makeInterface t x, ty, pos, aft, g⟩ X Y) (ht : notIfc P t = true) (hx : ev l x = some v) (hn : Nat.ble (d + 1) n = true) (h : At n ((d, .iface t v) :: l) E L Y) : At n l E L X :=
  op_val s (fun a w hf _ => by
    unfold notIfc at ht
    cases hu : P.underlying t with
    | none => rw [hu] at ht; cases ht
    | some u =>
      rw [hu] at ht
      simp only [execOp, hf.eval hx, Instr.makeInterface, Sem.run_bind, run_underlying hu, Result.andThen_ok]
      cases u <;> first | rfl | cases ht) rfl hn h
theorem run_assert {asserted : TypeId} (ht : notIfc P asserted = true) (w : World) (ok : Bool) : (Instr.typeAssert (.iface t v) ty asserted ok).run P w = if t = asserted then .ok (if ok then .tuple #[v, .bool true] else v) w else (Instr.typeAssert (.iface t v) ty asserted ok).run P w := by
  split
  · rename_i e
    subst e
    unfold notIfc at ht
    cases hu : P.underlying t with
    | none => rw [hu] at ht; cases ht
    | some u =>
      rw [hu] at ht
      simp only [Instr.typeAssert, Sem.run_bind, run_underlying hu, Result.andThen_ok]
      cases u <;> first | (cases ht; done) | (simp; rfl) | simp
  · rfl
theorem op_assertY {tx : TypeId} (s : NxF P n l E L Ls ⟨some d, .typeAssert x tx t true, ty, pos, aft, g⟩ X Y) (ht : notIfc P t = true) (hx : ev l x = some (.iface t v)) (hn : Nat.ble (d + 1) n = true) (h : At n ((d, .tuple #[v, .bool true]) :: l) E L Y) : At n l E L X :=
  op_val s (fun a w hf _ => by simp only [execOp, hf.eval hx, Sem.run_bind]; rw [run_assert ht]; simp) rfl hn h
theorem op_assert1 {tx : TypeId} (s : NxF P n l E L Ls ⟨some d, .typeAssert x tx t false, ty, pos, aft, g⟩ X Y) (ht : notIfc P t = true) (hx : ev l x = some (.iface t v)) (hn : Nat.ble (d + 1) n = true) (h : At n ((d, v) :: l) E L Y) : At n l E L X :=
  op_val s (fun a w hf _ => by simp only [execOp, hf.eval hx, Sem.run_bind]; rw [run_assert ht]; simp) rfl hn h
theorem op_assertN {tx : TypeId} {zv : Value} (s : NxF P n l E L Ls ⟨some d, .typeAssert x tx t true, ty, pos, aft, g⟩ X Y) (ht : notIfc P t = true) (hz : zer P t = some zv) (hx : ev l x = some (.iface t' v)) (hne : (t' == t) = false) (hn : Nat.ble (d + 1) n = true) (h : At n ((d, .tuple #[zv, .bool false]) :: l) E L Y) : At n l E L X :=
  op_val s (fun a w hf _ => by
    obtain ⟨i, hi, hiz⟩ := Option.bind_eq_some_iff.1 hz
    have hzr : (zeroValue t).run P w = .ok zv w := by simp [zeroValue, typeInfo, hi, hiz]
    have hne' : ¬ t' = t := by simpa using hne
    unfold notIfc at ht
    cases hu : P.underlying t with
    | none => rw [hu] at ht; cases ht
    | some u =>
      rw [hu] at ht
      simp only [execOp, hf.eval hx, Instr.typeAssert, Sem.run_bind, run_underlying hu, Result.andThen_ok]
      cases u <;> first | (cases ht; done) | (simp [hne', hzr])) rfl hn h
theorem run_equal_iface_nil (ht : isIfc P t = true) (w : World) : (Op.equal t (.iface t' v) .nilIface).run P w = .ok false w := by
  unfold isIfc at ht
  cases hu : P.underlying t with
  | none => rw [hu] at ht; cases ht
  | some u =>
    rw [hu] at ht
    unfold Op.equal
    show (Op.equalIn (9999 + 1) t _ _).run P w = _
    unfold Op.equalIn
    rw [Sem.run_bind, run_underlying hu]
    cases u <;> first | (cases ht; done) | rfl
theorem run_equal_nil_nil (ht : isIfc P t = true) (w : World) : (Op.equal t .nilIface .nilIface).run P w = .ok true w := by
  unfold isIfc at ht
  cases hu : P.underlying t with
  | none => rw [hu] at ht; cases ht
  | some u =>
    rw [hu] at ht
    unfold Op.equal
    show (Op.equalIn (9999 + 1) t _ _).run P w = _
    unfold Op.equalIn
    rw [Sem.run_bind, run_underlying hu]
    cases u <;> first | (cases ht; done) | rfl
/-- x == nil, x an interface that holds something, or nil. -/
theorem op_eqNilF (s : NxF P n l E L Ls ⟨some d, .binOp .eql t x (.const .nilIface) t', ty, pos, aft, g⟩ X Y) (ht : isIfc P t = true) (hx : ev l x = some (.iface e v)) (hn : Nat.ble (d + 1) n = true) (h : At n ((d, .bool false) :: l) E L Y) : At n l E L X :=
  op_bin s hx rfl (fun w => by simp [eqGuard]) (fun w => by simp [binOp, run_equal_iface_nil ht]) hn h
theorem op_eqNilT (s : NxF P n l E L Ls ⟨some d, .binOp .eql t x (.const .nilIface) t', ty, pos, aft, g⟩ X Y) (ht : isIfc P t = true) (hx : ev l x = some .nilIface) (hn : Nat.ble (d + 1) n = true) (h : At n ((d, .bool true) :: l) E L Y) : At n l E L X :=
  op_bin s hx rfl (fun w => by simp [eqGuard]) (fun w => by simp [binOp, run_equal_nil_nil ht]) hn h
theorem op_nilChk {ad : Addr} (s : NxF P n l E L Ls ⟨some d, .nilCheck x, ty, pos, aft, g⟩ X Y) (hx : ev l x = some (.pointer (some ad))) (hn : Nat.ble (d + 1) n = true) (h : At n ((d, .pointer (some ad)) :: l) E L Y) : At n l E L X :=
  op_val s (fun a w hf _ => by simp [execOp, hf.eval hx]) rfl hn h
/-- []byte of a literal: the block is marked, the bytes stand. -/
theorem op_convB (s : Nx P n l E L ⟨some d, .convert t t x, ty, pos, aft, g⟩ X Y) (ht : P.underlying t = some (.slice e)) (he : P.underlying e = some (.int .u8)) (hx : ev l x = some (.slice ao len cap)) (hr : Row N t' 1 ao len cap xs) (h0 : 0 < len) (sel : L.Perm (N :: L1)) (hn : Nat.ble (d + 1) n = true)
    (h : ∀ N, RSl N 1 ao len cap xs → At n ((d, .slice ao len cap) :: l) E (N :: L1) Y) : At n l E L X := by
  refine op_upd s (fun v L' => ∃ N, v = .slice ao len cap ∧ L' = N :: L1 ∧ RSl N 1 ao len cap xs) (fun a w hf hw => ?_) rfl hn (fun v L' ⟨N, hv, hL, hB⟩ => by subst hv; subst hL; exact h N hB)
  have hw2 := hw.perm sel
  have hr' := hr
  obtain ⟨h1, h2, h3, ⟨rfl, hz, _⟩ | ⟨b, cur, rfl, hN, hcs, htk⟩⟩ := hr
  · omega
  have hheap : w.heap[b]? = some (.cells cur t' (0, 0)) := hw2.sub N (List.mem_cons_self ..) _ _ hN
  let w' := w.freeze ⟨b, cur.size, none⟩ 1
  have hnew : w'.heap[b]? = some (.cells cur t' (cur.size, cur.size + 1)) := by
    simp only [w', World.freeze]
    simp [Array.getElem?_modify, hheap]
  have hold : ∀ k, k ≠ b → k < w.heap.size → w'.heap[k]? = w.heap[k]? := fun k hk _ => by
    simp only [w', World.freeze]
    simp [Array.getElem?_modify, Ne.symm hk]
  refine ⟨_, w', _, ?_, hw2.put (o' := .cells cur t' (cur.size, cur.size + 1)) hN (by simp [w', World.freeze]) (by simp [w', World.freeze]) (by simp [w', World.freeze]) hnew hold, _, rfl, rfl, ?_⟩
  · simp only [execOp, hf.eval hx, convert, Sem.run_bind, run_underlying ht, Result.andThen_ok, run_underlying he]
    have hm : (markStringish ⟨b, 0, none⟩).run P w = .ok () w' := by
      have hsh : w.shape? b = some (t', cur.size) := by simp [World.shape?, hheap]
      simp [markStringish, shape, freeze, Sem.run, hsh, w']
    simp [hm]
  · have hs := hr'.rsl
    obtain ⟨a1, a2, a3, a4⟩ := hs
    refine ⟨a1, a2, a3, fun hp => ?_⟩
    obtain ⟨b', off', e', hrg⟩ := a4 hp
    refine ⟨b', off', e', fun i hi => ?_⟩
    have := hrg i hi
    simp only [Option.some.injEq, Addr.mk.injEq] at e'
    obtain ⟨rfl, rfl, _⟩ := e'
    unfold cellOf at this ⊢
    rw [hN] at this
    rw [upd_self]
    exact this
end
end Go.Proofs.YtdplcfineaikjaaDoor
