/- Several texts in one: see the remarks ahead of each part. No condition but those told there. -/
import Derived.Test.YtlkjfbfenpkmhaaDoorU4
import Derived.Laws.CopyRow
import Derived.Laws.IdiomCopy
import Derived.Laws.Externs
import Derived.Test.YtlkjfbfenpkmhaaDoorU2
import Derived.Lib.Hide
/- The engine, part 12: words' other operations, copy, functions as values. For whatever program. No condition. -/
namespace Go.Proofs.YtlkjfbfenpkmhaaDoor
set_option linter.unusedVariables false
set_option linter.unusedSimpArgs false
open Go Go.RowKit
theorem ofInt_u64 (x : UInt64) : BitVec.ofInt 64 (x.toNat : Int) = x.toBitVec := by
  apply BitVec.eq_of_toNat_eq
  rw [BitVec.toNat_ofInt, UInt64.toNat_toBitVec]
  have := x.toNat_lt
  omega
theorem bits_andNot_u64 (x y : UInt64) : bits .andNot .u64 (x.toNat : Int) (y.toNat : Int) = ((x &&& ~~~y).toNat : Int) := by
  have e : bits .andNot .u64 (x.toNat : Int) (y.toNat : Int) = IntKind.u64.wrap ((BitVec.ofInt 64 (x.toNat : Int) &&& ~~~(BitVec.ofInt 64 (y.toNat : Int))).toNat : Int) := rfl
  rw [e, ofInt_u64, ofInt_u64, IntKind.wrap_u64]
  have h : (x.toBitVec &&& ~~~y.toBitVec).toNat = (x &&& ~~~y).toNat := rfl
  rw [h]
  have := (x &&& ~~~y).toNat_lt
  omega
theorem bits_comp_u64 (x : UInt64) : bits .xor .u64 18446744073709551615 (x.toNat : Int) = ((~~~x).toNat : Int) := by
  have h := bits_xor_u64 18446744073709551615 x
  have e : ((18446744073709551615 : UInt64).toNat : Int) = 18446744073709551615 := rfl
  rw [e] at h
  rw [h]
  congr 2
section
variable {P : Program} {n : Nat} {l : List (Nat × Value)} {E : World} {L L1 Ls : List Heaplet} {o : Oper} {X Y : Act → World → Prop} {N M : Heaplet}
variable {d : Nat} {ty t t' t2 e e2 : TypeId} {pos : String} {aft : Array Edge} {g : Option (Nat × Bool)} {v : Value} {x y z : Operand} {k : IntKind} {p q : Int} {b off : Nat}
theorem op_andNotU {a b : UInt64} (s : NxF P n l E L Ls ⟨some d, .binOp .andNot t x y t', ty, pos, aft, g⟩ X Y) (hx : ev l x = some (.int .u64 (a.toNat : Int))) (hy : ev l y = some (.int .u64 (b.toNat : Int))) (hn : Nat.ble (d + 1) n = true) (h : At n ((d, .int .u64 ((a &&& ~~~b).toNat : Int)) :: l) E L Y) : At n l E L X :=
  op_bits (.inr (.inr (.inr rfl))) s hx hy hn (by rw [bits_andNot_u64]; exact h)
theorem op_compU {a : UInt64} (s : NxF P n l E L Ls ⟨some d, .unOp .xor t x, ty, pos, aft, g⟩ X Y) (hx : ev l x = some (.int .u64 (a.toNat : Int))) (hn : Nat.ble (d + 1) n = true) (h : At n ((d, .int .u64 ((~~~a).toNat : Int)) :: l) E L Y) : At n l E L X :=
  op_val s (fun a' w hf _ => by
    simp only [execOp, hf.eval hx, Op.unary]
    have e : Op.intBits .xor .u64 (if IntKind.u64.signed = true then -1 else IntKind.u64.max) (a.toNat : Int) = (pure (.int .u64 ((~~~a).toNat : Int)) : Sem Value) := by
      rw [intBits_xor, ← bits_comp_u64]; rfl
    rw [e]; rfl) rfl hn h
theorem op_quoU {a b : UInt64} (s : NxF P n l E L Ls ⟨some d, .binOp .quo t x y t', ty, pos, aft, g⟩ X Y) (hx : ev l x = some (.int .u64 (a.toNat : Int))) (hy : ev l y = some (.int .u64 (b.toNat : Int))) (hb : b.toNat ≠ 0) (hn : Nat.ble (d + 1) n = true) (h : At n ((d, .int .u64 ((a / b).toNat : Int)) :: l) E L Y) : At n l E L X :=
  op_int s hx hy (fun w => by
    have e : (b.toNat : Int) ≠ 0 := by omega
    have e1 : (a.toNat : Int).tdiv b.toNat = ((a / b).toNat : Int) := by
      rw [Int.tdiv_eq_ediv_of_nonneg (by omega), UInt64.toNat_div]; simp
    have e2 : IntKind.u64.wrap ((a / b).toNat : Int) = ((a / b).toNat : Int) := by
      rw [IntKind.wrap_u64]; have := (a / b).toNat_lt; omega
    have e0 : binOp .quo t (.int .u64 (a.toNat : Int)) (.int .u64 (b.toNat : Int)) = Op.intDiv .quo .u64 (a.toNat : Int) (b.toNat : Int) := by simp [binOp]
    rw [e0]
    unfold Op.intDiv
    rw [if_neg e]
    simp only [Sem.run_pure, e1, e2]) hn h
theorem op_remU {a b : UInt64} (s : NxF P n l E L Ls ⟨some d, .binOp .rem t x y t', ty, pos, aft, g⟩ X Y) (hx : ev l x = some (.int .u64 (a.toNat : Int))) (hy : ev l y = some (.int .u64 (b.toNat : Int))) (hb : b.toNat ≠ 0) (hn : Nat.ble (d + 1) n = true) (h : At n ((d, .int .u64 ((a % b).toNat : Int)) :: l) E L Y) : At n l E L X :=
  op_rem s hx hy (by omega) (by omega) hn (by
    rw [show (a.toNat : Int) % b.toNat = ((a % b).toNat : Int) from by rw [UInt64.toNat_mod]; simp]
    exact h)
/-- copy into a block that is known whole. -/
theorem op_copyB {cs ys : List Value} {dl dc m cap' : Nat} {ao' : Option Addr} (s : Nx P n l E L ⟨some d, .call ⟨.builtin .copy, #[x, y], #[t, t2]⟩, ty, pos, aft, g⟩ X Y) (ht : selt P t = some (e, 1))
    (hx : ev l x = some (.slice (some ⟨b, off, none⟩) dl dc)) (hy : ev l y = some (.slice ao' m cap')) (hb : Blk N b e2 cs) (hs : RSl M 1 ao' m cap' ys) (hM : M ∈ L) (h1 : ∀ u ∈ ys, u.oneCell' = true) (hfit : off + min m dl ≤ cs.length) (sel : L.Perm (N :: L1)) (hn : Nat.ble (d + 1) n = true)
    (h : ∀ N', Blk N' b e2 (cs.take off ++ ys.take (min m dl) ++ cs.drop (off + min m dl)) → At n ((d, .int .i64 ((min m dl : Nat) : Int)) :: l) E (N' :: L1) Y) : At n l E L X := by
  obtain ⟨hu, i, hi, hsz⟩ := selt_spec ht
  have hlen : ys.length = m := hs.len
  refine op_upd s (fun v L' => ∃ N', v = .int .i64 ((min m dl : Nat) : Int) ∧ L' = N' :: L1 ∧ Blk N' b e2 (cs.take off ++ ys.take (min m dl) ++ cs.drop (off + min m dl))) (fun a w hf hw => ?_) rfl hn (fun v L' ⟨N', e1, e2, hb'⟩ => by subst e1 e2; exact h N' hb')
  have hw2 := hw.perm sel
  have hheap := hw2.sub N (List.mem_cons_self ..) _ _ hb
  have hres : ∀ u w', (Builtin.copy_ #[t, t2] ty #[.slice (some ⟨b, off, none⟩) dl dc, .slice ao' m cap']).run P w = .ok u w' → (execOp a.eval ⟨some d, .call ⟨.builtin .copy, #[x, y], #[t, t2]⟩, ty, pos, aft, g⟩).run P w = .ok (.value u) w' := fun u w' hr => by
    simp only [execOp, resolve, invoke, builtin, Sem.run_bind, Sem.run_pure, Result.andThen_ok, List.map_toArray, List.map_cons, List.map_nil, hf.eval hx, hf.eval hy, hr]
  by_cases h0 : min m dl = 0
  · have hr := run_copy_none (P := P) w t t2 ty e (some ⟨b, off, none⟩) ao' dl dc m cap' hu (by rw [hi]; simp [hsz]) h0
    refine ⟨_, w, N :: L1, hres _ _ hr, hw2, N, by rw [h0]; rfl, rfl, ?_⟩
    rw [h0, List.take_zero, List.append_nil, Nat.add_zero, List.take_append_drop]; exact hb
  · obtain ⟨b', off', rfl, hr'⟩ := hs.2.2.2 (by omega)
    have hsrc : ∀ j v, (ys.take (min m dl))[j]? = some v → w.cell? ((⟨b', off', none⟩ : Addr).add j) = some v := fun j v hj => by
      rw [List.getElem?_take] at hj
      split at hj
      · obtain ⟨hlt, rfl⟩ := List.getElem?_eq_some_iff.1 hj
        rw [addr_add]; exact hw.cell hM (hr' j hlt)
      · cases hj
    have hlt : (ys.take (min m dl)).length = min m dl := by rw [List.length_take]; omega
    have hr := run_copy_row (P := P) w t t2 ty e b off dl dc ⟨b', off', none⟩ m cap' cs.toArray e2 (ys.take (min m dl)) hu (by rw [hi]; simp [hsz]) hheap (by rw [hlt]) hsrc (by rw [hlt]; simpa using hfit) (fun u hu => h1 u (List.mem_of_mem_take hu))
    rw [hlt] at hr
    refine ⟨_, _, upd N b (.cells (cs.take off ++ ys.take (min m dl) ++ cs.drop (off + min m dl)).toArray e2 (0, 0)) :: L1, hres _ _ hr, ?_, _, rfl, rfl, upd_self _ _ _⟩
    refine hw2.put hb rfl rfl rfl ?_ (fun k hk _ => ?_)
    · have := setRow_heap w b cs.toArray (cs.take off ++ ys.take (min m dl) ++ cs.drop (off + min m dl)).toArray e2 (0, 0) hheap
      simpa using this
    · simp only [World.setRow, Array.getElem?_modify, if_neg (Ne.symm hk)]
/-- copy into a slice that owns its block. -/
theorem op_copyR {xs ys : List Value} {dl dc m cap' : Nat} {ao ao' : Option Addr} (s : Nx P n l E L ⟨some d, .call ⟨.builtin .copy, #[x, y], #[t, t2]⟩, ty, pos, aft, g⟩ X Y) (ht : selt P t = some (e, 1))
    (hx : ev l x = some (.slice ao dl dc)) (hy : ev l y = some (.slice ao' m cap')) (hb : Row N e2 1 ao dl dc xs) (hs : RSl M 1 ao' m cap' ys) (hM : M ∈ L) (h1 : ∀ u ∈ ys, u.oneCell' = true) (sel : L.Perm (N :: L1)) (hn : Nat.ble (d + 1) n = true)
    (h : ∀ N', Row N' e2 1 ao dl dc (ys.take (min m dl) ++ xs.drop (min m dl)) → At n ((d, .int .i64 ((min m dl : Nat) : Int)) :: l) E (N' :: L1) Y) : At n l E L X := by
  obtain ⟨hu, i, hi, hsz⟩ := selt_spec ht
  have hlen : ys.length = m := hs.len
  have hxl : xs.length = dl := hb.rsl.len
  refine op_upd s (fun v L' => ∃ N', v = .int .i64 ((min m dl : Nat) : Int) ∧ L' = N' :: L1 ∧ Row N' e2 1 ao dl dc (ys.take (min m dl) ++ xs.drop (min m dl))) (fun a w hf hw => ?_) rfl hn (fun v L' ⟨N', e1, e2, hb'⟩ => by subst e1 e2; exact h N' hb')
  have hw2 := hw.perm sel
  have hres : ∀ u w', (Builtin.copy_ #[t, t2] ty #[.slice ao dl dc, .slice ao' m cap']).run P w = .ok u w' → (execOp a.eval ⟨some d, .call ⟨.builtin .copy, #[x, y], #[t, t2]⟩, ty, pos, aft, g⟩).run P w = .ok (.value u) w' := fun u w' hr => by
    simp only [execOp, resolve, invoke, builtin, Sem.run_bind, Sem.run_pure, Result.andThen_ok, List.map_toArray, List.map_cons, List.map_nil, hf.eval hx, hf.eval hy, hr]
  by_cases h0 : min m dl = 0
  · have hr := run_copy_none (P := P) w t t2 ty e ao ao' dl dc m cap' hu (by rw [hi]; simp [hsz]) h0
    refine ⟨_, w, N :: L1, hres _ _ hr, hw2, N, by rw [h0]; rfl, rfl, ?_⟩
    rw [h0, List.take_zero, List.nil_append, List.drop_zero]; exact hb
  · obtain ⟨b', off', rfl, hr'⟩ := hs.2.2.2 (by omega)
    obtain ⟨r1, r2, r3, r4⟩ := hb
    rcases r4 with ⟨_, h5, _⟩ | ⟨b, cur, rfl, hN, hcs, htk⟩
    · omega
    have hheap := hw2.sub N (List.mem_cons_self ..) _ _ hN
    have hsrc : ∀ j v, (ys.take (min m dl))[j]? = some v → w.cell? ((⟨b', off', none⟩ : Addr).add j) = some v := fun j v hj => by
      rw [List.getElem?_take] at hj
      split at hj
      · obtain ⟨hlt, rfl⟩ := List.getElem?_eq_some_iff.1 hj
        rw [addr_add]; exact hw.cell hM (hr' j hlt)
      · cases hj
    have hlt : (ys.take (min m dl)).length = min m dl := by rw [List.length_take]; omega
    have hr := run_copy_row (P := P) w t t2 ty e b 0 dl dc ⟨b', off', none⟩ m cap' cur e2 (ys.take (min m dl)) hu (by rw [hi]; simp [hsz]) hheap (by rw [hlt]) hsrc (by rw [hlt, hcs]; omega) (fun u hu => h1 u (List.mem_of_mem_take hu))
    rw [hlt, List.take_zero, List.nil_append, Nat.zero_add] at hr
    have hcl : cur.toList.length = dc := by simpa using hcs
    refine ⟨_, _, upd N b (.cells (ys.take (min m dl) ++ cur.toList.drop (min m dl)).toArray e2 (0, 0)) :: L1, hres _ _ hr, ?_, _, rfl, rfl, ⟨by simp; omega, r2, r3, .inr ⟨b, _, rfl, upd_self _ _ _, by simp; omega, ?_⟩⟩⟩
    · refine hw2.put hN rfl rfl rfl ?_ (fun k hk _ => ?_)
      · exact setRow_heap w b cur (ys.take (min m dl) ++ cur.toList.drop (min m dl)).toArray e2 (0, 0) hheap
      · simp only [World.setRow, Array.getElem?_modify, if_neg (Ne.symm hk)]
    · rw [← htk, Nat.mul_one, List.take_append, hlt, List.take_of_length_le (by omega : (ys.take (min m dl)).length ≤ dl), List.drop_take]
/-- A call of a function that the model answers itself. -/
theorem op_ext {f : FuncId} {xs : List Operand} {args : List Value} {ats : Array TypeId} (s : NxA P n l E L ⟨some d, .call ⟨.value (.func f), xs.toArray, ats⟩, ty, pos, aft, g⟩ X Y)
    (ha : Evs l xs args) (hr : ∀ w, (callFunc f args.toArray).run P w = .ok (.value v) w) (hn : Nat.ble (d + 1) n = true) (h : At n ((d, v) :: l) E L Y) : At n l E L X := fun a w hf hw => by
  refine s a w hf hw ?_
  unfold Oper.wp
  have hrun : (execOp a.eval ⟨some d, .call ⟨.value (.func f), xs.toArray, ats⟩, ty, pos, aft, g⟩).run P w = .ok (.value v) w := by
    have he : a.eval (.func f) = .func (.func f) #[] #[] := rfl
    simp only [execOp, resolve, invoke, Sem.run_bind, Sem.run_pure, Result.andThen_ok, List.map_toArray, ha.map hf, he, Deferred.ofValue, Array.empty_append, Array.append_empty, hr]
  rw [hrun]
  exact ⟨fun _ _ => rfl, h _ _ (hf.put (Nat.le_of_ble_eq_true hn)) hw⟩
/-! Functions as values. -/
inductive Cps (l : List (Nat × Value)) : List Operand → List Value → Prop
  | nil : Cps l [] []
  | cons {x : Operand} {v : Value} {xs : List Operand} {vs : List Value} (h : ev l x = some v) (k : Cps l xs vs) : Cps l (x :: xs) (v :: vs)
theorem Cps.map {xs : List Operand} {vs : List Value} (h : Cps l xs vs) {a : Act} (hf : Fr n l a) : xs.map a.eval = vs := by
  induction h with
  | nil => rfl
  | cons hx _ ih => rw [List.map_cons, hf.eval hx, ih]
theorem op_mkF {fn : Go.Fn} {first caps : List Operand} {fs cs : List Value} (s : NxF P n l E L Ls ⟨some d, .makeFunc fn first.toArray caps.toArray, ty, pos, aft, g⟩ X Y) (h1 : Cps l first fs) (h2 : Cps l caps cs) (hn : Nat.ble (d + 1) n = true) (h : At n ((d, .func fn fs.toArray cs.toArray) :: l) E L Y) : At n l E L X :=
  op_val s (fun a w hf _ => by
    simp [execOp, Instr.makeFunc, List.map_toArray, h1.map hf, h2.map hf]) rfl hn h
theorem op_callV {f : FuncId} {fn : Func} {c : Operand} {xs : List Operand} {args caps : List Value} {ats : Array TypeId} {L0 Lr F : List Heaplet} {Post : Value → List Heaplet → Prop} (s : Nx P n l E L ⟨some d, .call ⟨.value c, xs.toArray, ats⟩, ty, pos, aft, g⟩ X Y)
    (hcv : ev l c = some (.func (.func f) #[] caps.toArray)) (ha : Evs l xs args) (hc : Fn P f (args ++ caps).toArray L0 Lr Post) (hfn : P.funcs[f]? = some fn) (hb : fn.body.isSome = true) (hne : (fn.name == "runtime.NumGoroutine") = false) (hL : L.Perm (L0 ++ F)) (hr : ∀ N ∈ Lr, N ∈ F) (hn : Nat.ble (d + 1) n = true)
    (h : ∀ v L1, Post v L1 → At n ((d, v) :: l) E (L1 ++ F) Y) : At n l E L X := fun a w hf hw => by
  refine s a w hf hw ?_
  unfold Oper.wp
  have hw2 := hw.perm hL
  have hrun : (execOp a.eval ⟨some d, .call ⟨.value c, xs.toArray, ats⟩, ty, pos, aft, g⟩).run P w = .ok (.enter f (args ++ caps).toArray) w := by
    have hne' : fn.name ≠ "runtime.NumGoroutine" := by simpa using hne
    have he := hf.eval hcv
    have hap : args.toArray ++ caps.toArray = (args ++ caps).toArray := by simp
    simp only [execOp, resolve, invoke, Sem.run_bind, Sem.run_pure, Result.andThen_ok, List.map_toArray, ha.map hf, he, Deferred.ofValue, Array.empty_append, hap, run_call hfn hb hne']
  rw [hrun]
  have hsep := List.pairwise_append.1 hw2.sep
  let R : Heaplet := fun k => if ∃ N ∈ L0, N k ≠ none then none else w.heap[k]?
  have hRw : R.le (whole w) := fun k o hk => by
    simp only [R] at hk
    split at hk
    · cases hk
    · exact hk
  have hFR : ∀ N ∈ F, N.le R := fun N hN k o hk => by
    have hno : ¬ ∃ M ∈ L0, M k ≠ none := by
      rintro ⟨M, hM, hMk⟩
      rcases hsep.2.2 M hM N hN k with h | h
      · exact hMk h
      · rw [hk] at h; cases h
    simp only [R, if_neg hno]
    exact hw2.sub N (List.mem_append_right _ hN) k o hk
  have hwR : Hp E (L0 ++ [R]) w := by
    refine ⟨hw.os, hw.tape, hw.output, fun N hN => ?_, ?_⟩
    · rcases List.mem_append.1 hN with hN | hN
      · exact hw2.sub N (List.mem_append_left _ hN)
      · simp at hN; subst hN; exact hRw
    · rw [List.pairwise_append]
      refine ⟨hsep.1, by simp, fun A hA B hB k => ?_⟩
      simp at hB; subst hB
      by_cases hAk : A k = none
      · exact .inl hAk
      · exact .inr (if_pos ⟨A, hA, hAk⟩)
  refine Calls.mono (hc E w R hwR fun N hN => hFR N (hr N hN)) ?_
  rintro e w' ⟨v, L1, rfl, hP, hw'⟩
  exact h v L1 hP _ _ (hf.put (Nat.le_of_ble_eq_true hn)) (hw'.refine hFR hsep.2.1)
end
end Go.Proofs.YtlkjfbfenpkmhaaDoor
/- The engine, part 13: longer lists of heaplets. For whatever program. No condition. -/
namespace Go.Proofs.YtlkjfbfenpkmhaaDoor
set_option linter.unusedVariables false
set_option linter.unusedSimpArgs false
open Go
theorem sel13 {A0 A1 A2 A3 A4 A5 A6 A7 A8 A9 A10 A11 A12 A13 : Heaplet} {L : List Heaplet} : (A1 :: A2 :: A3 :: A4 :: A5 :: A6 :: A7 :: A8 :: A9 :: A10 :: A11 :: A12 :: A13 :: A0 :: L).Perm (A0 :: A1 :: A2 :: A3 :: A4 :: A5 :: A6 :: A7 :: A8 :: A9 :: A10 :: A11 :: A12 :: A13 :: L) := (List.Perm.cons _ sel12).trans (.swap _ _ _)
theorem sel14 {A0 A1 A2 A3 A4 A5 A6 A7 A8 A9 A10 A11 A12 A13 A14 : Heaplet} {L : List Heaplet} : (A1 :: A2 :: A3 :: A4 :: A5 :: A6 :: A7 :: A8 :: A9 :: A10 :: A11 :: A12 :: A13 :: A14 :: A0 :: L).Perm (A0 :: A1 :: A2 :: A3 :: A4 :: A5 :: A6 :: A7 :: A8 :: A9 :: A10 :: A11 :: A12 :: A13 :: A14 :: L) := (List.Perm.cons _ sel13).trans (.swap _ _ _)
theorem sel15 {A0 A1 A2 A3 A4 A5 A6 A7 A8 A9 A10 A11 A12 A13 A14 A15 : Heaplet} {L : List Heaplet} : (A1 :: A2 :: A3 :: A4 :: A5 :: A6 :: A7 :: A8 :: A9 :: A10 :: A11 :: A12 :: A13 :: A14 :: A15 :: A0 :: L).Perm (A0 :: A1 :: A2 :: A3 :: A4 :: A5 :: A6 :: A7 :: A8 :: A9 :: A10 :: A11 :: A12 :: A13 :: A14 :: A15 :: L) := (List.Perm.cons _ sel14).trans (.swap _ _ _)
theorem sel16 {A0 A1 A2 A3 A4 A5 A6 A7 A8 A9 A10 A11 A12 A13 A14 A15 A16 : Heaplet} {L : List Heaplet} : (A1 :: A2 :: A3 :: A4 :: A5 :: A6 :: A7 :: A8 :: A9 :: A10 :: A11 :: A12 :: A13 :: A14 :: A15 :: A16 :: A0 :: L).Perm (A0 :: A1 :: A2 :: A3 :: A4 :: A5 :: A6 :: A7 :: A8 :: A9 :: A10 :: A11 :: A12 :: A13 :: A14 :: A15 :: A16 :: L) := (List.Perm.cons _ sel15).trans (.swap _ _ _)
theorem sel17 {A0 A1 A2 A3 A4 A5 A6 A7 A8 A9 A10 A11 A12 A13 A14 A15 A16 A17 : Heaplet} {L : List Heaplet} : (A1 :: A2 :: A3 :: A4 :: A5 :: A6 :: A7 :: A8 :: A9 :: A10 :: A11 :: A12 :: A13 :: A14 :: A15 :: A16 :: A17 :: A0 :: L).Perm (A0 :: A1 :: A2 :: A3 :: A4 :: A5 :: A6 :: A7 :: A8 :: A9 :: A10 :: A11 :: A12 :: A13 :: A14 :: A15 :: A16 :: A17 :: L) := (List.Perm.cons _ sel16).trans (.swap _ _ _)
theorem sel18 {A0 A1 A2 A3 A4 A5 A6 A7 A8 A9 A10 A11 A12 A13 A14 A15 A16 A17 A18 : Heaplet} {L : List Heaplet} : (A1 :: A2 :: A3 :: A4 :: A5 :: A6 :: A7 :: A8 :: A9 :: A10 :: A11 :: A12 :: A13 :: A14 :: A15 :: A16 :: A17 :: A18 :: A0 :: L).Perm (A0 :: A1 :: A2 :: A3 :: A4 :: A5 :: A6 :: A7 :: A8 :: A9 :: A10 :: A11 :: A12 :: A13 :: A14 :: A15 :: A16 :: A17 :: A18 :: L) := (List.Perm.cons _ sel17).trans (.swap _ _ _)
theorem sel19 {A0 A1 A2 A3 A4 A5 A6 A7 A8 A9 A10 A11 A12 A13 A14 A15 A16 A17 A18 A19 : Heaplet} {L : List Heaplet} : (A1 :: A2 :: A3 :: A4 :: A5 :: A6 :: A7 :: A8 :: A9 :: A10 :: A11 :: A12 :: A13 :: A14 :: A15 :: A16 :: A17 :: A18 :: A19 :: A0 :: L).Perm (A0 :: A1 :: A2 :: A3 :: A4 :: A5 :: A6 :: A7 :: A8 :: A9 :: A10 :: A11 :: A12 :: A13 :: A14 :: A15 :: A16 :: A17 :: A18 :: A19 :: L) := (List.Perm.cons _ sel18).trans (.swap _ _ _)
theorem sel20 {A0 A1 A2 A3 A4 A5 A6 A7 A8 A9 A10 A11 A12 A13 A14 A15 A16 A17 A18 A19 A20 : Heaplet} {L : List Heaplet} : (A1 :: A2 :: A3 :: A4 :: A5 :: A6 :: A7 :: A8 :: A9 :: A10 :: A11 :: A12 :: A13 :: A14 :: A15 :: A16 :: A17 :: A18 :: A19 :: A20 :: A0 :: L).Perm (A0 :: A1 :: A2 :: A3 :: A4 :: A5 :: A6 :: A7 :: A8 :: A9 :: A10 :: A11 :: A12 :: A13 :: A14 :: A15 :: A16 :: A17 :: A18 :: A19 :: A20 :: L) := (List.Perm.cons _ sel19).trans (.swap _ _ _)
theorem sel21 {A0 A1 A2 A3 A4 A5 A6 A7 A8 A9 A10 A11 A12 A13 A14 A15 A16 A17 A18 A19 A20 A21 : Heaplet} {L : List Heaplet} : (A1 :: A2 :: A3 :: A4 :: A5 :: A6 :: A7 :: A8 :: A9 :: A10 :: A11 :: A12 :: A13 :: A14 :: A15 :: A16 :: A17 :: A18 :: A19 :: A20 :: A21 :: A0 :: L).Perm (A0 :: A1 :: A2 :: A3 :: A4 :: A5 :: A6 :: A7 :: A8 :: A9 :: A10 :: A11 :: A12 :: A13 :: A14 :: A15 :: A16 :: A17 :: A18 :: A19 :: A20 :: A21 :: L) := (List.Perm.cons _ sel20).trans (.swap _ _ _)
theorem sel22 {A0 A1 A2 A3 A4 A5 A6 A7 A8 A9 A10 A11 A12 A13 A14 A15 A16 A17 A18 A19 A20 A21 A22 : Heaplet} {L : List Heaplet} : (A1 :: A2 :: A3 :: A4 :: A5 :: A6 :: A7 :: A8 :: A9 :: A10 :: A11 :: A12 :: A13 :: A14 :: A15 :: A16 :: A17 :: A18 :: A19 :: A20 :: A21 :: A22 :: A0 :: L).Perm (A0 :: A1 :: A2 :: A3 :: A4 :: A5 :: A6 :: A7 :: A8 :: A9 :: A10 :: A11 :: A12 :: A13 :: A14 :: A15 :: A16 :: A17 :: A18 :: A19 :: A20 :: A21 :: A22 :: L) := (List.Perm.cons _ sel21).trans (.swap _ _ _)
theorem sel23 {A0 A1 A2 A3 A4 A5 A6 A7 A8 A9 A10 A11 A12 A13 A14 A15 A16 A17 A18 A19 A20 A21 A22 A23 : Heaplet} {L : List Heaplet} : (A1 :: A2 :: A3 :: A4 :: A5 :: A6 :: A7 :: A8 :: A9 :: A10 :: A11 :: A12 :: A13 :: A14 :: A15 :: A16 :: A17 :: A18 :: A19 :: A20 :: A21 :: A22 :: A23 :: A0 :: L).Perm (A0 :: A1 :: A2 :: A3 :: A4 :: A5 :: A6 :: A7 :: A8 :: A9 :: A10 :: A11 :: A12 :: A13 :: A14 :: A15 :: A16 :: A17 :: A18 :: A19 :: A20 :: A21 :: A22 :: A23 :: L) := (List.Perm.cons _ sel22).trans (.swap _ _ _)
theorem sel24 {A0 A1 A2 A3 A4 A5 A6 A7 A8 A9 A10 A11 A12 A13 A14 A15 A16 A17 A18 A19 A20 A21 A22 A23 A24 : Heaplet} {L : List Heaplet} : (A1 :: A2 :: A3 :: A4 :: A5 :: A6 :: A7 :: A8 :: A9 :: A10 :: A11 :: A12 :: A13 :: A14 :: A15 :: A16 :: A17 :: A18 :: A19 :: A20 :: A21 :: A22 :: A23 :: A24 :: A0 :: L).Perm (A0 :: A1 :: A2 :: A3 :: A4 :: A5 :: A6 :: A7 :: A8 :: A9 :: A10 :: A11 :: A12 :: A13 :: A14 :: A15 :: A16 :: A17 :: A18 :: A19 :: A20 :: A21 :: A22 :: A23 :: A24 :: L) := (List.Perm.cons _ sel23).trans (.swap _ _ _)
theorem sel25 {A0 A1 A2 A3 A4 A5 A6 A7 A8 A9 A10 A11 A12 A13 A14 A15 A16 A17 A18 A19 A20 A21 A22 A23 A24 A25 : Heaplet} {L : List Heaplet} : (A1 :: A2 :: A3 :: A4 :: A5 :: A6 :: A7 :: A8 :: A9 :: A10 :: A11 :: A12 :: A13 :: A14 :: A15 :: A16 :: A17 :: A18 :: A19 :: A20 :: A21 :: A22 :: A23 :: A24 :: A25 :: A0 :: L).Perm (A0 :: A1 :: A2 :: A3 :: A4 :: A5 :: A6 :: A7 :: A8 :: A9 :: A10 :: A11 :: A12 :: A13 :: A14 :: A15 :: A16 :: A17 :: A18 :: A19 :: A20 :: A21 :: A22 :: A23 :: A24 :: A25 :: L) := (List.Perm.cons _ sel24).trans (.swap _ _ _)
theorem sel26 {A0 A1 A2 A3 A4 A5 A6 A7 A8 A9 A10 A11 A12 A13 A14 A15 A16 A17 A18 A19 A20 A21 A22 A23 A24 A25 A26 : Heaplet} {L : List Heaplet} : (A1 :: A2 :: A3 :: A4 :: A5 :: A6 :: A7 :: A8 :: A9 :: A10 :: A11 :: A12 :: A13 :: A14 :: A15 :: A16 :: A17 :: A18 :: A19 :: A20 :: A21 :: A22 :: A23 :: A24 :: A25 :: A26 :: A0 :: L).Perm (A0 :: A1 :: A2 :: A3 :: A4 :: A5 :: A6 :: A7 :: A8 :: A9 :: A10 :: A11 :: A12 :: A13 :: A14 :: A15 :: A16 :: A17 :: A18 :: A19 :: A20 :: A21 :: A22 :: A23 :: A24 :: A25 :: A26 :: L) := (List.Perm.cons _ sel25).trans (.swap _ _ _)
theorem sel27 {A0 A1 A2 A3 A4 A5 A6 A7 A8 A9 A10 A11 A12 A13 A14 A15 A16 A17 A18 A19 A20 A21 A22 A23 A24 A25 A26 A27 : Heaplet} {L : List Heaplet} : (A1 :: A2 :: A3 :: A4 :: A5 :: A6 :: A7 :: A8 :: A9 :: A10 :: A11 :: A12 :: A13 :: A14 :: A15 :: A16 :: A17 :: A18 :: A19 :: A20 :: A21 :: A22 :: A23 :: A24 :: A25 :: A26 :: A27 :: A0 :: L).Perm (A0 :: A1 :: A2 :: A3 :: A4 :: A5 :: A6 :: A7 :: A8 :: A9 :: A10 :: A11 :: A12 :: A13 :: A14 :: A15 :: A16 :: A17 :: A18 :: A19 :: A20 :: A21 :: A22 :: A23 :: A24 :: A25 :: A26 :: A27 :: L) := (List.Perm.cons _ sel26).trans (.swap _ _ _)
theorem sel28 {A0 A1 A2 A3 A4 A5 A6 A7 A8 A9 A10 A11 A12 A13 A14 A15 A16 A17 A18 A19 A20 A21 A22 A23 A24 A25 A26 A27 A28 : Heaplet} {L : List Heaplet} : (A1 :: A2 :: A3 :: A4 :: A5 :: A6 :: A7 :: A8 :: A9 :: A10 :: A11 :: A12 :: A13 :: A14 :: A15 :: A16 :: A17 :: A18 :: A19 :: A20 :: A21 :: A22 :: A23 :: A24 :: A25 :: A26 :: A27 :: A28 :: A0 :: L).Perm (A0 :: A1 :: A2 :: A3 :: A4 :: A5 :: A6 :: A7 :: A8 :: A9 :: A10 :: A11 :: A12 :: A13 :: A14 :: A15 :: A16 :: A17 :: A18 :: A19 :: A20 :: A21 :: A22 :: A23 :: A24 :: A25 :: A26 :: A27 :: A28 :: L) := (List.Perm.cons _ sel27).trans (.swap _ _ _)
theorem sel29 {A0 A1 A2 A3 A4 A5 A6 A7 A8 A9 A10 A11 A12 A13 A14 A15 A16 A17 A18 A19 A20 A21 A22 A23 A24 A25 A26 A27 A28 A29 : Heaplet} {L : List Heaplet} : (A1 :: A2 :: A3 :: A4 :: A5 :: A6 :: A7 :: A8 :: A9 :: A10 :: A11 :: A12 :: A13 :: A14 :: A15 :: A16 :: A17 :: A18 :: A19 :: A20 :: A21 :: A22 :: A23 :: A24 :: A25 :: A26 :: A27 :: A28 :: A29 :: A0 :: L).Perm (A0 :: A1 :: A2 :: A3 :: A4 :: A5 :: A6 :: A7 :: A8 :: A9 :: A10 :: A11 :: A12 :: A13 :: A14 :: A15 :: A16 :: A17 :: A18 :: A19 :: A20 :: A21 :: A22 :: A23 :: A24 :: A25 :: A26 :: A27 :: A28 :: A29 :: L) := (List.Perm.cons _ sel28).trans (.swap _ _ _)
theorem sel30 {A0 A1 A2 A3 A4 A5 A6 A7 A8 A9 A10 A11 A12 A13 A14 A15 A16 A17 A18 A19 A20 A21 A22 A23 A24 A25 A26 A27 A28 A29 A30 : Heaplet} {L : List Heaplet} : (A1 :: A2 :: A3 :: A4 :: A5 :: A6 :: A7 :: A8 :: A9 :: A10 :: A11 :: A12 :: A13 :: A14 :: A15 :: A16 :: A17 :: A18 :: A19 :: A20 :: A21 :: A22 :: A23 :: A24 :: A25 :: A26 :: A27 :: A28 :: A29 :: A30 :: A0 :: L).Perm (A0 :: A1 :: A2 :: A3 :: A4 :: A5 :: A6 :: A7 :: A8 :: A9 :: A10 :: A11 :: A12 :: A13 :: A14 :: A15 :: A16 :: A17 :: A18 :: A19 :: A20 :: A21 :: A22 :: A23 :: A24 :: A25 :: A26 :: A27 :: A28 :: A29 :: A30 :: L) := (List.Perm.cons _ sel29).trans (.swap _ _ _)
theorem mem14 {A0 A1 A2 A3 A4 A5 A6 A7 A8 A9 A10 A11 A12 A13 A14 : Heaplet} {L : List Heaplet} : A0 ∈ A1 :: A2 :: A3 :: A4 :: A5 :: A6 :: A7 :: A8 :: A9 :: A10 :: A11 :: A12 :: A13 :: A14 :: A0 :: L := List.Mem.tail _ mem13
theorem mem15 {A0 A1 A2 A3 A4 A5 A6 A7 A8 A9 A10 A11 A12 A13 A14 A15 : Heaplet} {L : List Heaplet} : A0 ∈ A1 :: A2 :: A3 :: A4 :: A5 :: A6 :: A7 :: A8 :: A9 :: A10 :: A11 :: A12 :: A13 :: A14 :: A15 :: A0 :: L := List.Mem.tail _ mem14
theorem mem16 {A0 A1 A2 A3 A4 A5 A6 A7 A8 A9 A10 A11 A12 A13 A14 A15 A16 : Heaplet} {L : List Heaplet} : A0 ∈ A1 :: A2 :: A3 :: A4 :: A5 :: A6 :: A7 :: A8 :: A9 :: A10 :: A11 :: A12 :: A13 :: A14 :: A15 :: A16 :: A0 :: L := List.Mem.tail _ mem15
theorem mem17 {A0 A1 A2 A3 A4 A5 A6 A7 A8 A9 A10 A11 A12 A13 A14 A15 A16 A17 : Heaplet} {L : List Heaplet} : A0 ∈ A1 :: A2 :: A3 :: A4 :: A5 :: A6 :: A7 :: A8 :: A9 :: A10 :: A11 :: A12 :: A13 :: A14 :: A15 :: A16 :: A17 :: A0 :: L := List.Mem.tail _ mem16
theorem mem18 {A0 A1 A2 A3 A4 A5 A6 A7 A8 A9 A10 A11 A12 A13 A14 A15 A16 A17 A18 : Heaplet} {L : List Heaplet} : A0 ∈ A1 :: A2 :: A3 :: A4 :: A5 :: A6 :: A7 :: A8 :: A9 :: A10 :: A11 :: A12 :: A13 :: A14 :: A15 :: A16 :: A17 :: A18 :: A0 :: L := List.Mem.tail _ mem17
theorem mem19 {A0 A1 A2 A3 A4 A5 A6 A7 A8 A9 A10 A11 A12 A13 A14 A15 A16 A17 A18 A19 : Heaplet} {L : List Heaplet} : A0 ∈ A1 :: A2 :: A3 :: A4 :: A5 :: A6 :: A7 :: A8 :: A9 :: A10 :: A11 :: A12 :: A13 :: A14 :: A15 :: A16 :: A17 :: A18 :: A19 :: A0 :: L := List.Mem.tail _ mem18
theorem mem20 {A0 A1 A2 A3 A4 A5 A6 A7 A8 A9 A10 A11 A12 A13 A14 A15 A16 A17 A18 A19 A20 : Heaplet} {L : List Heaplet} : A0 ∈ A1 :: A2 :: A3 :: A4 :: A5 :: A6 :: A7 :: A8 :: A9 :: A10 :: A11 :: A12 :: A13 :: A14 :: A15 :: A16 :: A17 :: A18 :: A19 :: A20 :: A0 :: L := List.Mem.tail _ mem19
theorem mem21 {A0 A1 A2 A3 A4 A5 A6 A7 A8 A9 A10 A11 A12 A13 A14 A15 A16 A17 A18 A19 A20 A21 : Heaplet} {L : List Heaplet} : A0 ∈ A1 :: A2 :: A3 :: A4 :: A5 :: A6 :: A7 :: A8 :: A9 :: A10 :: A11 :: A12 :: A13 :: A14 :: A15 :: A16 :: A17 :: A18 :: A19 :: A20 :: A21 :: A0 :: L := List.Mem.tail _ mem20
theorem mem22 {A0 A1 A2 A3 A4 A5 A6 A7 A8 A9 A10 A11 A12 A13 A14 A15 A16 A17 A18 A19 A20 A21 A22 : Heaplet} {L : List Heaplet} : A0 ∈ A1 :: A2 :: A3 :: A4 :: A5 :: A6 :: A7 :: A8 :: A9 :: A10 :: A11 :: A12 :: A13 :: A14 :: A15 :: A16 :: A17 :: A18 :: A19 :: A20 :: A21 :: A22 :: A0 :: L := List.Mem.tail _ mem21
theorem mem23 {A0 A1 A2 A3 A4 A5 A6 A7 A8 A9 A10 A11 A12 A13 A14 A15 A16 A17 A18 A19 A20 A21 A22 A23 : Heaplet} {L : List Heaplet} : A0 ∈ A1 :: A2 :: A3 :: A4 :: A5 :: A6 :: A7 :: A8 :: A9 :: A10 :: A11 :: A12 :: A13 :: A14 :: A15 :: A16 :: A17 :: A18 :: A19 :: A20 :: A21 :: A22 :: A23 :: A0 :: L := List.Mem.tail _ mem22
theorem mem24 {A0 A1 A2 A3 A4 A5 A6 A7 A8 A9 A10 A11 A12 A13 A14 A15 A16 A17 A18 A19 A20 A21 A22 A23 A24 : Heaplet} {L : List Heaplet} : A0 ∈ A1 :: A2 :: A3 :: A4 :: A5 :: A6 :: A7 :: A8 :: A9 :: A10 :: A11 :: A12 :: A13 :: A14 :: A15 :: A16 :: A17 :: A18 :: A19 :: A20 :: A21 :: A22 :: A23 :: A24 :: A0 :: L := List.Mem.tail _ mem23
theorem mem25 {A0 A1 A2 A3 A4 A5 A6 A7 A8 A9 A10 A11 A12 A13 A14 A15 A16 A17 A18 A19 A20 A21 A22 A23 A24 A25 : Heaplet} {L : List Heaplet} : A0 ∈ A1 :: A2 :: A3 :: A4 :: A5 :: A6 :: A7 :: A8 :: A9 :: A10 :: A11 :: A12 :: A13 :: A14 :: A15 :: A16 :: A17 :: A18 :: A19 :: A20 :: A21 :: A22 :: A23 :: A24 :: A25 :: A0 :: L := List.Mem.tail _ mem24
theorem mem26 {A0 A1 A2 A3 A4 A5 A6 A7 A8 A9 A10 A11 A12 A13 A14 A15 A16 A17 A18 A19 A20 A21 A22 A23 A24 A25 A26 : Heaplet} {L : List Heaplet} : A0 ∈ A1 :: A2 :: A3 :: A4 :: A5 :: A6 :: A7 :: A8 :: A9 :: A10 :: A11 :: A12 :: A13 :: A14 :: A15 :: A16 :: A17 :: A18 :: A19 :: A20 :: A21 :: A22 :: A23 :: A24 :: A25 :: A26 :: A0 :: L := List.Mem.tail _ mem25
theorem mem27 {A0 A1 A2 A3 A4 A5 A6 A7 A8 A9 A10 A11 A12 A13 A14 A15 A16 A17 A18 A19 A20 A21 A22 A23 A24 A25 A26 A27 : Heaplet} {L : List Heaplet} : A0 ∈ A1 :: A2 :: A3 :: A4 :: A5 :: A6 :: A7 :: A8 :: A9 :: A10 :: A11 :: A12 :: A13 :: A14 :: A15 :: A16 :: A17 :: A18 :: A19 :: A20 :: A21 :: A22 :: A23 :: A24 :: A25 :: A26 :: A27 :: A0 :: L := List.Mem.tail _ mem26
theorem mem28 {A0 A1 A2 A3 A4 A5 A6 A7 A8 A9 A10 A11 A12 A13 A14 A15 A16 A17 A18 A19 A20 A21 A22 A23 A24 A25 A26 A27 A28 : Heaplet} {L : List Heaplet} : A0 ∈ A1 :: A2 :: A3 :: A4 :: A5 :: A6 :: A7 :: A8 :: A9 :: A10 :: A11 :: A12 :: A13 :: A14 :: A15 :: A16 :: A17 :: A18 :: A19 :: A20 :: A21 :: A22 :: A23 :: A24 :: A25 :: A26 :: A27 :: A28 :: A0 :: L := List.Mem.tail _ mem27
theorem mem29 {A0 A1 A2 A3 A4 A5 A6 A7 A8 A9 A10 A11 A12 A13 A14 A15 A16 A17 A18 A19 A20 A21 A22 A23 A24 A25 A26 A27 A28 A29 : Heaplet} {L : List Heaplet} : A0 ∈ A1 :: A2 :: A3 :: A4 :: A5 :: A6 :: A7 :: A8 :: A9 :: A10 :: A11 :: A12 :: A13 :: A14 :: A15 :: A16 :: A17 :: A18 :: A19 :: A20 :: A21 :: A22 :: A23 :: A24 :: A25 :: A26 :: A27 :: A28 :: A29 :: A0 :: L := List.Mem.tail _ mem28
theorem mem30 {A0 A1 A2 A3 A4 A5 A6 A7 A8 A9 A10 A11 A12 A13 A14 A15 A16 A17 A18 A19 A20 A21 A22 A23 A24 A25 A26 A27 A28 A29 A30 : Heaplet} {L : List Heaplet} : A0 ∈ A1 :: A2 :: A3 :: A4 :: A5 :: A6 :: A7 :: A8 :: A9 :: A10 :: A11 :: A12 :: A13 :: A14 :: A15 :: A16 :: A17 :: A18 :: A19 :: A20 :: A21 :: A22 :: A23 :: A24 :: A25 :: A26 :: A27 :: A28 :: A29 :: A30 :: A0 :: L := List.Mem.tail _ mem29
end Go.Proofs.YtlkjfbfenpkmhaaDoor
/- limb.Trim: a number without zeros at its upper end. No condition. -/
namespace Go.Proofs.YtlkjfbfenpkmhaaDoor
set_option linter.unusedVariables false
set_option linter.unusedSimpArgs false
open Go Go.RowKit
theorem u64_zero {x : UInt64} (h : (x.toNat : Int) = 0) : x = 0 := by rw [← UInt64.toNat_inj]; simpa using h
theorem trim_len {l : List UInt64} {k : Nat} (hk : k ≤ l.length) (hz : ∀ i, k ≤ i → l.getD i 0 = 0) (hl : k = 0 ∨ (0 < k ∧ l.getD (k - 1) 0 ≠ 0)) : l.take k = limbsOf (v64 l) ∧ (limbsOf (v64 l)).length = k := by
  have h1 : l.take k = limbsOf (v64 l) := trim_eq hk (fun i h hki => by
    have := hz i hki
    rwa [List.getD_eq_getElem?_getD, List.getElem?_eq_getElem h] at this) (by
    rcases hl with h | ⟨h0, h⟩
    · exact .inl h
    · refine .inr ⟨by omega, ?_⟩
      rwa [List.getD_eq_getElem?_getD, List.getElem?_eq_getElem (by omega)] at h)
  exact ⟨h1, by rw [← h1, List.length_take]; omega⟩
theorem Trim_f {N : Heaplet} {ao : Option Addr} {n cap : Nat} {l : List UInt64} (h : RSl N 1 ao n cap (u64s l)) :
    Fn Tryd.prog 104 #[.slice ao n cap] [] [N] (fun v L => v = .slice ao (limbsOf (v64 l)).length (limbsOf (v64 l)).length ∧ L = [] ∧ l.take (limbsOf (v64 l)).length = limbsOf (v64 l) ∧ (limbsOf (v64 l)).length ≤ n) := by
  have hlen : l.length = n := by simpa using h.len
  have hcap := h.2.1
  have hmax := h.2.2.1
  unfold maxLen at hmax
  refine Fn.enter (vs := [.slice ao n cap]) Tryd.func104 rfl rfl rfl ?_
  intro E R hR
  have h := h.le (hR N (by simp))
  change At _ _ E [R] _
  refine At.seq fun K1 hk_1 => ?_
  refine At.region ?_
  refine op_assign (nxlf rfl) rfl rfl ?_
  refine At.opsNil ?_
  refine At.norm (hk_1 ?_)
  refine At.seq fun K2 hk_2 => ?_
  refine At.region ?_
  refine op_move (nxlf rfl) rfl rfl ?_
  refine op_lenS (nxlf rfl) se145 rfl rfl ?_
  refine op_assign (nxlf rfl) rfl rfl ?_
  refine At.opsNil ?_
  refine At.norm (hk_2 ?_)
  refine At.seq fun K3 hk_3 => ?_
  refine At.block ?_
  refine At.loop (fun fr_ hp_ ms_ => ∃ (k : Nat), fr_ = [(0, .slice ao n cap), (3, .int .i64 (k : Int))] ∧ hp_ = [R] ∧ k = ms_ ∧ (k ≤ n) ∧ (∀ i, k ≤ i → l.getD i 0 = 0)) ?_ (.refl _) ⟨n, rfl, rfl, rfl, Nat.le_refl _, fun i hi => by rw [List.getD_eq_getElem?_getD, List.getElem?_eq_none (by omega)]; rfl⟩ ?_
  · exact .cons (by first | exact lkI rfl (by omega) | rfl) (.cons (by first | exact lkI rfl (by omega) | rfl) .nil)
  rintro _ _ _ ⟨k, rfl, rfl, rfl, hk, hz⟩
  refine At.seq fun K4 hk_4 => ?_
  refine At.seq fun K5 hk_5 => ?_
  refine At.region ?_
  refine op_move (nxlf rfl) rfl rfl ?_
  refine op_gtr (nxlf rfl) rfl rfl rfl ?_
  refine op_move (nxlf rfl) rfl rfl ?_
  refine At.partP (d := 8) rfl (fun g8 => ?_) (fun g8 => ?_)
  · refine op_move (nxgf rfl rfl rfl rfl) rfl rfl ?_
    refine op_move (nxgf rfl rfl rfl rfl) rfl rfl ?_
    refine op_subI (nxgf rfl rfl rfl rfl) rfl rfl (by omega) (by omega) rfl ?_
    refine op_idx1 (nxgf rfl rfl rfl rfl) se145 rfl rfl (by assumption) (show _ = (((k - 1 : Nat)) : Int) from by omega) (by omega) rfl ?_
    refine op_loadE (nxgf rfl rfl rfl rfl) sc44 rfl (by assumption) (by first | exact get8 (by omega) | exact get64 (by omega) | exact get32 (by omega)) (by first | exact mem0 | exact mem1 | exact mem2 | exact mem3 | exact mem4 | exact mem5 | exact mem6 | exact mem7 | exact mem8 | exact mem9) rfl ?_
    refine op_eql (nxgf rfl rfl rfl rfl) rfl rfl rfl ?_
    refine op_pickT (nxlf rfl) rfl rfl rfl ?_
    refine At.opsNil ?_
    refine At.norm (hk_5 ?_)
    refine At.condP rfl (fun c15 => ?_) (fun c15 => ?_)
    · refine At.skip ?_
      refine At.norm (hk_4 ?_)
      refine At.block ?_
      refine At.region ?_
      refine op_move (nxlf rfl) rfl rfl ?_
      refine op_subI (nxlf rfl) rfl rfl (by omega) (by omega) rfl ?_
      refine op_assign (nxlf rfl) rfl rfl ?_
      refine At.opsNil ?_
      refine At.inNorm ?_
      refine At.norm ?_
      refine At.back ?_ (.refl _) ⟨k - 1, rfl, rfl, rfl, by omega, fun i hi => by rcases Nat.lt_or_ge i k with h | h; (rw [show i = k - 1 by omega]; exact u64_zero c15); exact hz i h⟩ ?_
      · exact .cons (by first | exact lkI rfl (by omega) | rfl) (.cons (by first | exact lkI rfl (by omega) | rfl) .nil)
      · omega
    · refine At.exit (At.thenExit (At.thenExit (At.inHit ?_)))
      refine At.norm (hk_3 ?_)
      refine At.seq fun K6 hk_6 => ?_
      refine At.region ?_
      refine op_move (nxlf rfl) rfl rfl ?_
      refine op_move (nxlf rfl) rfl rfl ?_
      refine op_move (nxlf rfl) rfl rfl ?_
      refine op_slice0 (nxlf rfl) se145 rfl (.some rfl (show _ = (((k : Nat)) : Int) from by omega)) (.some rfl (show _ = (((k : Nat)) : Int) from by omega)) (by omega) (by omega) (by simp) rfl ?_
      refine op_assign (nxlf rfl) rfl rfl ?_
      refine At.opsNil ?_
      refine At.norm (hk_6 ?_)
      refine At.ret (?_)
      refine At.ret1 (L1 := []) rfl (.tmp rfl .nil) (.refl _) (.refl _) ?_
      have ⟨e1, e2⟩ := trim_len (by omega) hz (.inr ⟨by omega, fun e => c15 (by rw [e]; rfl)⟩); rw [e2]; exact ⟨rfl, rfl, e1, hk⟩
  · refine op_skip rfl rfl rfl rfl rfl rfl rfl ?_
    refine op_skip rfl rfl rfl rfl rfl rfl rfl ?_
    refine op_skip rfl rfl rfl rfl rfl rfl rfl ?_
    refine op_skip rfl rfl rfl rfl rfl rfl rfl ?_
    refine op_skip rfl rfl rfl rfl rfl rfl rfl ?_
    refine op_skip rfl rfl rfl rfl rfl rfl rfl ?_
    refine op_pickF (nxlf rfl) rfl rfl rfl ?_
    refine At.opsNil ?_
    refine At.norm (hk_5 ?_)
    refine At.condF rfl ?_
    refine At.exit (At.thenExit (At.thenExit (At.inHit ?_)))
    refine At.norm (hk_3 ?_)
    refine At.seq fun K7 hk_7 => ?_
    refine At.region ?_
    refine op_move (nxlf rfl) rfl rfl ?_
    refine op_move (nxlf rfl) rfl rfl ?_
    refine op_move (nxlf rfl) rfl rfl ?_
    refine op_slice0 (nxlf rfl) se145 rfl (.some rfl (show _ = (((k : Nat)) : Int) from by omega)) (.some rfl (show _ = (((k : Nat)) : Int) from by omega)) (by omega) (by omega) (by simp) rfl ?_
    refine op_assign (nxlf rfl) rfl rfl ?_
    refine At.opsNil ?_
    refine At.norm (hk_7 ?_)
    refine At.ret (?_)
    refine At.ret1 (L1 := []) rfl (.tmp rfl .nil) (.refl _) (.refl _) ?_
    have ⟨e1, e2⟩ := trim_len (by omega) hz (.inl (by omega)); rw [e2]; exact ⟨rfl, rfl, e1, hk⟩
end Go.Proofs.YtlkjfbfenpkmhaaDoor
/- Plain law: what limb.From's loop builds. No condition. -/
namespace Go.Proofs.YtlkjfbfenpkmhaaDoor
set_option linter.unusedVariables false
set_option linter.unusedSimpArgs false
/-- One round of limb.From. -/
def fromStep (l : List UInt8) (k : Nat) (a : List UInt64) : List UInt64 :=
  a.set ((l.length - 1 - k) / 8) (a.getD ((l.length - 1 - k) / 8) 0 ||| (UInt64.ofNat ((l.getD k 0).toNat * 2 ^ ((l.length - 1 - k) % 8 * 8))))
def fromSt (l : List UInt8) : Nat → List UInt64
  | 0 => List.replicate ((l.length + 7) / 8) 0
  | k+1 => fromStep l k (fromSt l k)
theorem length_fromSt (l : List UInt8) (k : Nat) : (fromSt l k).length = (l.length + 7) / 8 := by
  induction k with
  | zero => simp [fromSt]
  | succ k ih => simp [fromSt, fromStep, ih]
theorem v64_set {a : List UInt64} {i : Nat} {y : UInt64} (h : i < a.length) : v64 (a.set i y) + a[i].toNat * 2 ^ (64 * i) = v64 a + y.toNat * 2 ^ (64 * i) := by
  have := val_set (2 ^ 64) (n64 a) i y.toNat (by simpa using h)
  simp only [v64, n64, List.map_set, List.getElem_map] at this ⊢
  rw [← Nat.pow_mul] at this
  exact this
theorem limb_v64 {a : List UInt64} {i : Nat} (h : i < a.length) : v64 a / 2 ^ (64 * i) % 2 ^ 64 = a[i].toNat := by
  have := val_div_mod (B := 2 ^ 64) (by decide) (n64_lt a) i (by simpa using h)
  rw [← Nat.pow_mul] at this
  simpa [v64, n64] using this
theorem be_take_succ (l : List UInt8) (k : Nat) (h : k < l.length) : be (l.take (k + 1)) = be (l.take k) * 256 + l[k].toNat := by
  rw [List.take_succ_eq_append_getElem h, be_snoc]
theorem v64_fromSt (l : List UInt8) (k : Nat) (hk : k ≤ l.length) : v64 (fromSt l k) = be (l.take k) * 256 ^ (l.length - k) := by
  induction k with
  | zero => simp [fromSt, v64_replicate, be]
  | succ k ih =>
    have hlt : k < l.length := by omega
    have ih := ih (by omega)
    have hat : (l.length - 1 - k) / 8 < (fromSt l k).length := by rw [length_fromSt]; omega
    have hs := v64_set (a := fromSt l k) (i := (l.length - 1 - k) / 8) (y := (fromSt l k)[(l.length - 1 - k) / 8] ||| UInt64.ofNat (l[k].toNat * 2 ^ ((l.length - 1 - k) % 8 * 8))) hat
    have hd : fromSt l (k + 1) = (fromSt l k).set ((l.length - 1 - k) / 8) ((fromSt l k)[(l.length - 1 - k) / 8] ||| UInt64.ofNat (l[k].toNat * 2 ^ ((l.length - 1 - k) % 8 * 8))) := by
      simp [fromSt, fromStep, hat, hlt]
    rw [← hd] at hs
    have hx := l[k].toNat_lt
    have hlimb := limb_v64 hat
    generalize hq : (fromSt l k)[(l.length - 1 - k) / 8] = L at hs hlimb
    -- the exponent of the byte
    obtain ⟨q, r, hqr, hr⟩ : ∃ q r, l.length - 1 - k = 8 * q + r ∧ r < 8 := ⟨(l.length - 1 - k) / 8, (l.length - 1 - k) % 8, by omega, Nat.mod_lt _ (by decide)⟩
    have e1 : (l.length - 1 - k) / 8 = q := by omega
    have e2 : (l.length - 1 - k) % 8 = r := by omega
    rw [e1] at hs hlimb
    rw [e2] at hs
    have e3 : l.length - k = 8 * q + r + 1 := by omega
    have e4 : l.length - (k + 1) = 8 * q + r := by omega
    rw [e3] at ih
    rw [e4, be_take_succ l k hlt]
    have p256 : ∀ m : Nat, (256 : Nat) ^ m = 2 ^ (8 * m) := fun m => by rw [show (256 : Nat) = 2 ^ 8 from rfl, ← Nat.pow_mul]
    rw [p256] at ih ⊢
    have hdiv : L.toNat % 2 ^ (r * 8 + 8) = 0 := by
      rw [← hlimb, ih]
      have : be (l.take k) * 2 ^ (8 * (8 * q + r + 1)) = 2 ^ (64 * q) * (2 ^ (r * 8 + 8) * be (l.take k)) := by
        rw [← Nat.mul_assoc, ← Nat.pow_add, Nat.mul_comm]; congr 2; omega
      rw [this, Nat.mul_div_cancel_left _ (Nat.pow_pos (by decide)), Nat.mod_mod_of_dvd _ (Nat.pow_dvd_pow 2 (by omega)), Nat.mul_mod_right]
    have hc : l[k].toNat * 2 ^ (r * 8) < 2 ^ (r * 8 + 8) := by
      rw [Nat.pow_add, Nat.mul_comm]
      exact Nat.mul_lt_mul_of_pos_left hx (Nat.pow_pos (by decide))
    have hc64 : l[k].toNat * 2 ^ (r * 8) < 2 ^ 64 := Nat.lt_of_lt_of_le hc (Nat.pow_le_pow_right (by decide) (by omega))
    have hor : (L ||| UInt64.ofNat (l[k].toNat * 2 ^ (r * 8))).toNat = L.toNat + l[k].toNat * 2 ^ (r * 8) := by
      rw [UInt64.toNat_or, UInt64.toNat_ofNat', Nat.mod_eq_of_lt hc64]
      exact nat_join _ _ _ hdiv hc
    rw [hor, ih, Nat.add_mul] at hs
    have h5 : l[k].toNat * 2 ^ (r * 8) * 2 ^ (64 * q) = l[k].toNat * 2 ^ (8 * (8 * q + r)) := by
      rw [Nat.mul_assoc, ← Nat.pow_add]; congr 2; omega
    have h6 : be (l.take k) * 2 ^ (8 * (8 * q + r + 1)) = be (l.take k) * 256 * 2 ^ (8 * (8 * q + r)) := by
      rw [Nat.mul_assoc, show (256 : Nat) = 2 ^ 8 from rfl, ← Nat.pow_add]; congr 2; omega
    rw [h5, h6] at hs
    rw [Nat.add_mul]
    omega
theorem fromSt_all (l : List UInt8) : v64 (fromSt l l.length) = be l := by
  rw [v64_fromSt l l.length (Nat.le_refl _)]; simp
theorem bound_limb (x : UInt64) : (x.toNat : Int) ≤ 18446744073709551615 := by have := x.toNat_lt; omega
end Go.Proofs.YtlkjfbfenpkmhaaDoor
/- limb.From: the number of bytes. No condition. -/
namespace Go.Proofs.YtlkjfbfenpkmhaaDoor
set_option linter.unusedVariables false
set_option linter.unusedSimpArgs false
open Go Go.RowKit
end Go.Proofs.YtlkjfbfenpkmhaaDoor
/- Plain laws: the bytes of a number in limbs; the head of a payload. No condition. -/
namespace Go.Proofs.YtlkjfbfenpkmhaaDoor
set_option linter.unusedVariables false
set_option linter.unusedSimpArgs false
theorem bitLen_div (N m : Nat) : bitLen (N / 2 ^ m) = bitLen N - m := by
  have h : ∀ j, bitLen (N / 2 ^ m) ≤ j ↔ bitLen N - m ≤ j := by
    intro j
    rw [bitLen_le, Nat.div_lt_iff_lt_mul (Nat.pow_pos (by decide)), ← Nat.pow_add, ← bitLen_le]; omega
  have h1 := (h (bitLen N - m)).2 (Nat.le_refl _)
  have h2 := (h (bitLen (N / 2 ^ m))).1 (Nat.le_refl _)
  omega
theorem limbsOf_get {N i : Nat} (h : i < (limbsOf N).length) : (limbsOf N)[i] = UInt64.ofNat (N / 2 ^ (64 * i)) := by
  simp [limbsOf, limbsN]
theorem limbsOf_top {N : Nat} (h : 0 < (limbsOf N).length) : (64 * ((limbsOf N).length - 1) + bitLen (limbsOf N)[(limbsOf N).length - 1].toNat) = bitLen N := by
  rw [limbsOf_get, UInt64.toNat_ofNat']
  have hk := length_limbsOf N
  have hN : N < 2 ^ (64 * (limbsOf N).length) := by rw [hk]; exact limbLen_le.1 (Nat.le_refl _)
  have : N / 2 ^ (64 * ((limbsOf N).length - 1)) < 2 ^ 64 := by
    rw [Nat.div_lt_iff_lt_mul (Nat.pow_pos (by decide)), ← Nat.pow_add]
    rwa [show 64 + 64 * ((limbsOf N).length - 1) = 64 * (limbsOf N).length from by omega]
  rw [Nat.mod_eq_of_lt this, bitLen_div]
  omega

theorem limbsOf_top' {N : Nat} {x : UInt64} (h : (limbsOf N)[(limbsOf N).length - 1]? = some x) : 64 * ((limbsOf N).length - 1) + bitLen x.toNat = bitLen N := by
  obtain ⟨h1, h2⟩ := List.getElem?_eq_some_iff.1 h
  rw [← h2]
  exact limbsOf_top (by omega)

/-- What has been written of so many bytes of N after k rounds. -/
def bytesSt (m N k : Nat) : List UInt8 := (bytesN m N).take k ++ List.replicate (m - k) 0
theorem length_bytesSt {m N k : Nat} (h : k ≤ m) : (bytesSt m N k).length = m := by simp [bytesSt]; omega
theorem bytesSt_succ {m N k : Nat} (h : k < m) : bytesSt m N (k + 1) = (bytesSt m N k).set k (UInt8.ofNat (N / 256 ^ (m - 1 - k))) := by
  apply List.ext_getElem
  · rw [length_bytesSt (by omega), List.length_set, length_bytesSt (by omega)]
  · intro i h1 h2
    rw [length_bytesSt (by omega)] at h1
    rw [List.getElem_set]
    by_cases hi : k = i
    · subst hi
      rw [if_pos rfl]
      simp only [bytesSt]
      rw [List.getElem_append_left (by simp; omega)]
      simp [bytesN]
    · rw [if_neg hi]
      simp only [bytesSt, List.getElem_append]
      by_cases hlt : i < k
      · simp; rw [dif_pos (by omega), dif_pos (by omega)]
      · simp; rw [dif_neg (by omega), dif_neg (by omega)]
theorem bytesSt_zero (m N : Nat) : bytesSt m N 0 = List.replicate m 0 := by simp [bytesSt]
theorem bytesSt_all (m N : Nat) : bytesSt m N m = bytesN m N := by
  simp only [bytesSt, Nat.sub_self, List.replicate_zero, List.append_nil]
  exact List.take_of_length_le (by simp)
theorem byte_of_limb {l : List UInt64} {at_ : Nat} (hq : at_ / 8 < l.length) : UInt8.ofNat (l[at_ / 8].toNat / 2 ^ (at_ % 8 * 8)) = UInt8.ofNat (v64 l / 256 ^ at_) := by
  have hlimb := limb_v64 hq
  rw [← hlimb]
  apply UInt8.toNat_inj.1
  rw [UInt8.toNat_ofNat', UInt8.toNat_ofNat']
  obtain ⟨q, r, hqr, hr⟩ : ∃ q r, at_ = 8 * q + r ∧ r < 8 := ⟨at_ / 8, at_ % 8, by omega, Nat.mod_lt _ (by decide)⟩
  have e1 : at_ / 8 = q := by omega
  have e2 : at_ % 8 = r := by omega
  rw [e1, e2, hqr, show (256 : Nat) = 2 ^ 8 from rfl, ← Nat.pow_mul, show 8 * (8 * q + r) = 64 * q + r * 8 from by omega, Nat.pow_add, ← Nat.div_div_eq_div_mul]
  generalize v64 l / 2 ^ (64 * q) = X
  have : r * 8 + 8 ≤ 64 := by omega
  rw [show (2 : Nat) ^ 64 = 2 ^ (r * 8) * 2 ^ (64 - r * 8) from by rw [← Nat.pow_add]; congr 1; omega, Nat.mod_mul_right_div_self]
  exact Nat.mod_mod_of_dvd _ (Nat.pow_dvd_pow 2 (by omega))
/-- The head of a payload of n bytes. -/
def rlpHead (base n : Nat) : List UInt8 := if n ≤ 55 then [UInt8.ofNat (base + n)] else UInt8.ofNat (base + 55 + (bytesOf n).length) :: bytesOf n
theorem v64_one (n : Nat) (h : n < 2 ^ 64) : v64 [UInt64.ofNat n] = n := by
  simp only [v64, n64, val, List.map_cons, List.map_nil, Nat.mul_zero, Nat.add_zero, UInt64.toNat_ofNat']
  exact Nat.mod_eq_of_lt h
theorem byteLen8 {n : Nat} (h : n < 2 ^ 64) : (bytesOf n).length ≤ 8 := by
  rw [length_bytesOf]; exact byteLen_le.2 (by simpa using h)

end Go.Proofs.YtlkjfbfenpkmhaaDoor
