/- The engine, part 12: words' other operations, copy, functions as values. For whatever program. No condition. -/
import Derived.Test.YtdplcfineaikjaaDoorG11
import Derived.Laws.CopyRow
import Derived.Laws.IdiomCopy
import Derived.Laws.Externs
namespace Go.Proofs.YtdplcfineaikjaaDoor
set_option linter.unusedVariables false
set_option linter.unusedSimpArgs false
open Go Go.RowKit
theorem ofInt_u64 (x : UInt64) : BitVec.ofInt 64 (x.toNat : Int) = x.toBitVec := by
  apply BitVec.eq_of_toNat_eq
  rw [BitVec.toNat_ofInt, UInt64.toNat_toBitVec]
  have := x.toNat_lt
  omega
theorem bits_andNot_u64 (x y : UInt64) : bits .andNot .u64 (x.toNat : Int) (y.toNat : Int) = ((x &&& ~~~y).toNat : Int) := by
  have e : bits .andNot .u64 (x.toNat : Int) (y.toNat : Int) = IntKind.u64.wrap ((BitVec.ofInt 64 (x.toNat : Int) &&& ~~~(BitVec.ofInt 64 (y.toNat : Int))).toNat : Int) := rfl
  rw [e, ofInt_u64, ofInt_u64, IntKind.wrap_u64]
  have h : (x.toBitVec &&& ~~~y.toBitVec).toNat = (x &&& ~~~y).toNat := rfl
  rw [h]
  have := (x &&& ~~~y).toNat_lt
  omega
theorem bits_comp_u64 (x : UInt64) : bits .xor .u64 18446744073709551615 (x.toNat : Int) = ((~~~x).toNat : Int) := by
  have h := bits_xor_u64 18446744073709551615 x
  have e : ((18446744073709551615 : UInt64).toNat : Int) = 18446744073709551615 := rfl
  rw [e] at h
  rw [h]
  congr 2
section
variable {P : Program} {n : Nat} {l : List (Nat × Value)} {E : World} {L L1 Ls : List Heaplet} {o : Oper} {X Y : Act → World → Prop} {N M : Heaplet}
variable {d : Nat} {ty t t' t2 e e2 : TypeId} {pos : String} {aft : Array Edge} {g : Option (Nat × Bool)} {v : Value} {x y z : Operand} {k : IntKind} {p q : Int} {b off : Nat}
theorem op_andNotU {a b : UInt64} (s : NxF P n l E L Ls ⟨some d, .binOp .andNot t x y t', ty, pos, aft, g⟩ X Y) (hx : ev l x = some (.int .u64 (a.toNat : Int))) (hy : ev l y = some (.int .u64 (b.toNat : Int))) (hn : Nat.ble (d + 1) n = true) (h : At n ((d, .int .u64 ((a &&& ~~~b).toNat : Int)) :: l) E L Y) : At n l E L X :=
  op_bits (.inr (.inr (.inr rfl))) s hx hy hn (by rw [bits_andNot_u64]; exact h)
theorem op_compU {a : UInt64} (s : NxF P n l E L Ls ⟨some d, .unOp .xor t x, ty, pos, aft, g⟩ X Y) (hx : ev l x = some (.int .u64 (a.toNat : Int))) (hn : Nat.ble (d + 1) n = true) (h : At n ((d, .int .u64 ((~~~a).toNat : Int)) :: l) E L Y) : At n l E L X :=
  op_val s (fun a' w hf _ => by
    simp only [execOp, hf.eval hx, Op.unary]
    have e : Op.intBits .xor .u64 (if IntKind.u64.signed = true then -1 else IntKind.u64.max) (a.toNat : Int) = (pure (.int .u64 ((~~~a).toNat : Int)) : Sem Value) := by
      rw [intBits_xor, ← bits_comp_u64]; rfl
    rw [e]; rfl) rfl hn h
theorem op_quoU {a b : UInt64} (s : NxF P n l E L Ls ⟨some d, .binOp .quo t x y t', ty, pos, aft, g⟩ X Y) (hx : ev l x = some (.int .u64 (a.toNat : Int))) (hy : ev l y = some (.int .u64 (b.toNat : Int))) (hb : b.toNat ≠ 0) (hn : Nat.ble (d + 1) n = true) (h : At n ((d, .int .u64 ((a / b).toNat : Int)) :: l) E L Y) : At n l E L X :=
  op_int s hx hy (fun w => by
    have e : (b.toNat : Int) ≠ 0 := by omega
    have e1 : (a.toNat : Int).tdiv b.toNat = ((a / b).toNat : Int) := by
      rw [Int.tdiv_eq_ediv_of_nonneg (by omega), UInt64.toNat_div]; simp
    have e2 : IntKind.u64.wrap ((a / b).toNat : Int) = ((a / b).toNat : Int) := by
      rw [IntKind.wrap_u64]; have := (a / b).toNat_lt; omega
    have e0 : binOp .quo t (.int .u64 (a.toNat : Int)) (.int .u64 (b.toNat : Int)) = Op.intDiv .quo .u64 (a.toNat : Int) (b.toNat : Int) := by simp [binOp]
    rw [e0]
    unfold Op.intDiv
    rw [if_neg e]
    simp only [Sem.run_pure, e1, e2]) hn h
theorem op_remU {a b : UInt64} (s : NxF P n l E L Ls ⟨some d, .binOp .rem t x y t', ty, pos, aft, g⟩ X Y) (hx : ev l x = some (.int .u64 (a.toNat : Int))) (hy : ev l y = some (.int .u64 (b.toNat : Int))) (hb : b.toNat ≠ 0) (hn : Nat.ble (d + 1) n = true) (h : At n ((d, .int .u64 ((a % b).toNat : Int)) :: l) E L Y) : At n l E L X :=
  op_rem s hx hy (by omega) (by omega) hn (by
    rw [show (a.toNat : Int) % b.toNat = ((a % b).toNat : Int) from by rw [UInt64.toNat_mod]; simp]
    exact h)
/-- copy into a block that is known whole. -/
theorem op_copyB {cs ys : List Value} {dl dc m cap' : Nat} {ao' : Option Addr} (s : Nx P n l E L ⟨some d, .call ⟨.builtin .copy, #[x, y], #[t, t2]⟩, ty, pos, aft, g⟩ X Y) (ht : selt P t = some (e, 1))
    (hx : ev l x = some (.slice (some ⟨b, off, none⟩) dl dc)) (hy : ev l y = some (.slice ao' m cap')) (hb : Blk N b e2 cs) (hs : RSl M 1 ao' m cap' ys) (hM : M ∈ L) (h1 : ∀ u ∈ ys, u.oneCell' = true) (hfit : off + min m dl ≤ cs.length) (sel : L.Perm (N :: L1)) (hn : Nat.ble (d + 1) n = true)
    (h : ∀ N', Blk N' b e2 (cs.take off ++ ys.take (min m dl) ++ cs.drop (off + min m dl)) → At n ((d, .int .i64 ((min m dl : Nat) : Int)) :: l) E (N' :: L1) Y) : At n l E L X := by
  obtain ⟨hu, i, hi, hsz⟩ := selt_spec ht
  have hlen : ys.length = m := hs.len
  refine op_upd s (fun v L' => ∃ N', v = .int .i64 ((min m dl : Nat) : Int) ∧ L' = N' :: L1 ∧ Blk N' b e2 (cs.take off ++ ys.take (min m dl) ++ cs.drop (off + min m dl))) (fun a w hf hw => ?_) rfl hn (fun v L' ⟨N', e1, e2, hb'⟩ => by subst e1 e2; exact h N' hb')
  have hw2 := hw.perm sel
  have hheap := hw2.sub N (List.mem_cons_self ..) _ _ hb
  have hres : ∀ u w', (Builtin.copy_ #[t, t2] ty #[.slice (some ⟨b, off, none⟩) dl dc, .slice ao' m cap']).run P w = .ok u w' → (execOp a.eval ⟨some d, .call ⟨.builtin .copy, #[x, y], #[t, t2]⟩, ty, pos, aft, g⟩).run P w = .ok (.value u) w' := fun u w' hr => by
    simp only [execOp, resolve, invoke, builtin, Sem.run_bind, Sem.run_pure, Result.andThen_ok, List.map_toArray, List.map_cons, List.map_nil, hf.eval hx, hf.eval hy, hr]
  by_cases h0 : min m dl = 0
  · have hr := run_copy_none (P := P) w t t2 ty e (some ⟨b, off, none⟩) ao' dl dc m cap' hu (by rw [hi]; simp [hsz]) h0
    refine ⟨_, w, N :: L1, hres _ _ hr, hw2, N, by rw [h0]; rfl, rfl, ?_⟩
    rw [h0, List.take_zero, List.append_nil, Nat.add_zero, List.take_append_drop]; exact hb
  · obtain ⟨b', off', rfl, hr'⟩ := hs.2.2.2 (by omega)
    have hsrc : ∀ j v, (ys.take (min m dl))[j]? = some v → w.cell? ((⟨b', off', none⟩ : Addr).add j) = some v := fun j v hj => by
      rw [List.getElem?_take] at hj
      split at hj
      · obtain ⟨hlt, rfl⟩ := List.getElem?_eq_some_iff.1 hj
        rw [addr_add]; exact hw.cell hM (hr' j hlt)
      · cases hj
    have hlt : (ys.take (min m dl)).length = min m dl := by rw [List.length_take]; omega
    have hr := run_copy_row (P := P) w t t2 ty e b off dl dc ⟨b', off', none⟩ m cap' cs.toArray e2 (ys.take (min m dl)) hu (by rw [hi]; simp [hsz]) hheap (by rw [hlt]) hsrc (by rw [hlt]; simpa using hfit) (fun u hu => h1 u (List.mem_of_mem_take hu))
    rw [hlt] at hr
    refine ⟨_, _, upd N b (.cells (cs.take off ++ ys.take (min m dl) ++ cs.drop (off + min m dl)).toArray e2 (0, 0)) :: L1, hres _ _ hr, ?_, _, rfl, rfl, upd_self _ _ _⟩
    refine hw2.put hb rfl rfl rfl ?_ (fun k hk _ => ?_)
    · have := setRow_heap w b cs.toArray (cs.take off ++ ys.take (min m dl) ++ cs.drop (off + min m dl)).toArray e2 (0, 0) hheap
      simpa using this
    · simp only [World.setRow, Array.getElem?_modify, if_neg (Ne.symm hk)]
/-- copy into a slice that owns its block. -/
theorem op_copyR {xs ys : List Value} {dl dc m cap' : Nat} {ao ao' : Option Addr} (s : Nx P n l E L ⟨some d, .call ⟨.builtin .copy, #[x, y], #[t, t2]⟩, ty, pos, aft, g⟩ X Y) (ht : selt P t = some (e, 1))
    (hx : ev l x = some (.slice ao dl dc)) (hy : ev l y = some (.slice ao' m cap')) (hb : Row N e2 1 ao dl dc xs) (hs : RSl M 1 ao' m cap' ys) (hM : M ∈ L) (h1 : ∀ u ∈ ys, u.oneCell' = true) (sel : L.Perm (N :: L1)) (hn : Nat.ble (d + 1) n = true)
    (h : ∀ N', Row N' e2 1 ao dl dc (ys.take (min m dl) ++ xs.drop (min m dl)) → At n ((d, .int .i64 ((min m dl : Nat) : Int)) :: l) E (N' :: L1) Y) : At n l E L X := by
  obtain ⟨hu, i, hi, hsz⟩ := selt_spec ht
  have hlen : ys.length = m := hs.len
  have hxl : xs.length = dl := hb.rsl.len
  refine op_upd s (fun v L' => ∃ N', v = .int .i64 ((min m dl : Nat) : Int) ∧ L' = N' :: L1 ∧ Row N' e2 1 ao dl dc (ys.take (min m dl) ++ xs.drop (min m dl))) (fun a w hf hw => ?_) rfl hn (fun v L' ⟨N', e1, e2, hb'⟩ => by subst e1 e2; exact h N' hb')
  have hw2 := hw.perm sel
  have hres : ∀ u w', (Builtin.copy_ #[t, t2] ty #[.slice ao dl dc, .slice ao' m cap']).run P w = .ok u w' → (execOp a.eval ⟨some d, .call ⟨.builtin .copy, #[x, y], #[t, t2]⟩, ty, pos, aft, g⟩).run P w = .ok (.value u) w' := fun u w' hr => by
    simp only [execOp, resolve, invoke, builtin, Sem.run_bind, Sem.run_pure, Result.andThen_ok, List.map_toArray, List.map_cons, List.map_nil, hf.eval hx, hf.eval hy, hr]
  by_cases h0 : min m dl = 0
  · have hr := run_copy_none (P := P) w t t2 ty e ao ao' dl dc m cap' hu (by rw [hi]; simp [hsz]) h0
    refine ⟨_, w, N :: L1, hres _ _ hr, hw2, N, by rw [h0]; rfl, rfl, ?_⟩
    rw [h0, List.take_zero, List.nil_append, List.drop_zero]; exact hb
  · obtain ⟨b', off', rfl, hr'⟩ := hs.2.2.2 (by omega)
    obtain ⟨r1, r2, r3, r4⟩ := hb
    rcases r4 with ⟨_, h5, _⟩ | ⟨b, cur, rfl, hN, hcs, htk⟩
    · omega
    have hheap := hw2.sub N (List.mem_cons_self ..) _ _ hN
    have hsrc : ∀ j v, (ys.take (min m dl))[j]? = some v → w.cell? ((⟨b', off', none⟩ : Addr).add j) = some v := fun j v hj => by
      rw [List.getElem?_take] at hj
      split at hj
      · obtain ⟨hlt, rfl⟩ := List.getElem?_eq_some_iff.1 hj
        rw [addr_add]; exact hw.cell hM (hr' j hlt)
      · cases hj
    have hlt : (ys.take (min m dl)).length = min m dl := by rw [List.length_take]; omega
    have hr := run_copy_row (P := P) w t t2 ty e b 0 dl dc ⟨b', off', none⟩ m cap' cur e2 (ys.take (min m dl)) hu (by rw [hi]; simp [hsz]) hheap (by rw [hlt]) hsrc (by rw [hlt, hcs]; omega) (fun u hu => h1 u (List.mem_of_mem_take hu))
    rw [hlt, List.take_zero, List.nil_append, Nat.zero_add] at hr
    have hcl : cur.toList.length = dc := by simpa using hcs
    refine ⟨_, _, upd N b (.cells (ys.take (min m dl) ++ cur.toList.drop (min m dl)).toArray e2 (0, 0)) :: L1, hres _ _ hr, ?_, _, rfl, rfl, ⟨by simp; omega, r2, r3, .inr ⟨b, _, rfl, upd_self _ _ _, by simp; omega, ?_⟩⟩⟩
    · refine hw2.put hN rfl rfl rfl ?_ (fun k hk _ => ?_)
      · exact setRow_heap w b cur (ys.take (min m dl) ++ cur.toList.drop (min m dl)).toArray e2 (0, 0) hheap
      · simp only [World.setRow, Array.getElem?_modify, if_neg (Ne.symm hk)]
    · rw [← htk, Nat.mul_one, List.take_append, hlt, List.take_of_length_le (by omega : (ys.take (min m dl)).length ≤ dl), List.drop_take]
/-- A call of a function that the model answers itself. -/
theorem op_ext {f : FuncId} {xs : List Operand} {args : List Value} {ats : Array TypeId} (s : NxA P n l E L ⟨some d, .call ⟨.value (.func f), xs.toArray, ats⟩, ty, pos, aft, g⟩ X Y)
    (ha : Evs l xs args) (hr : ∀ w, (callFunc f args.toArray).run P w = .ok (.value v) w) (hn : Nat.ble (d + 1) n = true) (h : At n ((d, v) :: l) E L Y) : At n l E L X := fun a w hf hw => by
  refine s a w hf hw ?_
  unfold Oper.wp
  have hrun : (execOp a.eval ⟨some d, .call ⟨.value (.func f), xs.toArray, ats⟩, ty, pos, aft, g⟩).run P w = .ok (.value v) w := by
    have he : a.eval (.func f) = .func (.func f) #[] #[] := rfl
    simp only [execOp, resolve, invoke, Sem.run_bind, Sem.run_pure, Result.andThen_ok, List.map_toArray, ha.map hf, he, Deferred.ofValue, Array.empty_append, Array.append_empty, hr]
  rw [hrun]
  exact ⟨fun _ _ => rfl, h _ _ (hf.put (Nat.le_of_ble_eq_true hn)) hw⟩
/-! Functions as values. -/
inductive Cps (l : List (Nat × Value)) : List Operand → List Value → Prop
  | nil : Cps l [] []
  | cons {x : Operand} {v : Value} {xs : List Operand} {vs : List Value} (h : ev l x = some v) (k : Cps l xs vs) : Cps l (x :: xs) (v :: vs)
theorem Cps.map {xs : List Operand} {vs : List Value} (h : Cps l xs vs) {a : Act} (hf : Fr n l a) : xs.map a.eval = vs := by
  induction h with
  | nil => rfl
  | cons hx _ ih => rw [List.map_cons, hf.eval hx, ih]
theorem op_mkF {fn : Go.Fn} {first caps : List Operand} {fs cs : List Value} (s : NxF P n l E L Ls ⟨some d, .makeFunc fn first.toArray caps.toArray, ty, pos, aft, g⟩ X Y) (h1 : Cps l first fs) (h2 : Cps l caps cs) (hn : Nat.ble (d + 1) n = true) (h : At n ((d, .func fn fs.toArray cs.toArray) :: l) E L Y) : At n l E L X :=
  op_val s (fun a w hf _ => by
    simp [execOp, Instr.makeFunc, List.map_toArray, h1.map hf, h2.map hf]) rfl hn h
theorem op_callV {f : FuncId} {fn : Func} {c : Operand} {xs : List Operand} {args caps : List Value} {ats : Array TypeId} {L0 Lr F : List Heaplet} {Post : Value → List Heaplet → Prop} (s : Nx P n l E L ⟨some d, .call ⟨.value c, xs.toArray, ats⟩, ty, pos, aft, g⟩ X Y)
    (hcv : ev l c = some (.func (.func f) #[] caps.toArray)) (ha : Evs l xs args) (hc : Fn P f (args ++ caps).toArray L0 Lr Post) (hfn : P.funcs[f]? = some fn) (hb : fn.body.isSome = true) (hne : (fn.name == "runtime.NumGoroutine") = false) (hL : L.Perm (L0 ++ F)) (hr : ∀ N ∈ Lr, N ∈ F) (hn : Nat.ble (d + 1) n = true)
    (h : ∀ v L1, Post v L1 → At n ((d, v) :: l) E (L1 ++ F) Y) : At n l E L X := fun a w hf hw => by
  refine s a w hf hw ?_
  unfold Oper.wp
  have hw2 := hw.perm hL
  have hrun : (execOp a.eval ⟨some d, .call ⟨.value c, xs.toArray, ats⟩, ty, pos, aft, g⟩).run P w = .ok (.enter f (args ++ caps).toArray) w := by
    have hne' : fn.name ≠ "runtime.NumGoroutine" := by simpa using hne
    have he := hf.eval hcv
    have hap : args.toArray ++ caps.toArray = (args ++ caps).toArray := by simp
    simp only [execOp, resolve, invoke, Sem.run_bind, Sem.run_pure, Result.andThen_ok, List.map_toArray, ha.map hf, he, Deferred.ofValue, Array.empty_append, hap, run_call hfn hb hne']
  rw [hrun]
  have hsep := List.pairwise_append.1 hw2.sep
  let R : Heaplet := fun k => if ∃ N ∈ L0, N k ≠ none then none else w.heap[k]?
  have hRw : R.le (whole w) := fun k o hk => by
    simp only [R] at hk
    split at hk
    · cases hk
    · exact hk
  have hFR : ∀ N ∈ F, N.le R := fun N hN k o hk => by
    have hno : ¬ ∃ M ∈ L0, M k ≠ none := by
      rintro ⟨M, hM, hMk⟩
      rcases hsep.2.2 M hM N hN k with h | h
      · exact hMk h
      · rw [hk] at h; cases h
    simp only [R, if_neg hno]
    exact hw2.sub N (List.mem_append_right _ hN) k o hk
  have hwR : Hp E (L0 ++ [R]) w := by
    refine ⟨hw.os, hw.tape, hw.output, fun N hN => ?_, ?_⟩
    · rcases List.mem_append.1 hN with hN | hN
      · exact hw2.sub N (List.mem_append_left _ hN)
      · simp at hN; subst hN; exact hRw
    · rw [List.pairwise_append]
      refine ⟨hsep.1, by simp, fun A hA B hB k => ?_⟩
      simp at hB; subst hB
      by_cases hAk : A k = none
      · exact .inl hAk
      · exact .inr (if_pos ⟨A, hA, hAk⟩)
  refine Calls.mono (hc E w R hwR fun N hN => hFR N (hr N hN)) ?_
  rintro e w' ⟨v, L1, rfl, hP, hw'⟩
  exact h v L1 hP _ _ (hf.put (Nat.le_of_ble_eq_true hn)) (hw'.refine hFR hsep.2.1)
end
end Go.Proofs.YtdplcfineaikjaaDoor
