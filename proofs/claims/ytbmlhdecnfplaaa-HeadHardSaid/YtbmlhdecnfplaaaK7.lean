/- Several texts in one: see the remarks ahead of each part. No condition but those told there. -/
import Derived.Test.YtbmlhdecnfplaaaK6
import Derived.Laws.CopyRow
import Derived.Laws.IdiomCopy
import Derived.Laws.Externs
/- The engine, part 10: slice literals. For whatever program. No condition. -/
namespace Go.Proofs.Ytbmlhdecnfplaaa
set_option linter.unusedVariables false
set_option linter.unusedSimpArgs false
open Go Go.RowKit
/-- The heaplet that holds nothing. -/
def nilH : Heaplet := fun _ => none
theorem At.empty {n : Nat} {l : List (Nat × Value)} {E : World} {L : List Heaplet} {K : Act → World → Prop} (h : At n l E (nilH :: L) K) : At n l E L K := fun a w hf hw => h a w hf
  ⟨hw.os, hw.tape, hw.output, fun N hN => by
    rcases List.mem_cons.1 hN with rfl | hN
    · intro k o hk; cases hk
    · exact hw.sub N hN, by rw [List.pairwise_cons]; exact ⟨fun _ _ _ => .inl rfl, hw.sep⟩⟩
theorem At.mergeN {n : Nat} {l : List (Nat × Value)} {E : World} {L : List Heaplet} {K : Act → World → Prop} {A B : Heaplet} (h : ∀ J : Heaplet, A.le J → B.le J → At n l E (J :: L) K) : At n l E (A :: B :: L) K :=
  At.merge fun hap => h _ join2_left (join2_right hap)
theorem setL_append (vs : List Value) : ∀ (a b c : List Value), b.length = vs.length → setL (a ++ b ++ c) a.length vs = a ++ vs ++ c := by
  induction vs with
  | nil => intro a b c h; simp at h; subst h; simp [setL]
  | cons v t ih =>
    intro a b c h
    cases b with
    | nil => simp at h
    | cons x b =>
      rw [setL]
      have e : (a ++ x :: b ++ c).set a.length v = (a ++ [v]) ++ b ++ c := by simp
      rw [e]
      have := ih (a ++ [v]) b c (by simpa using h)
      rw [List.length_append, List.length_singleton] at this
      rw [this]; simp
def flatV (vs : List (Nat × Value)) : List Value := vs.flatMap fun p => p.2.cells.toList
theorem fillL_all (size m : Nat) : ∀ (vs : List (Nat × Value)) (k : Nat) (a zs : List Value), vs.map (·.1) = List.range' k vs.length → k + vs.length ≤ m → (∀ p ∈ vs, p.2.cells.toList.length = size) → a.length = k * size → zs.length = vs.length * size →
    fillL ((List.range m).map fun i => (i * size, size)) (a ++ zs) vs = some (a ++ flatV vs) := by
  intro vs
  induction vs with
  | nil => intro k a zs _ _ _ _ h; simp at h; subst h; simp [fillL, flatV]
  | cons p t ih =>
    intro k a zs hi hm hs ha hz
    obtain ⟨i, v⟩ := p
    simp only [List.map_cons, List.length_cons, List.range'_succ, List.cons.injEq] at hi
    obtain ⟨rfl, hi⟩ := hi
    simp only [List.length_cons] at hm hz
    have hv := hs _ (List.mem_cons_self ..)
    simp only at hv
    have hget : ((List.range m).map fun i => (i * size, size))[i]? = some (i * size, size) := by
      rw [List.getElem?_map, List.getElem?_range (by omega)]; rfl
    have hz' : size ≤ zs.length := by rw [hz, Nat.add_mul]; omega
    have hcond : v.cells.toList.length = size ∧ i * size + v.cells.toList.length ≤ (a ++ zs).length := by
      rw [List.length_append]; omega
    have hset : setL (a ++ zs) (i * size) v.cells.toList = (a ++ v.cells.toList) ++ zs.drop size := by
      have := setL_append v.cells.toList a (zs.take size) (zs.drop size) (by rw [List.length_take]; omega)
      rw [List.append_assoc, List.take_append_drop, ha] at this
      exact this
    have hrec := ih (i + 1) (a ++ v.cells.toList) (zs.drop size) hi (by omega) (fun q hq => hs q (List.mem_cons_of_mem _ hq)) (by rw [List.length_append, ha, hv, Nat.add_mul, Nat.one_mul]) (by rw [List.length_drop, hz, Nat.add_mul]; omega)
    simp only [fillL, hget, if_pos hcond, hset, hrec]
    simp [flatV]
section
variable {P : Program} {n : Nat} {l l' : List (Nat × Value)} {E : World} {L L1 : List Heaplet} {X Y : Act → World → Prop} {d : Nat} {ty t e : TypeId} {pos : String} {aft : Array Edge} {g : Option (Nat × Bool)} {size : Nat}
theorem length_flatV {vs : List (Nat × Value)} (h : ∀ p ∈ vs, p.2.cells.toList.length = size) : (flatV vs).length = vs.length * size := by
  induction vs with
  | nil => simp [flatV]
  | cons p t ih =>
    have h1 := h p (List.mem_cons_self ..)
    have h2 := ih fun q hq => h q (List.mem_cons_of_mem _ hq)
    simp only [flatV, List.flatMap_cons, List.length_append, List.length_cons] at h2 ⊢
    rw [h1, h2, Nat.add_mul, Nat.one_mul, Nat.add_comm]
/-- A slice literal, all of whose places are written out. -/
theorem op_lit {parts : List (Nat × Operand)} {vs : List (Nat × Value)} {zv : Value} {m : Nat} (s : NxA P n l E L ⟨some d, .buildSlice t m parts.toArray, ty, pos, aft, g⟩ X Y) (ht : P.underlying t = some (.slice e)) (hz : zer P e = some zv) (hsz : siz P e = some size) (hv : Pts l parts vs)
    (hi : vs.map (·.1) = List.range' 0 vs.length) (hm0 : vs.length = m) (hs : ∀ p ∈ vs, p.2.cells.toList.length = size) (hm : Nat.ble (m * size) 16777216 = true) (hm2 : Nat.ble m 16777216 = true) (hn : Nat.ble (d + 1) n = true)
    (h : ∀ N ao, Row N e size ao m m (flatV vs) → At n ((d, .slice ao m m) :: l) E (N :: L) Y) : At n l E L X := by
  refine op_buildSlice s ht hz hsz hv (out := flatV vs) ?_ (by rw [length_flatV hs, hm0]) hm hm2 hn h
  have := fillL_all size m vs 0 [] (madeCells zv.cells (m * size)).toList hi (by omega) hs (by simp) (by rw [Array.length_toList, size_madeCells, hm0])
  simpa using this
end
end Go.Proofs.Ytbmlhdecnfplaaa
/- The engine, part 11: what is guarded by what was left out is left out. For whatever program. No condition. -/
namespace Go.Proofs.Ytbmlhdecnfplaaa
set_option linter.unusedVariables false
set_option linter.unusedSimpArgs false
open Go Go.RowKit
section
variable {P : Program} {n : Nat} {l : List (Nat × Value)} {E : World} {L : List Heaplet} {Q : Exit → Act → World → Prop} {ops : Array Oper} {rest : List Oper} {o : Oper}
theorem unwanted_of {j : Nat} {b : Bool} {oj : Oper} {d : Nat} {a : Act} (hf : Fr n l a) (hg : o.guard = some (j, b)) (hj : ops[j]? = some oj) (hd : oj.dst = some d) (hv : lk l d = some undef) : Region.wanted o (yielded ops a.tmps) = false := by
  have := hf.get d _ hv
  simp [Region.wanted, hg, yielded, hj, hd, this, undef]
theorem op_skipU {j : Nat} {b : Bool} {oj : Oper} {d e : Nat} (hg : o.guard = some (j, b)) (hj : ops[j]? = some oj) (hd : oj.dst = some d) (hv : lk l d = some undef) (he : o.dst = some e) (hn : Nat.ble (e + 1) n = true)
    (h : At n ((e, undef) :: l) E L (wpList P ops Q rest)) : At n l E L (wpList P ops Q (o :: rest)) := fun a w hf hw =>
  wpList_step fun K hK => by
    rw [unwanted_of hf hg hj hd hv]
    simp only [Bool.false_eq_true, if_false]
    rw [he]
    exact hK _ _ (h _ _ (hf.put (Nat.le_of_ble_eq_true hn)) hw)
theorem op_oskipU {i : Nat} {is : List Nat} {sink : Nat → Bool} {j : Nat} {b : Bool} {oj : Oper} {d e : Nat} (ho : ops[i]? = some o) (hg : o.guard = some (j, b)) (hj : ops[j]? = some oj) (hd : oj.dst = some d) (hv : lk l d = some undef) (he : o.dst = some e) (hn : Nat.ble (e + 1) n = true)
    (h : At n ((e, undef) :: l) E L (wpOne P ops sink Q is)) : At n l E L (wpOne P ops sink Q (i :: is)) := fun a w hf hw =>
  wpOne_skip ho (unwanted_of hf hg hj hd hv) (by rw [he]; exact h _ _ (hf.put (Nat.le_of_ble_eq_true hn)) hw)
theorem op_sskipU {i : Nat} {is : List Nat} {sink : Nat → Bool} {S : World → Prop} {j : Nat} {b : Bool} {oj : Oper} {d e : Nat} (ho : ops[i]? = some o) (hg : o.guard = some (j, b)) (hj : ops[j]? = some oj) (hd : oj.dst = some d) (hv : lk l d = some undef) (he : o.dst = some e) (hn : Nat.ble (e + 1) n = true)
    (h : At n ((e, undef) :: l) E L (St.wpOne P ops S sink Q is)) : At n l E L (St.wpOne P ops S sink Q (i :: is)) := fun a w hf hw =>
  St.wpOne_skip ho (unwanted_of hf hg hj hd hv) (by rw [he]; exact h _ _ (hf.put (Nat.le_of_ble_eq_true hn)) hw)
end
end Go.Proofs.Ytbmlhdecnfplaaa
/- The engine, part 12: words' other operations, copy, functions as values. For whatever program. No condition. -/
namespace Go.Proofs.Ytbmlhdecnfplaaa
set_option linter.unusedVariables false
set_option linter.unusedSimpArgs false
open Go Go.RowKit
theorem ofInt_u64 (x : UInt64) : BitVec.ofInt 64 (x.toNat : Int) = x.toBitVec := by
  apply BitVec.eq_of_toNat_eq
  rw [BitVec.toNat_ofInt, UInt64.toNat_toBitVec]
  have := x.toNat_lt
  omega
theorem bits_andNot_u64 (x y : UInt64) : bits .andNot .u64 (x.toNat : Int) (y.toNat : Int) = ((x &&& ~~~y).toNat : Int) := by
  have e : bits .andNot .u64 (x.toNat : Int) (y.toNat : Int) = IntKind.u64.wrap ((BitVec.ofInt 64 (x.toNat : Int) &&& ~~~(BitVec.ofInt 64 (y.toNat : Int))).toNat : Int) := rfl
  rw [e, ofInt_u64, ofInt_u64, IntKind.wrap_u64]
  have h : (x.toBitVec &&& ~~~y.toBitVec).toNat = (x &&& ~~~y).toNat := rfl
  rw [h]
  have := (x &&& ~~~y).toNat_lt
  omega
theorem bits_comp_u64 (x : UInt64) : bits .xor .u64 18446744073709551615 (x.toNat : Int) = ((~~~x).toNat : Int) := by
  have h := bits_xor_u64 18446744073709551615 x
  have e : ((18446744073709551615 : UInt64).toNat : Int) = 18446744073709551615 := rfl
  rw [e] at h
  rw [h]
  congr 2
section
variable {P : Program} {n : Nat} {l : List (Nat × Value)} {E : World} {L L1 Ls : List Heaplet} {o : Oper} {X Y : Act → World → Prop} {N M : Heaplet}
variable {d : Nat} {ty t t' t2 e e2 : TypeId} {pos : String} {aft : Array Edge} {g : Option (Nat × Bool)} {v : Value} {x y z : Operand} {k : IntKind} {p q : Int} {b off : Nat}
theorem op_andNotU {a b : UInt64} (s : NxF P n l E L Ls ⟨some d, .binOp .andNot t x y t', ty, pos, aft, g⟩ X Y) (hx : ev l x = some (.int .u64 (a.toNat : Int))) (hy : ev l y = some (.int .u64 (b.toNat : Int))) (hn : Nat.ble (d + 1) n = true) (h : At n ((d, .int .u64 ((a &&& ~~~b).toNat : Int)) :: l) E L Y) : At n l E L X :=
  op_bits (.inr (.inr (.inr rfl))) s hx hy hn (by rw [bits_andNot_u64]; exact h)
theorem op_compU {a : UInt64} (s : NxF P n l E L Ls ⟨some d, .unOp .xor t x, ty, pos, aft, g⟩ X Y) (hx : ev l x = some (.int .u64 (a.toNat : Int))) (hn : Nat.ble (d + 1) n = true) (h : At n ((d, .int .u64 ((~~~a).toNat : Int)) :: l) E L Y) : At n l E L X :=
  op_val s (fun a' w hf _ => by
    simp only [execOp, hf.eval hx, Op.unary]
    have e : Op.intBits .xor .u64 (if IntKind.u64.signed = true then -1 else IntKind.u64.max) (a.toNat : Int) = (pure (.int .u64 ((~~~a).toNat : Int)) : Sem Value) := by
      rw [intBits_xor, ← bits_comp_u64]; rfl
    rw [e]; rfl) rfl hn h
theorem op_quoU {a b : UInt64} (s : NxF P n l E L Ls ⟨some d, .binOp .quo t x y t', ty, pos, aft, g⟩ X Y) (hx : ev l x = some (.int .u64 (a.toNat : Int))) (hy : ev l y = some (.int .u64 (b.toNat : Int))) (hb : b.toNat ≠ 0) (hn : Nat.ble (d + 1) n = true) (h : At n ((d, .int .u64 ((a / b).toNat : Int)) :: l) E L Y) : At n l E L X :=
  op_int s hx hy (fun w => by
    have e : (b.toNat : Int) ≠ 0 := by omega
    have e1 : (a.toNat : Int).tdiv b.toNat = ((a / b).toNat : Int) := by
      rw [Int.tdiv_eq_ediv_of_nonneg (by omega), UInt64.toNat_div]; simp
    have e2 : IntKind.u64.wrap ((a / b).toNat : Int) = ((a / b).toNat : Int) := by
      rw [IntKind.wrap_u64]; have := (a / b).toNat_lt; omega
    have e0 : binOp .quo t (.int .u64 (a.toNat : Int)) (.int .u64 (b.toNat : Int)) = Op.intDiv .quo .u64 (a.toNat : Int) (b.toNat : Int) := by simp [binOp]
    rw [e0]
    unfold Op.intDiv
    rw [if_neg e]
    simp only [Sem.run_pure, e1, e2]) hn h
theorem op_remU {a b : UInt64} (s : NxF P n l E L Ls ⟨some d, .binOp .rem t x y t', ty, pos, aft, g⟩ X Y) (hx : ev l x = some (.int .u64 (a.toNat : Int))) (hy : ev l y = some (.int .u64 (b.toNat : Int))) (hb : b.toNat ≠ 0) (hn : Nat.ble (d + 1) n = true) (h : At n ((d, .int .u64 ((a % b).toNat : Int)) :: l) E L Y) : At n l E L X :=
  op_rem s hx hy (by omega) (by omega) hn (by
    rw [show (a.toNat : Int) % b.toNat = ((a % b).toNat : Int) from by rw [UInt64.toNat_mod]; simp]
    exact h)
/-- copy into a block that is known whole. -/
theorem op_copyB {cs ys : List Value} {dl dc m cap' : Nat} {ao' : Option Addr} (s : Nx P n l E L ⟨some d, .call ⟨.builtin .copy, #[x, y], #[t, t2]⟩, ty, pos, aft, g⟩ X Y) (ht : selt P t = some (e, 1))
    (hx : ev l x = some (.slice (some ⟨b, off, none⟩) dl dc)) (hy : ev l y = some (.slice ao' m cap')) (hb : Blk N b e2 cs) (hs : RSl M 1 ao' m cap' ys) (hM : M ∈ L) (h1 : ∀ u ∈ ys, u.oneCell' = true) (hfit : off + min m dl ≤ cs.length) (sel : L.Perm (N :: L1)) (hn : Nat.ble (d + 1) n = true)
    (h : ∀ N', Blk N' b e2 (cs.take off ++ ys.take (min m dl) ++ cs.drop (off + min m dl)) → At n ((d, .int .i64 ((min m dl : Nat) : Int)) :: l) E (N' :: L1) Y) : At n l E L X := by
  obtain ⟨hu, i, hi, hsz⟩ := selt_spec ht
  have hlen : ys.length = m := hs.len
  refine op_upd s (fun v L' => ∃ N', v = .int .i64 ((min m dl : Nat) : Int) ∧ L' = N' :: L1 ∧ Blk N' b e2 (cs.take off ++ ys.take (min m dl) ++ cs.drop (off + min m dl))) (fun a w hf hw => ?_) rfl hn (fun v L' ⟨N', e1, e2, hb'⟩ => by subst e1 e2; exact h N' hb')
  have hw2 := hw.perm sel
  have hheap := hw2.sub N (List.mem_cons_self ..) _ _ hb
  have hres : ∀ u w', (Builtin.copy_ #[t, t2] ty #[.slice (some ⟨b, off, none⟩) dl dc, .slice ao' m cap']).run P w = .ok u w' → (execOp a.eval ⟨some d, .call ⟨.builtin .copy, #[x, y], #[t, t2]⟩, ty, pos, aft, g⟩).run P w = .ok (.value u) w' := fun u w' hr => by
    simp only [execOp, resolve, invoke, builtin, Sem.run_bind, Sem.run_pure, Result.andThen_ok, List.map_toArray, List.map_cons, List.map_nil, hf.eval hx, hf.eval hy, hr]
  by_cases h0 : min m dl = 0
  · have hr := run_copy_none (P := P) w t t2 ty e (some ⟨b, off, none⟩) ao' dl dc m cap' hu (by rw [hi]; simp [hsz]) h0
    refine ⟨_, w, N :: L1, hres _ _ hr, hw2, N, by rw [h0]; rfl, rfl, ?_⟩
    rw [h0, List.take_zero, List.append_nil, Nat.add_zero, List.take_append_drop]; exact hb
  · obtain ⟨b', off', rfl, hr'⟩ := hs.2.2.2 (by omega)
    have hsrc : ∀ j v, (ys.take (min m dl))[j]? = some v → w.cell? ((⟨b', off', none⟩ : Addr).add j) = some v := fun j v hj => by
      rw [List.getElem?_take] at hj
      split at hj
      · obtain ⟨hlt, rfl⟩ := List.getElem?_eq_some_iff.1 hj
        rw [addr_add]; exact hw.cell hM (hr' j hlt)
      · cases hj
    have hlt : (ys.take (min m dl)).length = min m dl := by rw [List.length_take]; omega
    have hr := run_copy_row (P := P) w t t2 ty e b off dl dc ⟨b', off', none⟩ m cap' cs.toArray e2 (ys.take (min m dl)) hu (by rw [hi]; simp [hsz]) hheap (by rw [hlt]) hsrc (by rw [hlt]; simpa using hfit) (fun u hu => h1 u (List.mem_of_mem_take hu))
    rw [hlt] at hr
    refine ⟨_, _, upd N b (.cells (cs.take off ++ ys.take (min m dl) ++ cs.drop (off + min m dl)).toArray e2 (0, 0)) :: L1, hres _ _ hr, ?_, _, rfl, rfl, upd_self _ _ _⟩
    refine hw2.put hb rfl rfl rfl ?_ (fun k hk _ => ?_)
    · have := setRow_heap w b cs.toArray (cs.take off ++ ys.take (min m dl) ++ cs.drop (off + min m dl)).toArray e2 (0, 0) hheap
      simpa using this
    · simp only [World.setRow, Array.getElem?_modify, if_neg (Ne.symm hk)]
/-- copy into a slice that owns its block. -/
theorem op_copyR {xs ys : List Value} {dl dc m cap' : Nat} {ao ao' : Option Addr} (s : Nx P n l E L ⟨some d, .call ⟨.builtin .copy, #[x, y], #[t, t2]⟩, ty, pos, aft, g⟩ X Y) (ht : selt P t = some (e, 1))
    (hx : ev l x = some (.slice ao dl dc)) (hy : ev l y = some (.slice ao' m cap')) (hb : Row N e2 1 ao dl dc xs) (hs : RSl M 1 ao' m cap' ys) (hM : M ∈ L) (h1 : ∀ u ∈ ys, u.oneCell' = true) (sel : L.Perm (N :: L1)) (hn : Nat.ble (d + 1) n = true)
    (h : ∀ N', Row N' e2 1 ao dl dc (ys.take (min m dl) ++ xs.drop (min m dl)) → At n ((d, .int .i64 ((min m dl : Nat) : Int)) :: l) E (N' :: L1) Y) : At n l E L X := by
  obtain ⟨hu, i, hi, hsz⟩ := selt_spec ht
  have hlen : ys.length = m := hs.len
  have hxl : xs.length = dl := hb.rsl.len
  refine op_upd s (fun v L' => ∃ N', v = .int .i64 ((min m dl : Nat) : Int) ∧ L' = N' :: L1 ∧ Row N' e2 1 ao dl dc (ys.take (min m dl) ++ xs.drop (min m dl))) (fun a w hf hw => ?_) rfl hn (fun v L' ⟨N', e1, e2, hb'⟩ => by subst e1 e2; exact h N' hb')
  have hw2 := hw.perm sel
  have hres : ∀ u w', (Builtin.copy_ #[t, t2] ty #[.slice ao dl dc, .slice ao' m cap']).run P w = .ok u w' → (execOp a.eval ⟨some d, .call ⟨.builtin .copy, #[x, y], #[t, t2]⟩, ty, pos, aft, g⟩).run P w = .ok (.value u) w' := fun u w' hr => by
    simp only [execOp, resolve, invoke, builtin, Sem.run_bind, Sem.run_pure, Result.andThen_ok, List.map_toArray, List.map_cons, List.map_nil, hf.eval hx, hf.eval hy, hr]
  by_cases h0 : min m dl = 0
  · have hr := run_copy_none (P := P) w t t2 ty e ao ao' dl dc m cap' hu (by rw [hi]; simp [hsz]) h0
    refine ⟨_, w, N :: L1, hres _ _ hr, hw2, N, by rw [h0]; rfl, rfl, ?_⟩
    rw [h0, List.take_zero, List.nil_append, List.drop_zero]; exact hb
  · obtain ⟨b', off', rfl, hr'⟩ := hs.2.2.2 (by omega)
    obtain ⟨r1, r2, r3, r4⟩ := hb
    rcases r4 with ⟨_, h5, _⟩ | ⟨b, cur, rfl, hN, hcs, htk⟩
    · omega
    have hheap := hw2.sub N (List.mem_cons_self ..) _ _ hN
    have hsrc : ∀ j v, (ys.take (min m dl))[j]? = some v → w.cell? ((⟨b', off', none⟩ : Addr).add j) = some v := fun j v hj => by
      rw [List.getElem?_take] at hj
      split at hj
      · obtain ⟨hlt, rfl⟩ := List.getElem?_eq_some_iff.1 hj
        rw [addr_add]; exact hw.cell hM (hr' j hlt)
      · cases hj
    have hlt : (ys.take (min m dl)).length = min m dl := by rw [List.length_take]; omega
    have hr := run_copy_row (P := P) w t t2 ty e b 0 dl dc ⟨b', off', none⟩ m cap' cur e2 (ys.take (min m dl)) hu (by rw [hi]; simp [hsz]) hheap (by rw [hlt]) hsrc (by rw [hlt, hcs]; omega) (fun u hu => h1 u (List.mem_of_mem_take hu))
    rw [hlt, List.take_zero, List.nil_append, Nat.zero_add] at hr
    have hcl : cur.toList.length = dc := by simpa using hcs
    refine ⟨_, _, upd N b (.cells (ys.take (min m dl) ++ cur.toList.drop (min m dl)).toArray e2 (0, 0)) :: L1, hres _ _ hr, ?_, _, rfl, rfl, ⟨by simp; omega, r2, r3, .inr ⟨b, _, rfl, upd_self _ _ _, by simp; omega, ?_⟩⟩⟩
    · refine hw2.put hN rfl rfl rfl ?_ (fun k hk _ => ?_)
      · exact setRow_heap w b cur (ys.take (min m dl) ++ cur.toList.drop (min m dl)).toArray e2 (0, 0) hheap
      · simp only [World.setRow, Array.getElem?_modify, if_neg (Ne.symm hk)]
    · rw [← htk, Nat.mul_one, List.take_append, hlt, List.take_of_length_le (by omega : (ys.take (min m dl)).length ≤ dl), List.drop_take]
/-- A call of a function that the model answers itself. -/
theorem op_ext {f : FuncId} {xs : List Operand} {args : List Value} {ats : Array TypeId} (s : NxA P n l E L ⟨some d, .call ⟨.value (.func f), xs.toArray, ats⟩, ty, pos, aft, g⟩ X Y)
    (ha : Evs l xs args) (hr : ∀ w, (callFunc f args.toArray).run P w = .ok (.value v) w) (hn : Nat.ble (d + 1) n = true) (h : At n ((d, v) :: l) E L Y) : At n l E L X := fun a w hf hw => by
  refine s a w hf hw ?_
  unfold Oper.wp
  have hrun : (execOp a.eval ⟨some d, .call ⟨.value (.func f), xs.toArray, ats⟩, ty, pos, aft, g⟩).run P w = .ok (.value v) w := by
    have he : a.eval (.func f) = .func (.func f) #[] #[] := rfl
    simp only [execOp, resolve, invoke, Sem.run_bind, Sem.run_pure, Result.andThen_ok, List.map_toArray, ha.map hf, he, Deferred.ofValue, Array.empty_append, Array.append_empty, hr]
  rw [hrun]
  exact ⟨fun _ _ => rfl, h _ _ (hf.put (Nat.le_of_ble_eq_true hn)) hw⟩
/-! Functions as values. -/
inductive Cps (l : List (Nat × Value)) : List Operand → List Value → Prop
  | nil : Cps l [] []
  | cons {x : Operand} {v : Value} {xs : List Operand} {vs : List Value} (h : ev l x = some v) (k : Cps l xs vs) : Cps l (x :: xs) (v :: vs)
theorem Cps.map {xs : List Operand} {vs : List Value} (h : Cps l xs vs) {a : Act} (hf : Fr n l a) : xs.map a.eval = vs := by
  induction h with
  | nil => rfl
  | cons hx _ ih => rw [List.map_cons, hf.eval hx, ih]
theorem op_mkF {fn : Go.Fn} {first caps : List Operand} {fs cs : List Value} (s : NxF P n l E L Ls ⟨some d, .makeFunc fn first.toArray caps.toArray, ty, pos, aft, g⟩ X Y) (h1 : Cps l first fs) (h2 : Cps l caps cs) (hn : Nat.ble (d + 1) n = true) (h : At n ((d, .func fn fs.toArray cs.toArray) :: l) E L Y) : At n l E L X :=
  op_val s (fun a w hf _ => by
    simp [execOp, Instr.makeFunc, List.map_toArray, h1.map hf, h2.map hf]) rfl hn h
theorem op_callV {f : FuncId} {fn : Func} {c : Operand} {xs : List Operand} {args caps : List Value} {ats : Array TypeId} {L0 Lr F : List Heaplet} {Post : Value → List Heaplet → Prop} (s : Nx P n l E L ⟨some d, .call ⟨.value c, xs.toArray, ats⟩, ty, pos, aft, g⟩ X Y)
    (hcv : ev l c = some (.func (.func f) #[] caps.toArray)) (ha : Evs l xs args) (hc : Fn P f (args ++ caps).toArray L0 Lr Post) (hfn : P.funcs[f]? = some fn) (hb : fn.body.isSome = true) (hne : (fn.name == "runtime.NumGoroutine") = false) (hL : L.Perm (L0 ++ F)) (hr : ∀ N ∈ Lr, N ∈ F) (hn : Nat.ble (d + 1) n = true)
    (h : ∀ v L1, Post v L1 → At n ((d, v) :: l) E (L1 ++ F) Y) : At n l E L X := fun a w hf hw => by
  refine s a w hf hw ?_
  unfold Oper.wp
  have hw2 := hw.perm hL
  have hrun : (execOp a.eval ⟨some d, .call ⟨.value c, xs.toArray, ats⟩, ty, pos, aft, g⟩).run P w = .ok (.enter f (args ++ caps).toArray) w := by
    have hne' : fn.name ≠ "runtime.NumGoroutine" := by simpa using hne
    have he := hf.eval hcv
    have hap : args.toArray ++ caps.toArray = (args ++ caps).toArray := by simp
    simp only [execOp, resolve, invoke, Sem.run_bind, Sem.run_pure, Result.andThen_ok, List.map_toArray, ha.map hf, he, Deferred.ofValue, Array.empty_append, hap, run_call hfn hb hne']
  rw [hrun]
  have hsep := List.pairwise_append.1 hw2.sep
  let R : Heaplet := fun k => if ∃ N ∈ L0, N k ≠ none then none else w.heap[k]?
  have hRw : R.le (whole w) := fun k o hk => by
    simp only [R] at hk
    split at hk
    · cases hk
    · exact hk
  have hFR : ∀ N ∈ F, N.le R := fun N hN k o hk => by
    have hno : ¬ ∃ M ∈ L0, M k ≠ none := by
      rintro ⟨M, hM, hMk⟩
      rcases hsep.2.2 M hM N hN k with h | h
      · exact hMk h
      · rw [hk] at h; cases h
    simp only [R, if_neg hno]
    exact hw2.sub N (List.mem_append_right _ hN) k o hk
  have hwR : Hp E (L0 ++ [R]) w := by
    refine ⟨hw.os, hw.tape, hw.output, fun N hN => ?_, ?_⟩
    · rcases List.mem_append.1 hN with hN | hN
      · exact hw2.sub N (List.mem_append_left _ hN)
      · simp at hN; subst hN; exact hRw
    · rw [List.pairwise_append]
      refine ⟨hsep.1, by simp, fun A hA B hB k => ?_⟩
      simp at hB; subst hB
      by_cases hAk : A k = none
      · exact .inl hAk
      · exact .inr (if_pos ⟨A, hA, hAk⟩)
  refine Calls.mono (hc E w R hwR fun N hN => hFR N (hr N hN)) ?_
  rintro e w' ⟨v, L1, rfl, hP, hw'⟩
  exact h v L1 hP _ _ (hf.put (Nat.le_of_ble_eq_true hn)) (hw'.refine hFR hsep.2.1)
end
end Go.Proofs.Ytbmlhdecnfplaaa
/- The engine, part 13: longer lists of heaplets. For whatever program. No condition. -/
namespace Go.Proofs.Ytbmlhdecnfplaaa
set_option linter.unusedVariables false
set_option linter.unusedSimpArgs false
open Go
theorem sel13 {A0 A1 A2 A3 A4 A5 A6 A7 A8 A9 A10 A11 A12 A13 : Heaplet} {L : List Heaplet} : (A1 :: A2 :: A3 :: A4 :: A5 :: A6 :: A7 :: A8 :: A9 :: A10 :: A11 :: A12 :: A13 :: A0 :: L).Perm (A0 :: A1 :: A2 :: A3 :: A4 :: A5 :: A6 :: A7 :: A8 :: A9 :: A10 :: A11 :: A12 :: A13 :: L) := (List.Perm.cons _ sel12).trans (.swap _ _ _)
theorem sel14 {A0 A1 A2 A3 A4 A5 A6 A7 A8 A9 A10 A11 A12 A13 A14 : Heaplet} {L : List Heaplet} : (A1 :: A2 :: A3 :: A4 :: A5 :: A6 :: A7 :: A8 :: A9 :: A10 :: A11 :: A12 :: A13 :: A14 :: A0 :: L).Perm (A0 :: A1 :: A2 :: A3 :: A4 :: A5 :: A6 :: A7 :: A8 :: A9 :: A10 :: A11 :: A12 :: A13 :: A14 :: L) := (List.Perm.cons _ sel13).trans (.swap _ _ _)
theorem sel15 {A0 A1 A2 A3 A4 A5 A6 A7 A8 A9 A10 A11 A12 A13 A14 A15 : Heaplet} {L : List Heaplet} : (A1 :: A2 :: A3 :: A4 :: A5 :: A6 :: A7 :: A8 :: A9 :: A10 :: A11 :: A12 :: A13 :: A14 :: A15 :: A0 :: L).Perm (A0 :: A1 :: A2 :: A3 :: A4 :: A5 :: A6 :: A7 :: A8 :: A9 :: A10 :: A11 :: A12 :: A13 :: A14 :: A15 :: L) := (List.Perm.cons _ sel14).trans (.swap _ _ _)
theorem sel16 {A0 A1 A2 A3 A4 A5 A6 A7 A8 A9 A10 A11 A12 A13 A14 A15 A16 : Heaplet} {L : List Heaplet} : (A1 :: A2 :: A3 :: A4 :: A5 :: A6 :: A7 :: A8 :: A9 :: A10 :: A11 :: A12 :: A13 :: A14 :: A15 :: A16 :: A0 :: L).Perm (A0 :: A1 :: A2 :: A3 :: A4 :: A5 :: A6 :: A7 :: A8 :: A9 :: A10 :: A11 :: A12 :: A13 :: A14 :: A15 :: A16 :: L) := (List.Perm.cons _ sel15).trans (.swap _ _ _)
theorem sel17 {A0 A1 A2 A3 A4 A5 A6 A7 A8 A9 A10 A11 A12 A13 A14 A15 A16 A17 : Heaplet} {L : List Heaplet} : (A1 :: A2 :: A3 :: A4 :: A5 :: A6 :: A7 :: A8 :: A9 :: A10 :: A11 :: A12 :: A13 :: A14 :: A15 :: A16 :: A17 :: A0 :: L).Perm (A0 :: A1 :: A2 :: A3 :: A4 :: A5 :: A6 :: A7 :: A8 :: A9 :: A10 :: A11 :: A12 :: A13 :: A14 :: A15 :: A16 :: A17 :: L) := (List.Perm.cons _ sel16).trans (.swap _ _ _)
theorem sel18 {A0 A1 A2 A3 A4 A5 A6 A7 A8 A9 A10 A11 A12 A13 A14 A15 A16 A17 A18 : Heaplet} {L : List Heaplet} : (A1 :: A2 :: A3 :: A4 :: A5 :: A6 :: A7 :: A8 :: A9 :: A10 :: A11 :: A12 :: A13 :: A14 :: A15 :: A16 :: A17 :: A18 :: A0 :: L).Perm (A0 :: A1 :: A2 :: A3 :: A4 :: A5 :: A6 :: A7 :: A8 :: A9 :: A10 :: A11 :: A12 :: A13 :: A14 :: A15 :: A16 :: A17 :: A18 :: L) := (List.Perm.cons _ sel17).trans (.swap _ _ _)
theorem sel19 {A0 A1 A2 A3 A4 A5 A6 A7 A8 A9 A10 A11 A12 A13 A14 A15 A16 A17 A18 A19 : Heaplet} {L : List Heaplet} : (A1 :: A2 :: A3 :: A4 :: A5 :: A6 :: A7 :: A8 :: A9 :: A10 :: A11 :: A12 :: A13 :: A14 :: A15 :: A16 :: A17 :: A18 :: A19 :: A0 :: L).Perm (A0 :: A1 :: A2 :: A3 :: A4 :: A5 :: A6 :: A7 :: A8 :: A9 :: A10 :: A11 :: A12 :: A13 :: A14 :: A15 :: A16 :: A17 :: A18 :: A19 :: L) := (List.Perm.cons _ sel18).trans (.swap _ _ _)
theorem sel20 {A0 A1 A2 A3 A4 A5 A6 A7 A8 A9 A10 A11 A12 A13 A14 A15 A16 A17 A18 A19 A20 : Heaplet} {L : List Heaplet} : (A1 :: A2 :: A3 :: A4 :: A5 :: A6 :: A7 :: A8 :: A9 :: A10 :: A11 :: A12 :: A13 :: A14 :: A15 :: A16 :: A17 :: A18 :: A19 :: A20 :: A0 :: L).Perm (A0 :: A1 :: A2 :: A3 :: A4 :: A5 :: A6 :: A7 :: A8 :: A9 :: A10 :: A11 :: A12 :: A13 :: A14 :: A15 :: A16 :: A17 :: A18 :: A19 :: A20 :: L) := (List.Perm.cons _ sel19).trans (.swap _ _ _)
theorem sel21 {A0 A1 A2 A3 A4 A5 A6 A7 A8 A9 A10 A11 A12 A13 A14 A15 A16 A17 A18 A19 A20 A21 : Heaplet} {L : List Heaplet} : (A1 :: A2 :: A3 :: A4 :: A5 :: A6 :: A7 :: A8 :: A9 :: A10 :: A11 :: A12 :: A13 :: A14 :: A15 :: A16 :: A17 :: A18 :: A19 :: A20 :: A21 :: A0 :: L).Perm (A0 :: A1 :: A2 :: A3 :: A4 :: A5 :: A6 :: A7 :: A8 :: A9 :: A10 :: A11 :: A12 :: A13 :: A14 :: A15 :: A16 :: A17 :: A18 :: A19 :: A20 :: A21 :: L) := (List.Perm.cons _ sel20).trans (.swap _ _ _)
theorem sel22 {A0 A1 A2 A3 A4 A5 A6 A7 A8 A9 A10 A11 A12 A13 A14 A15 A16 A17 A18 A19 A20 A21 A22 : Heaplet} {L : List Heaplet} : (A1 :: A2 :: A3 :: A4 :: A5 :: A6 :: A7 :: A8 :: A9 :: A10 :: A11 :: A12 :: A13 :: A14 :: A15 :: A16 :: A17 :: A18 :: A19 :: A20 :: A21 :: A22 :: A0 :: L).Perm (A0 :: A1 :: A2 :: A3 :: A4 :: A5 :: A6 :: A7 :: A8 :: A9 :: A10 :: A11 :: A12 :: A13 :: A14 :: A15 :: A16 :: A17 :: A18 :: A19 :: A20 :: A21 :: A22 :: L) := (List.Perm.cons _ sel21).trans (.swap _ _ _)
theorem sel23 {A0 A1 A2 A3 A4 A5 A6 A7 A8 A9 A10 A11 A12 A13 A14 A15 A16 A17 A18 A19 A20 A21 A22 A23 : Heaplet} {L : List Heaplet} : (A1 :: A2 :: A3 :: A4 :: A5 :: A6 :: A7 :: A8 :: A9 :: A10 :: A11 :: A12 :: A13 :: A14 :: A15 :: A16 :: A17 :: A18 :: A19 :: A20 :: A21 :: A22 :: A23 :: A0 :: L).Perm (A0 :: A1 :: A2 :: A3 :: A4 :: A5 :: A6 :: A7 :: A8 :: A9 :: A10 :: A11 :: A12 :: A13 :: A14 :: A15 :: A16 :: A17 :: A18 :: A19 :: A20 :: A21 :: A22 :: A23 :: L) := (List.Perm.cons _ sel22).trans (.swap _ _ _)
theorem sel24 {A0 A1 A2 A3 A4 A5 A6 A7 A8 A9 A10 A11 A12 A13 A14 A15 A16 A17 A18 A19 A20 A21 A22 A23 A24 : Heaplet} {L : List Heaplet} : (A1 :: A2 :: A3 :: A4 :: A5 :: A6 :: A7 :: A8 :: A9 :: A10 :: A11 :: A12 :: A13 :: A14 :: A15 :: A16 :: A17 :: A18 :: A19 :: A20 :: A21 :: A22 :: A23 :: A24 :: A0 :: L).Perm (A0 :: A1 :: A2 :: A3 :: A4 :: A5 :: A6 :: A7 :: A8 :: A9 :: A10 :: A11 :: A12 :: A13 :: A14 :: A15 :: A16 :: A17 :: A18 :: A19 :: A20 :: A21 :: A22 :: A23 :: A24 :: L) := (List.Perm.cons _ sel23).trans (.swap _ _ _)
theorem sel25 {A0 A1 A2 A3 A4 A5 A6 A7 A8 A9 A10 A11 A12 A13 A14 A15 A16 A17 A18 A19 A20 A21 A22 A23 A24 A25 : Heaplet} {L : List Heaplet} : (A1 :: A2 :: A3 :: A4 :: A5 :: A6 :: A7 :: A8 :: A9 :: A10 :: A11 :: A12 :: A13 :: A14 :: A15 :: A16 :: A17 :: A18 :: A19 :: A20 :: A21 :: A22 :: A23 :: A24 :: A25 :: A0 :: L).Perm (A0 :: A1 :: A2 :: A3 :: A4 :: A5 :: A6 :: A7 :: A8 :: A9 :: A10 :: A11 :: A12 :: A13 :: A14 :: A15 :: A16 :: A17 :: A18 :: A19 :: A20 :: A21 :: A22 :: A23 :: A24 :: A25 :: L) := (List.Perm.cons _ sel24).trans (.swap _ _ _)
theorem sel26 {A0 A1 A2 A3 A4 A5 A6 A7 A8 A9 A10 A11 A12 A13 A14 A15 A16 A17 A18 A19 A20 A21 A22 A23 A24 A25 A26 : Heaplet} {L : List Heaplet} : (A1 :: A2 :: A3 :: A4 :: A5 :: A6 :: A7 :: A8 :: A9 :: A10 :: A11 :: A12 :: A13 :: A14 :: A15 :: A16 :: A17 :: A18 :: A19 :: A20 :: A21 :: A22 :: A23 :: A24 :: A25 :: A26 :: A0 :: L).Perm (A0 :: A1 :: A2 :: A3 :: A4 :: A5 :: A6 :: A7 :: A8 :: A9 :: A10 :: A11 :: A12 :: A13 :: A14 :: A15 :: A16 :: A17 :: A18 :: A19 :: A20 :: A21 :: A22 :: A23 :: A24 :: A25 :: A26 :: L) := (List.Perm.cons _ sel25).trans (.swap _ _ _)
theorem sel27 {A0 A1 A2 A3 A4 A5 A6 A7 A8 A9 A10 A11 A12 A13 A14 A15 A16 A17 A18 A19 A20 A21 A22 A23 A24 A25 A26 A27 : Heaplet} {L : List Heaplet} : (A1 :: A2 :: A3 :: A4 :: A5 :: A6 :: A7 :: A8 :: A9 :: A10 :: A11 :: A12 :: A13 :: A14 :: A15 :: A16 :: A17 :: A18 :: A19 :: A20 :: A21 :: A22 :: A23 :: A24 :: A25 :: A26 :: A27 :: A0 :: L).Perm (A0 :: A1 :: A2 :: A3 :: A4 :: A5 :: A6 :: A7 :: A8 :: A9 :: A10 :: A11 :: A12 :: A13 :: A14 :: A15 :: A16 :: A17 :: A18 :: A19 :: A20 :: A21 :: A22 :: A23 :: A24 :: A25 :: A26 :: A27 :: L) := (List.Perm.cons _ sel26).trans (.swap _ _ _)
theorem sel28 {A0 A1 A2 A3 A4 A5 A6 A7 A8 A9 A10 A11 A12 A13 A14 A15 A16 A17 A18 A19 A20 A21 A22 A23 A24 A25 A26 A27 A28 : Heaplet} {L : List Heaplet} : (A1 :: A2 :: A3 :: A4 :: A5 :: A6 :: A7 :: A8 :: A9 :: A10 :: A11 :: A12 :: A13 :: A14 :: A15 :: A16 :: A17 :: A18 :: A19 :: A20 :: A21 :: A22 :: A23 :: A24 :: A25 :: A26 :: A27 :: A28 :: A0 :: L).Perm (A0 :: A1 :: A2 :: A3 :: A4 :: A5 :: A6 :: A7 :: A8 :: A9 :: A10 :: A11 :: A12 :: A13 :: A14 :: A15 :: A16 :: A17 :: A18 :: A19 :: A20 :: A21 :: A22 :: A23 :: A24 :: A25 :: A26 :: A27 :: A28 :: L) := (List.Perm.cons _ sel27).trans (.swap _ _ _)
theorem sel29 {A0 A1 A2 A3 A4 A5 A6 A7 A8 A9 A10 A11 A12 A13 A14 A15 A16 A17 A18 A19 A20 A21 A22 A23 A24 A25 A26 A27 A28 A29 : Heaplet} {L : List Heaplet} : (A1 :: A2 :: A3 :: A4 :: A5 :: A6 :: A7 :: A8 :: A9 :: A10 :: A11 :: A12 :: A13 :: A14 :: A15 :: A16 :: A17 :: A18 :: A19 :: A20 :: A21 :: A22 :: A23 :: A24 :: A25 :: A26 :: A27 :: A28 :: A29 :: A0 :: L).Perm (A0 :: A1 :: A2 :: A3 :: A4 :: A5 :: A6 :: A7 :: A8 :: A9 :: A10 :: A11 :: A12 :: A13 :: A14 :: A15 :: A16 :: A17 :: A18 :: A19 :: A20 :: A21 :: A22 :: A23 :: A24 :: A25 :: A26 :: A27 :: A28 :: A29 :: L) := (List.Perm.cons _ sel28).trans (.swap _ _ _)
theorem sel30 {A0 A1 A2 A3 A4 A5 A6 A7 A8 A9 A10 A11 A12 A13 A14 A15 A16 A17 A18 A19 A20 A21 A22 A23 A24 A25 A26 A27 A28 A29 A30 : Heaplet} {L : List Heaplet} : (A1 :: A2 :: A3 :: A4 :: A5 :: A6 :: A7 :: A8 :: A9 :: A10 :: A11 :: A12 :: A13 :: A14 :: A15 :: A16 :: A17 :: A18 :: A19 :: A20 :: A21 :: A22 :: A23 :: A24 :: A25 :: A26 :: A27 :: A28 :: A29 :: A30 :: A0 :: L).Perm (A0 :: A1 :: A2 :: A3 :: A4 :: A5 :: A6 :: A7 :: A8 :: A9 :: A10 :: A11 :: A12 :: A13 :: A14 :: A15 :: A16 :: A17 :: A18 :: A19 :: A20 :: A21 :: A22 :: A23 :: A24 :: A25 :: A26 :: A27 :: A28 :: A29 :: A30 :: L) := (List.Perm.cons _ sel29).trans (.swap _ _ _)
theorem mem14 {A0 A1 A2 A3 A4 A5 A6 A7 A8 A9 A10 A11 A12 A13 A14 : Heaplet} {L : List Heaplet} : A0 ∈ A1 :: A2 :: A3 :: A4 :: A5 :: A6 :: A7 :: A8 :: A9 :: A10 :: A11 :: A12 :: A13 :: A14 :: A0 :: L := List.Mem.tail _ mem13
theorem mem15 {A0 A1 A2 A3 A4 A5 A6 A7 A8 A9 A10 A11 A12 A13 A14 A15 : Heaplet} {L : List Heaplet} : A0 ∈ A1 :: A2 :: A3 :: A4 :: A5 :: A6 :: A7 :: A8 :: A9 :: A10 :: A11 :: A12 :: A13 :: A14 :: A15 :: A0 :: L := List.Mem.tail _ mem14
theorem mem16 {A0 A1 A2 A3 A4 A5 A6 A7 A8 A9 A10 A11 A12 A13 A14 A15 A16 : Heaplet} {L : List Heaplet} : A0 ∈ A1 :: A2 :: A3 :: A4 :: A5 :: A6 :: A7 :: A8 :: A9 :: A10 :: A11 :: A12 :: A13 :: A14 :: A15 :: A16 :: A0 :: L := List.Mem.tail _ mem15
theorem mem17 {A0 A1 A2 A3 A4 A5 A6 A7 A8 A9 A10 A11 A12 A13 A14 A15 A16 A17 : Heaplet} {L : List Heaplet} : A0 ∈ A1 :: A2 :: A3 :: A4 :: A5 :: A6 :: A7 :: A8 :: A9 :: A10 :: A11 :: A12 :: A13 :: A14 :: A15 :: A16 :: A17 :: A0 :: L := List.Mem.tail _ mem16
theorem mem18 {A0 A1 A2 A3 A4 A5 A6 A7 A8 A9 A10 A11 A12 A13 A14 A15 A16 A17 A18 : Heaplet} {L : List Heaplet} : A0 ∈ A1 :: A2 :: A3 :: A4 :: A5 :: A6 :: A7 :: A8 :: A9 :: A10 :: A11 :: A12 :: A13 :: A14 :: A15 :: A16 :: A17 :: A18 :: A0 :: L := List.Mem.tail _ mem17
theorem mem19 {A0 A1 A2 A3 A4 A5 A6 A7 A8 A9 A10 A11 A12 A13 A14 A15 A16 A17 A18 A19 : Heaplet} {L : List Heaplet} : A0 ∈ A1 :: A2 :: A3 :: A4 :: A5 :: A6 :: A7 :: A8 :: A9 :: A10 :: A11 :: A12 :: A13 :: A14 :: A15 :: A16 :: A17 :: A18 :: A19 :: A0 :: L := List.Mem.tail _ mem18
theorem mem20 {A0 A1 A2 A3 A4 A5 A6 A7 A8 A9 A10 A11 A12 A13 A14 A15 A16 A17 A18 A19 A20 : Heaplet} {L : List Heaplet} : A0 ∈ A1 :: A2 :: A3 :: A4 :: A5 :: A6 :: A7 :: A8 :: A9 :: A10 :: A11 :: A12 :: A13 :: A14 :: A15 :: A16 :: A17 :: A18 :: A19 :: A20 :: A0 :: L := List.Mem.tail _ mem19
theorem mem21 {A0 A1 A2 A3 A4 A5 A6 A7 A8 A9 A10 A11 A12 A13 A14 A15 A16 A17 A18 A19 A20 A21 : Heaplet} {L : List Heaplet} : A0 ∈ A1 :: A2 :: A3 :: A4 :: A5 :: A6 :: A7 :: A8 :: A9 :: A10 :: A11 :: A12 :: A13 :: A14 :: A15 :: A16 :: A17 :: A18 :: A19 :: A20 :: A21 :: A0 :: L := List.Mem.tail _ mem20
theorem mem22 {A0 A1 A2 A3 A4 A5 A6 A7 A8 A9 A10 A11 A12 A13 A14 A15 A16 A17 A18 A19 A20 A21 A22 : Heaplet} {L : List Heaplet} : A0 ∈ A1 :: A2 :: A3 :: A4 :: A5 :: A6 :: A7 :: A8 :: A9 :: A10 :: A11 :: A12 :: A13 :: A14 :: A15 :: A16 :: A17 :: A18 :: A19 :: A20 :: A21 :: A22 :: A0 :: L := List.Mem.tail _ mem21
theorem mem23 {A0 A1 A2 A3 A4 A5 A6 A7 A8 A9 A10 A11 A12 A13 A14 A15 A16 A17 A18 A19 A20 A21 A22 A23 : Heaplet} {L : List Heaplet} : A0 ∈ A1 :: A2 :: A3 :: A4 :: A5 :: A6 :: A7 :: A8 :: A9 :: A10 :: A11 :: A12 :: A13 :: A14 :: A15 :: A16 :: A17 :: A18 :: A19 :: A20 :: A21 :: A22 :: A23 :: A0 :: L := List.Mem.tail _ mem22
theorem mem24 {A0 A1 A2 A3 A4 A5 A6 A7 A8 A9 A10 A11 A12 A13 A14 A15 A16 A17 A18 A19 A20 A21 A22 A23 A24 : Heaplet} {L : List Heaplet} : A0 ∈ A1 :: A2 :: A3 :: A4 :: A5 :: A6 :: A7 :: A8 :: A9 :: A10 :: A11 :: A12 :: A13 :: A14 :: A15 :: A16 :: A17 :: A18 :: A19 :: A20 :: A21 :: A22 :: A23 :: A24 :: A0 :: L := List.Mem.tail _ mem23
theorem mem25 {A0 A1 A2 A3 A4 A5 A6 A7 A8 A9 A10 A11 A12 A13 A14 A15 A16 A17 A18 A19 A20 A21 A22 A23 A24 A25 : Heaplet} {L : List Heaplet} : A0 ∈ A1 :: A2 :: A3 :: A4 :: A5 :: A6 :: A7 :: A8 :: A9 :: A10 :: A11 :: A12 :: A13 :: A14 :: A15 :: A16 :: A17 :: A18 :: A19 :: A20 :: A21 :: A22 :: A23 :: A24 :: A25 :: A0 :: L := List.Mem.tail _ mem24
theorem mem26 {A0 A1 A2 A3 A4 A5 A6 A7 A8 A9 A10 A11 A12 A13 A14 A15 A16 A17 A18 A19 A20 A21 A22 A23 A24 A25 A26 : Heaplet} {L : List Heaplet} : A0 ∈ A1 :: A2 :: A3 :: A4 :: A5 :: A6 :: A7 :: A8 :: A9 :: A10 :: A11 :: A12 :: A13 :: A14 :: A15 :: A16 :: A17 :: A18 :: A19 :: A20 :: A21 :: A22 :: A23 :: A24 :: A25 :: A26 :: A0 :: L := List.Mem.tail _ mem25
theorem mem27 {A0 A1 A2 A3 A4 A5 A6 A7 A8 A9 A10 A11 A12 A13 A14 A15 A16 A17 A18 A19 A20 A21 A22 A23 A24 A25 A26 A27 : Heaplet} {L : List Heaplet} : A0 ∈ A1 :: A2 :: A3 :: A4 :: A5 :: A6 :: A7 :: A8 :: A9 :: A10 :: A11 :: A12 :: A13 :: A14 :: A15 :: A16 :: A17 :: A18 :: A19 :: A20 :: A21 :: A22 :: A23 :: A24 :: A25 :: A26 :: A27 :: A0 :: L := List.Mem.tail _ mem26
theorem mem28 {A0 A1 A2 A3 A4 A5 A6 A7 A8 A9 A10 A11 A12 A13 A14 A15 A16 A17 A18 A19 A20 A21 A22 A23 A24 A25 A26 A27 A28 : Heaplet} {L : List Heaplet} : A0 ∈ A1 :: A2 :: A3 :: A4 :: A5 :: A6 :: A7 :: A8 :: A9 :: A10 :: A11 :: A12 :: A13 :: A14 :: A15 :: A16 :: A17 :: A18 :: A19 :: A20 :: A21 :: A22 :: A23 :: A24 :: A25 :: A26 :: A27 :: A28 :: A0 :: L := List.Mem.tail _ mem27
theorem mem29 {A0 A1 A2 A3 A4 A5 A6 A7 A8 A9 A10 A11 A12 A13 A14 A15 A16 A17 A18 A19 A20 A21 A22 A23 A24 A25 A26 A27 A28 A29 : Heaplet} {L : List Heaplet} : A0 ∈ A1 :: A2 :: A3 :: A4 :: A5 :: A6 :: A7 :: A8 :: A9 :: A10 :: A11 :: A12 :: A13 :: A14 :: A15 :: A16 :: A17 :: A18 :: A19 :: A20 :: A21 :: A22 :: A23 :: A24 :: A25 :: A26 :: A27 :: A28 :: A29 :: A0 :: L := List.Mem.tail _ mem28
theorem mem30 {A0 A1 A2 A3 A4 A5 A6 A7 A8 A9 A10 A11 A12 A13 A14 A15 A16 A17 A18 A19 A20 A21 A22 A23 A24 A25 A26 A27 A28 A29 A30 : Heaplet} {L : List Heaplet} : A0 ∈ A1 :: A2 :: A3 :: A4 :: A5 :: A6 :: A7 :: A8 :: A9 :: A10 :: A11 :: A12 :: A13 :: A14 :: A15 :: A16 :: A17 :: A18 :: A19 :: A20 :: A21 :: A22 :: A23 :: A24 :: A25 :: A26 :: A27 :: A28 :: A29 :: A30 :: A0 :: L := List.Mem.tail _ mem29
end Go.Proofs.Ytbmlhdecnfplaaa
