/- The fork of a name, in the program and in the reference. Condition: Go's tables of white space and of UTF-8 are laid, where a contract says so. -/
import Derived.Test.YtoabimaidpbkiaaDoorFN4
namespace Go.Proofs.YtoabimaidpbkiaaDoor
set_option linter.unusedVariables false
set_option linter.unusedSimpArgs false
open Go Go.RowKit
def lowNames : List (List UInt8) := namesL.map fun l => l.map lowB
def lowText : List UInt8 := namesText.map lowB
theorem fields_low : Lib.fields lowText = lowNames := by decide +kernel
theorem low_ascii : ∀ q ∈ lowNames, ∀ b ∈ q, b.toNat < 128 := by
  have h : lowNames.all (fun q => q.all fun b => decide (b.toNat < 128)) = true := by decide +kernel
  intro q hq b hb
  exact of_decide_eq_true (List.all_eq_true.1 (List.all_eq_true.1 h q hq) b hb)
theorem text_ascii : ∀ b ∈ namesText, b.toNat < 128 := by
  have h : namesText.all (fun b => decide (b.toNat < 128)) = true := by decide +kernel
  intro b hb
  exact of_decide_eq_true (List.all_eq_true.1 h b hb)
theorem text_low : Lib.mapD lowI namesText = lowText := map_ascii _ text_ascii
theorem lowNames_get (k : Nat) : lowNames.getD k [] = (namesL.getD k []).map lowB := by
  rw [List.getD_eq_getElem?_getD, List.getD_eq_getElem?_getD, lowNames, List.getElem?_map]
  cases namesL[k]? <;> rfl
theorem names_short (k : Nat) : (namesL.getD k []).length ≤ 35184372088832 := by
  have h : namesL.all (fun q => decide (q.length ≤ 20)) = true := by decide +kernel
  rw [List.getD_eq_getElem?_getD]
  cases e : namesL[k]? with
  | none => simp
  | some q =>
    have := of_decide_eq_true (List.all_eq_true.1 h q (List.mem_of_getElem? e))
    simp only [Option.getD_some]
    omega
theorem Nth.small {s : List UInt8} {r : Int} (h : Nth lowNames (s.map lowB) r) : Nth lowNames (Lib.mapD lowI s) r := by
  have key : ∀ k, k < lowNames.length → (lowNames.getD k [] = s.map lowB ↔ lowNames.getD k [] = Lib.mapD lowI s) := fun k hk => by
    have hm : lowNames.getD k [] ∈ lowNames := by
      rw [List.getD_eq_getElem?_getD, List.getElem?_eq_getElem hk]
      exact List.getElem_mem hk
    have := small_iff (l := s) (low_ascii _ hm)
    exact ⟨fun e => (this.2 e.symm).symm, fun e => (this.1 e.symm).symm⟩
  rcases h with ⟨k, hk, h1, h2, rfl⟩ | ⟨h1, rfl⟩
  · exact .inl ⟨k, hk, fun j hj e => h1 j hj ((key j (by omega)).2 e), (key k hk).1 h2, rfl⟩
  · exact .inr ⟨fun k hk e => h1 k hk ((key k hk).2 e), rfl⟩
theorem alloc_own (w : World) (T : TypeId) (cs : List Value) (h : cs.length ≤ maxLen) : (w.alloc (.cells cs.toArray T)).ownsRow w.heap.size T 1 (.slice (some ⟨w.heap.size, 0, none⟩) cs.length cs.length) cs.length cs :=
  ⟨(Nat.mul_one _).symm, .inr ⟨w.heap.size, cs.length, cs.toArray, rfl, Nat.le_refl _, heap_alloc_new w _, Nat.le_refl _, h, by simp, by simp⟩⟩
theorem Fn.of_row {P : Program} {f : FuncId} {args : Array Value} {Lr : List Heaplet} {T : TypeId} {cs : List Value} (hl : cs.length ≤ maxLen) (h : ∀ w, (∀ N ∈ Lr, N.le (whole w)) → Calls P f args w fun e w' => e = .returned (.slice (some ⟨w.heap.size, 0, none⟩) cs.length cs.length) ∧ w' = w.alloc (.cells cs.toArray T)) :
    Fn P f args [] Lr (fun v L => ∃ N ao cap, v = .slice ao cs.length cap ∧ L = [N] ∧ Row N T 1 ao cs.length cap cs) :=
  Fn.of_ownb fun w hr => (h w hr).mono fun e w' ⟨he, hw⟩ => by
    subst he; subst hw
    exact ⟨_, rfl, ⟨_, _, rfl, alloc_own w T cs hl⟩, (Below.refl _ _).alloc (Nat.le_refl _) _⟩
theorem rNames_f : Fn Tryd.prog 27 #[] [] [] (fun v L => ∃ N ao cap, v = .slice ao 16 cap ∧ L = [N] ∧ Row N 9 1 ao 16 cap (strs namesL)) :=
  Fn.of_row (cs := strs namesL) (by decide) fun w _ => refnames_c w
theorem FFieldsLow_f {N : Heaplet} (hN : TabH N) : Fn Tryd.prog 26 #[str lowText] [] [N] (fun v L => ∃ N ao cap, v = .slice ao 16 cap ∧ L = [N] ∧ Row N 9 1 ao 16 cap (strs lowNames)) :=
  Fn.of_row (cs := strs lowNames) (by decide) fun w hr => by
    have h := Any.strings_Fields Tryd.laysFields (by kernel_rfl) (by kernel_rfl) ⟨lowText.toArray⟩ w (by decide +kernel) (fun j b hb => by
      have h : lowText.all (fun b => decide (b.toNat < 128)) = true := by decide +kernel
      exact of_decide_eq_true (List.all_eq_true.1 h b (List.mem_of_getElem? hb))) (hN w (hr N (by simp)))
    rw [show (⟨lowText.toArray⟩ : ByteArray).data.toList = lowText from by simp, fields_low] at h
    exact h
theorem FSmallN_f {N : Heaplet} (hN : TabU N) : Fn Tryd.prog 33 #[str namesText] [] [N] (fun v L => v = str lowText ∧ L = []) :=
  (FSmall_f hN (by decide +kernel)).mono fun v L ⟨h1, h2⟩ => ⟨by rw [h1, text_low], h2⟩
section
variable {P : Program} {n : Nat} {l : List (Nat × Value)} {E : World} {L Ls : List Heaplet} {X Y : Act → World → Prop} {d : Nat} {ty t t2 : TypeId} {pos : String} {aft : Array Edge} {g : Option (Nat × Bool)} {x y : Operand} {p q : Int}
theorem op_maxI (s : NxF P n l E L Ls ⟨some d, .call ⟨.builtin .max, #[x, y], #[t, t2]⟩, ty, pos, aft, g⟩ X Y) (hx : ev l x = some (.int .i64 p)) (hy : ev l y = some (.int .i64 q)) (hn : Nat.ble (d + 1) n = true) (h : At n ((d, .int .i64 (if q > p then q else p)) :: l) E L Y) : At n l E L X := by
  refine op_val s (fun a w hf hw => ?_) rfl hn h
  simp only [execOp, resolve, invoke, builtin, Sem.run_bind, Sem.run_pure, Result.andThen_ok, List.map_toArray, List.map_cons, List.map_nil, hf.eval hx, hf.eval hy, Builtin.max_]
  rfl
end
/-- What both hand back. -/
def atName (r : Int) : Value := .tuple #[.int .i64 (if 0 > r then 0 else r), .bool (decide (0 ≤ r))]
set_option maxRecDepth 100000 in
theorem FNamed_f {N : Heaplet} (hN : TabH N) (hU : TabU N) {s : List UInt8} {r : Int} (hs : s.length < 35184372088832) (hr : Nth lowNames (s.map lowB) r) : Fn Tryd.prog 22 #[str s] [] [N] (fun v L => v = atName r ∧ L = []) := by
  have hr2 := hr.small
  refine Fn.enter (vs := [str s]) Tryd.func22 rfl rfl rfl ?_
  intro E R hR
  have hT := hN.le (hR N (by simp))
  have hU := hU.le (hR N (by simp))
  change At _ _ E [R] _
  refine At.seq fun K1 hk_1 => ?_
  refine At.region ?_
  refine op_assign (nxlf rfl) rfl rfl ?_
  refine op_assign (nxlf rfl) rfl rfl ?_
  refine At.opsNil ?_
  refine At.norm (hk_1 ?_)
  refine At.seq fun K2 hk_2 => ?_
  refine At.region ?_
  refine op_callA (nxla rfl) (.cons rfl .nil) (FSmallN_f hU) Tryd.func33 rfl rfl (by simp) rfl ?_
  rintro v5 L5 ⟨rfl, rfl⟩
  change At _ _ _ [R] _
  refine op_callA (nxla rfl) (.cons rfl .nil) (FFieldsLow_f hT) Tryd.func26 rfl rfl (by simp) rfl ?_
  rintro v6 L6 ⟨M6, a6, p6, rfl, rfl, r6⟩
  change At _ _ _ [M6, R] _
  have s6 := r6.rsl
  refine op_move (nxlf rfl) rfl rfl ?_
  refine op_callA (nxla rfl) (.cons rfl .nil) (FSmall_f hU hs) Tryd.func33 rfl rfl (by simp) rfl ?_
  rintro v8 L8 ⟨rfl, rfl⟩
  change At _ _ _ [M6, R] _
  refine op_callA (nxla rfl) (.cons rfl (.cons rfl .nil)) (Index_f s6 hr2) Tryd.func32 rfl rfl (by simp) rfl ?_
  rintro v9 L9 ⟨rfl, rfl⟩
  change At _ _ _ [M6, R] _
  refine op_assign (nxlf rfl) rfl rfl ?_
  refine At.opsNil ?_
  refine At.norm (hk_2 ?_)
  refine At.seq fun K3 hk_3 => ?_
  refine At.region ?_
  refine op_move (nxlf rfl) rfl rfl ?_
  refine op_maxI (nxlf rfl) rfl rfl rfl ?_
  refine op_move (nxlf rfl) rfl rfl ?_
  refine op_geq (nxlf rfl) rfl rfl rfl ?_
  refine op_assign (nxlf rfl) rfl rfl ?_
  refine op_assign (nxlf rfl) rfl rfl ?_
  refine At.opsNil ?_
  refine At.norm (hk_3 ?_)
  refine At.ret (?_)
  refine At.sub (L' := [R]) (.cons _ (.cons_cons _ (.slnil))) ?_
  refine At.retN (L1 := []) rfl (.tmp rfl (.tmp rfl .nil)) rfl (.refl _) (.refl _) ?_
  exact ⟨rfl, rfl⟩
set_option maxRecDepth 100000 in
theorem rNamed_f {s : List UInt8} {r : Int} (hs : s.length < 35184372088832) (hr : Nth lowNames (s.map lowB) r) : Fn Tryd.prog 23 #[str s] [] [] (fun v L => v = atName r ∧ L = []) := by
  have h16 : namesL.length = 16 := rfl
  have l16 : lowNames.length = 16 := rfl
  refine Fn.enter (vs := [str s]) Tryd.func23 rfl rfl rfl ?_
  intro E R hR
  change At _ _ E [R] _
  refine At.seq fun K1 hk_1 => ?_
  refine At.region ?_
  refine op_assign (nxlf rfl) rfl rfl ?_
  refine op_assign (nxlf rfl) rfl rfl ?_
  refine At.opsNil ?_
  refine At.norm (hk_1 ?_)
  refine At.seq fun K2 hk_2 => ?_
  refine At.region ?_
  refine op_callA (nxla rfl) .nil (rNames_f) Tryd.func27 rfl rfl (by simp) rfl ?_
  rintro v6 L6 ⟨M6, a6, p6, rfl, rfl, r6⟩
  change At _ _ _ [M6, R] _
  have s6 := r6.rsl
  refine op_assign (nxlf rfl) rfl rfl ?_
  refine At.opsNil ?_
  refine At.norm (hk_2 ?_)
  refine At.seq fun K3 hk_3 => ?_
  refine At.seq fun K4 hk_4 => ?_
  refine At.region ?_
  refine op_assign (nxlf rfl) rfl rfl ?_
  refine At.opsNil ?_
  refine At.norm (hk_4 ?_)
  refine At.block ?_
  refine At.loop (fun fr_ hp_ ms_ => ∃ (k : Nat), fr_ = [(0, str s), (4, .slice a6 16 p6), (5, .int .i64 (k : Int))] ∧ hp_ = [M6, R] ∧ 16 - k = ms_ ∧ (k ≤ 16) ∧ (∀ j, j < k → lowNames.getD j [] ≠ s.map lowB)) ?_ (.refl _) ⟨0, rfl, rfl, rfl, by omega, fun j hj => absurd hj (Nat.not_lt_zero j)⟩ ?_
  · exact .cons (by first | exact lkI rfl (by omega) | rfl) (.cons (by first | exact lkI rfl (by omega) | rfl) (.cons (by first | exact lkI rfl (by omega) | rfl) .nil))
  rintro _ _ _ ⟨k, rfl, rfl, rfl, hk, hj⟩
  have c6 := s6.cap63
  refine At.seq fun K5 hk_5 => ?_
  refine At.seq fun K6 hk_6 => ?_
  refine At.region ?_
  refine op_move (nxlf rfl) rfl rfl ?_
  refine op_move (nxlf rfl) rfl rfl ?_
  refine op_lenS (nxlf rfl) se64 rfl rfl ?_
  refine op_lss (nxlf rfl) rfl rfl rfl ?_
  refine At.opsNil ?_
  refine At.norm (hk_6 ?_)
  refine At.condP rfl (fun c10 => ?_) (fun c10 => ?_)
  · refine At.skip ?_
    refine At.norm (hk_5 ?_)
    refine At.seq fun K7 hk_7 => ?_
    refine At.block ?_
    refine At.seq fun K8 hk_8 => ?_
    refine At.region ?_
    refine op_move (nxlf rfl) rfl rfl ?_
    refine op_move (nxlf rfl) rfl rfl ?_
    refine op_idx1 (nxlf rfl) se64 rfl rfl s6 (show _ = (((k : Nat)) : Int) from by omega) (by omega) rfl ?_
    refine op_loadE (nxlf rfl) sc9 rfl s6 (by first | exact get8 (by omega) | exact get64 (by omega) | exact get32 (by omega) | exact strs_get (by omega)) (by first | exact mem0 | exact mem1 | exact mem2 | exact mem3 | exact mem4 | exact mem5 | exact mem6 | exact mem7 | exact mem8 | exact mem9) rfl ?_
    refine op_callA (nxla rfl) (.cons rfl .nil) (rLow_f (names_short k)) Tryd.func34 rfl rfl (by simp) rfl ?_
    rintro v17 L17 ⟨rfl, rfl⟩
    change At _ _ _ [M6, R] _
    refine op_move (nxlf rfl) rfl rfl ?_
    refine op_callA (nxla rfl) (.cons rfl .nil) (rLow_f (l := s) (by omega)) Tryd.func34 rfl rfl (by simp) rfl ?_
    rintro v19 L19 ⟨rfl, rfl⟩
    change At _ _ _ [M6, R] _
    refine op_eqS (nxlf rfl) rfl rfl rfl ?_
    refine At.opsNil ?_
    refine At.norm (hk_8 ?_)
    refine At.condP rfl (fun c20 => ?_) (fun c20 => ?_)
    · refine At.seq fun K9 hk_9 => ?_
      refine At.region ?_
      refine op_move (nxlf rfl) rfl rfl ?_
      refine op_assign (nxlf rfl) rfl rfl ?_
      refine op_assign (nxlf rfl) rfl rfl ?_
      refine At.opsNil ?_
      refine At.norm (hk_9 ?_)
      refine At.ret (At.inRet (At.thenRet (At.thenRet (At.inRet (At.thenRet (?_))))))
      refine At.sub (L' := [R]) (.cons _ (.cons_cons _ (.slnil))) ?_
      refine At.retN (L1 := []) rfl (.tmp rfl (.tmp rfl .nil)) rfl (.refl _) (.refl _) ?_
      have e := hr.at (k := k) (by omega) hj ((lowNames_get k).trans c20)
      subst e
      unfold atName
      rw [if_neg (by omega), decide_eq_true (by omega)]
      exact ⟨rfl, rfl⟩
    · refine At.skip ?_
      refine At.inNorm ?_
      refine At.norm (hk_7 ?_)
      refine At.region ?_
      refine op_move (nxlf rfl) rfl rfl ?_
      refine op_addI (nxlf rfl) rfl rfl (by omega) (by omega) rfl ?_
      refine op_assign (nxlf rfl) rfl rfl ?_
      refine At.opsNil ?_
      refine At.norm ?_
      refine At.back ?_ (.refl _) ⟨k + 1, rfl, rfl, rfl, by omega, next_ne hj (fun e => c20 (by rw [← lowNames_get]; exact e.symm))⟩ ?_
      · exact .cons (by first | exact lkI rfl (by omega) | rfl) (.cons (by first | exact lkI rfl (by omega) | rfl) (.cons (by first | exact lkI rfl (by omega) | rfl) .nil))
      · omega
  · refine At.exit (At.thenExit (At.thenExit (At.inHit ?_)))
    refine At.norm (hk_3 ?_)
    refine At.seq fun K10 hk_10 => ?_
    refine At.region ?_
    refine op_assign (nxlf rfl) rfl rfl ?_
    refine op_assign (nxlf rfl) rfl rfl ?_
    refine At.opsNil ?_
    refine At.norm (hk_10 ?_)
    refine At.ret (?_)
    refine At.sub (L' := [R]) (.cons _ (.cons_cons _ (.slnil))) ?_
    refine At.retN (L1 := []) rfl (.tmp rfl (.tmp rfl .nil)) rfl (.refl _) (.refl _) ?_
    have e := hr.no (k := k) (by omega) hj
    subst e
    exact ⟨rfl, rfl⟩
end Go.Proofs.YtoabimaidpbkiaaDoor
