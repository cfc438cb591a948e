/- The operation of a name; quarrylaw18.CodeNames answers true. Condition: the table of white space is laid. -/
import Derived.Test.YtdplcfineaikjaaDoorCN4
namespace Go.Proofs.YtdplcfineaikjaaDoor
set_option linter.unusedVariables false
set_option linter.unusedSimpArgs false
open Go Go.RowKit
/-- The first operation from i on, of so many, with this name. -/
def namedF (f : Int) (s : List UInt8) : Nat → Nat → Nat × Bool
  | 0, _ => (0, false)
  | k + 1, i => if s ≠ [] ∧ nameC f (i : Int) = s then (i, true) else namedF f s k (i + 1)
def namedC (f : Int) (s : List UInt8) : Nat × Bool := namedF f s 256 0
theorem named_nil (f : Int) : ∀ k i, namedF f [] k i = (0, false) := by
  intro k
  induction k with
  | zero => intro i; rfl
  | succ k ih => intro i; rw [namedF, if_neg (fun h => h.1 rfl)]; exact ih _
theorem named_hit {f : Int} {s : List UInt8} {k i : Nat} (h0 : s ≠ []) (h : nameC f (i : Int) = s) (hi : i + (k + 1) = 256) : namedF f s (256 - i) i = (i, true) := by
  rw [show 256 - i = k + 1 by omega, namedF, if_pos ⟨h0, h⟩]
theorem named_on {f : Int} {s : List UInt8} {i : Nat} (hi : i < 256) (h : ¬ (s ≠ [] ∧ nameC f (i : Int) = s)) : namedF f s (256 - i) i = namedF f s (256 - (i + 1)) (i + 1) := by
  rw [show 256 - i = (256 - (i + 1)) + 1 by omega, namedF, if_neg h]
theorem pair_ne {α : Type} {R : α → α → Prop} (hs : ∀ a b, R a b → R b a) : ∀ {l : List α}, l.Pairwise R → ∀ {a b : α}, a ∈ l → b ∈ l → a ≠ b → R a b := by
  intro l
  induction l with
  | nil => intro _ a b ha; cases ha
  | cons x t ih =>
    intro h a b ha hb hne
    obtain ⟨h1, h2⟩ := List.pairwise_cons.1 h
    rcases List.mem_cons.1 ha with e | ha2
    · subst e
      rcases List.mem_cons.1 hb with e | hb2
      · exact absurd e.symm hne
      · exact h1 b hb2
    · rcases List.mem_cons.1 hb with e | hb2
      · subst e; exact hs _ _ (h1 a ha2)
      · exact ih h2 ha2 hb2 hne
theorem name_one {f : Int} {i n : Nat} (hn : opM f (n : Int) = true) (hnn : n < 256) (hin : isOp n = true) (h : nameC f (i : Int) = nameC f (n : Int)) : i = n := by
  have hsn : nameC f (n : Int) ≠ [] := by rw [nameC_y hn]; exact names_some _ n hnn hin
  cases hi : opM f (i : Int) with
  | false => rw [nameC_no hi] at h; exact absurd h.symm hsn
  | true =>
    obtain ⟨j, hj, hjn, hji⟩ := op_range hi
    obtain rfl : i = j := by omega
    rw [nameC_y hi, nameC_y hn] at h
    by_cases e : i = n
    · exact e
    · refine absurd h (pair_ne (R := fun a b => nameN (decide (13 ≤ f)) a ≠ nameN (decide (13 ≤ f)) b) (fun _ _ h => Ne.symm h) (List.pairwise_map.1 (names_once (decide (13 ≤ f)))) ?_ ?_ e)
      · exact List.mem_filter.2 ⟨List.mem_range.2 hjn, hji⟩
      · exact List.mem_filter.2 ⟨List.mem_range.2 hnn, hin⟩
theorem named_self {f : Int} {n : Nat} (hn : opM f (n : Int) = true) (hnn : n < 256) (hin : isOp n = true) : namedC f (nameC f (n : Int)) = (n, true) := by
  have hsn : nameC f (n : Int) ≠ [] := by rw [nameC_y hn]; exact names_some _ n hnn hin
  have key : ∀ d i, i + d = n → namedF f (nameC f (n : Int)) (256 - i) i = (n, true) := by
    intro d
    induction d with
    | zero => intro i hi; obtain rfl : i = n := by omega
              exact named_hit (k := 255 - i) hsn rfl (by omega)
    | succ d ih =>
      intro i hi
      rw [named_on (by omega) (fun h => by have := name_one hn hnn hin h.2; omega)]
      exact ih (i + 1) (by omega)
  exact key n 0 (by omega)
section
variable {N : Heaplet} {s : List UInt8}
set_option maxRecDepth 100000 in
theorem FNamed_f (hN : TabH N) (f : Int) (s : List UInt8) : Fn Tryd.prog 18 #[.int .i64 f, str s] [] [N] (fun v L => v = .tuple #[.int .i64 ((namedC f s).1 : Int), .bool (namedC f s).2] ∧ L = []) := by
  refine Fn.enter (vs := [.int .i64 f, str s]) Tryd.func18 rfl rfl rfl ?_
  intro E R hR
  have hN := hN.le (hR N (by simp))
  change At _ _ E [R] _
  refine At.seq fun K1 hk_1 => ?_
  refine At.region ?_
  refine op_assign (nxlf rfl) rfl rfl ?_
  refine op_assign (nxlf rfl) rfl rfl ?_
  refine At.opsNil ?_
  refine At.norm (hk_1 ?_)
  refine At.seq fun K2 hk_2 => ?_
  refine At.seq fun K3 hk_3 => ?_
  refine At.region ?_
  refine op_move (nxlf rfl) rfl rfl ?_
  refine At.opsNil ?_
  refine At.norm (hk_3 ?_)
  refine At.block ?_
  refine At.loop (fun fr_ hp_ ms_ => ∃ (i : Nat), fr_ = [(0, .int .i64 f), (1, str s), (7, .int .i64 (i : Int))] ∧ hp_ = [R] ∧ 256 - i = ms_ ∧ (i ≤ 256) ∧ (namedF f s (256 - i) i = namedC f s)) ?_ (.refl _) ⟨0, rfl, rfl, rfl, by decide, rfl⟩ ?_
  · exact .cons (by first | exact lkI rfl (by omega) | rfl) (.cons (by first | exact lkI rfl (by omega) | rfl) (.cons (by first | exact lkI rfl (by omega) | rfl) .nil))
  rintro _ _ _ ⟨i, rfl, rfl, rfl, hi, hno⟩
  refine At.seq fun K4 hk_4 => ?_
  refine At.region ?_
  refine op_lss (nxlf rfl) rfl rfl rfl ?_
  refine At.opsNil ?_
  refine At.norm (hk_4 ?_)
  refine At.seq fun K5 hk_5 => ?_
  refine At.condP rfl (fun c8 => ?_) (fun c8 => ?_)
  · refine At.skip ?_
    refine At.norm (hk_5 ?_)
    refine At.seq fun K6 hk_6 => ?_
    refine At.block ?_
    refine At.seq fun K7 hk_7 => ?_
    refine At.region ?_
    refine op_move (nxlf rfl) rfl rfl ?_
    refine op_assign (nxlf rfl) rfl rfl ?_
    refine At.opsNil ?_
    refine At.norm (hk_7 ?_)
    refine At.seq fun K8 hk_8 => ?_
    refine At.region ?_
    refine op_move (nxlf rfl) rfl rfl ?_
    refine op_neS (b := []) (nxlf rfl) rfl rfl rfl ?_
    refine op_move (nxlf rfl) rfl rfl ?_
    refine At.partP (d := 12) rfl (fun g12 => ?_) (fun g12 => ?_)
    · refine op_move (nxgf rfl rfl rfl rfl) rfl rfl ?_
      refine op_move (nxgf rfl rfl rfl rfl) rfl rfl ?_
      refine op_callA (nxga rfl rfl rfl rfl) (.cons rfl (.cons rfl .nil)) (FName_f hN f i) Tryd.func21 rfl rfl (by simp) rfl ?_
      rintro v15 L15 ⟨rfl, rfl⟩
      change At _ _ _ [R] _
      refine op_move (nxgf rfl rfl rfl rfl) rfl rfl ?_
      refine op_eqS (nxgf rfl rfl rfl rfl) rfl rfl rfl ?_
      refine op_pickT (nxlf rfl) rfl rfl rfl ?_
      refine At.opsNil ?_
      refine At.norm (hk_8 ?_)
      refine At.condP rfl (fun c18 => ?_) (fun c18 => ?_)
      · refine At.seq fun K9 hk_9 => ?_
        refine At.region ?_
        refine op_move (nxlf rfl) rfl rfl ?_
        refine op_assign (nxlf rfl) rfl rfl ?_
        refine op_assign (nxlf rfl) rfl rfl ?_
        refine At.opsNil ?_
        refine At.norm (hk_9 ?_)
        refine At.ret (At.inRet (At.thenRet (At.thenRet (At.inRet (At.thenRet (?_))))))
        refine At.retN (L1 := []) rfl (.tmp rfl (.tmp rfl .nil)) rfl (.refl _) (.refl _) ?_
        exact ⟨by rw [← hno, named_hit (k := 255 - i) g12 c18 (by omega)], rfl⟩
      · refine At.skip ?_
        refine At.inNorm ?_
        refine At.norm (hk_6 ?_)
        refine At.region ?_
        refine op_addI (nxlf rfl) rfl rfl (by omega) (by omega) rfl ?_
        refine op_move (nxlf rfl) rfl rfl ?_
        refine At.opsNil ?_
        refine At.norm ?_
        refine At.back ?_ (.refl _) ⟨i + 1, rfl, rfl, rfl, by omega, by
          rw [← named_on (by omega) (fun h => by first | exact g12 h.1 | exact c18 h.2)]; exact hno⟩ ?_
        · exact .cons (by first | exact lkI rfl (by omega) | rfl) (.cons (by first | exact lkI rfl (by omega) | rfl) (.cons (by first | exact lkI rfl (by omega) | rfl) .nil))
        · omega
    · refine op_skip rfl rfl rfl rfl rfl rfl rfl ?_
      refine op_skip rfl rfl rfl rfl rfl rfl rfl ?_
      refine op_skip rfl rfl rfl rfl rfl rfl rfl ?_
      refine op_skip rfl rfl rfl rfl rfl rfl rfl ?_
      refine op_skip rfl rfl rfl rfl rfl rfl rfl ?_
      refine op_pickF (nxlf rfl) rfl rfl rfl ?_
      refine At.opsNil ?_
      refine At.norm (hk_8 ?_)
      refine At.condF rfl ?_
      refine At.skip ?_
      refine At.inNorm ?_
      refine At.norm (hk_6 ?_)
      refine At.region ?_
      refine op_addI (nxlf rfl) rfl rfl (by omega) (by omega) rfl ?_
      refine op_move (nxlf rfl) rfl rfl ?_
      refine At.opsNil ?_
      refine At.norm ?_
      refine At.back ?_ (.refl _) ⟨i + 1, rfl, rfl, rfl, by omega, by
        rw [← named_on (by omega) (fun h => by first | exact g12 h.1 | exact c18 h.2)]; exact hno⟩ ?_
      · exact .cons (by first | exact lkI rfl (by omega) | rfl) (.cons (by first | exact lkI rfl (by omega) | rfl) (.cons (by first | exact lkI rfl (by omega) | rfl) .nil))
      · omega
  · refine At.exit (At.thenExit (At.thenExit (At.inHit ?_)))
    refine At.norm (hk_2 ?_)
    refine At.seq fun K10 hk_10 => ?_
    refine At.region ?_
    refine op_assign (nxlf rfl) rfl rfl ?_
    refine op_assign (nxlf rfl) rfl rfl ?_
    refine At.opsNil ?_
    refine At.norm (hk_10 ?_)
    refine At.ret (?_)
    refine At.retN (L1 := []) rfl (.tmp rfl (.tmp rfl .nil)) rfl (.refl _) (.refl _) ?_
    exact ⟨by rw [← hno, show 256 - i = 0 by omega]; rfl, rfl⟩
set_option maxRecDepth 100000 in
theorem rNamed_f (f : Int) (s : List UInt8) : Fn Tryd.prog 19 #[.int .i64 f, str s] [] [] (fun v L => v = .tuple #[.int .i64 ((namedC f s).1 : Int), .bool (namedC f s).2] ∧ L = []) := by
  refine Fn.enter (vs := [.int .i64 f, str s]) Tryd.func19 rfl rfl rfl ?_
  intro E R hR
  change At _ _ E [R] _
  refine At.seq fun K1 hk_1 => ?_
  refine At.region ?_
  refine op_assign (nxlf rfl) rfl rfl ?_
  refine op_assign (nxlf rfl) rfl rfl ?_
  refine At.opsNil ?_
  refine At.norm (hk_1 ?_)
  refine At.seq fun K2 hk_2 => ?_
  refine At.seq fun K3 hk_3 => ?_
  refine At.region ?_
  refine op_assign (nxlf rfl) rfl rfl ?_
  refine At.opsNil ?_
  refine At.norm (hk_3 ?_)
  refine At.block ?_
  refine At.loop (fun fr_ hp_ ms_ => ∃ (i : Nat), fr_ = [(0, .int .i64 f), (1, str s), (6, .int .i64 (i : Int))] ∧ hp_ = [R] ∧ 256 - i = ms_ ∧ (i ≤ 256) ∧ (namedF f s (256 - i) i = namedC f s)) ?_ (.refl _) ⟨0, rfl, rfl, rfl, by decide, rfl⟩ ?_
  · exact .cons (by first | exact lkI rfl (by omega) | rfl) (.cons (by first | exact lkI rfl (by omega) | rfl) (.cons (by first | exact lkI rfl (by omega) | rfl) .nil))
  rintro _ _ _ ⟨i, rfl, rfl, rfl, hi, hno⟩
  refine At.seq fun K4 hk_4 => ?_
  refine At.seq fun K5 hk_5 => ?_
  refine At.region ?_
  refine op_move (nxlf rfl) rfl rfl ?_
  refine op_lss (nxlf rfl) rfl rfl rfl ?_
  refine op_move (nxlf rfl) rfl rfl ?_
  refine At.partP (d := 9) rfl (fun g9 => ?_) (fun g9 => ?_)
  · refine op_move (nxgf rfl rfl rfl rfl) rfl rfl ?_
    refine op_neS (b := []) (nxgf rfl rfl rfl rfl) rfl rfl rfl ?_
    refine op_pickT (nxlf rfl) rfl rfl rfl ?_
    refine At.opsNil ?_
    refine At.norm (hk_5 ?_)
    refine At.condP rfl (fun c12 => ?_) (fun c12 => ?_)
    · refine At.skip ?_
      refine At.norm (hk_4 ?_)
      refine At.seq fun K6 hk_6 => ?_
      refine At.block ?_
      refine At.seq fun K7 hk_7 => ?_
      refine At.region ?_
      refine op_move (nxlf rfl) rfl rfl ?_
      refine op_move (nxlf rfl) rfl rfl ?_
      refine op_callA (nxla rfl) (.cons rfl (.cons rfl .nil)) (rName_f f i) Tryd.func34 rfl rfl (by simp) rfl ?_
      rintro v17 L17 ⟨rfl, rfl⟩
      change At _ _ _ [R] _
      refine op_move (nxlf rfl) rfl rfl ?_
      refine op_eqS (nxlf rfl) rfl rfl rfl ?_
      refine At.opsNil ?_
      refine At.norm (hk_7 ?_)
      refine At.condP rfl (fun c19 => ?_) (fun c19 => ?_)
      · refine At.seq fun K8 hk_8 => ?_
        refine At.region ?_
        refine op_move (nxlf rfl) rfl rfl ?_
        refine op_assign (nxlf rfl) rfl rfl ?_
        refine op_assign (nxlf rfl) rfl rfl ?_
        refine At.opsNil ?_
        refine At.norm (hk_8 ?_)
        refine At.ret (At.inRet (At.thenRet (At.thenRet (At.inRet (At.thenRet (?_))))))
        refine At.retN (L1 := []) rfl (.tmp rfl (.tmp rfl .nil)) rfl (.refl _) (.refl _) ?_
        exact ⟨by rw [← hno, named_hit (k := 255 - i) c12 c19 (by omega)], rfl⟩
      · refine At.skip ?_
        refine At.inNorm ?_
        refine At.norm (hk_6 ?_)
        refine At.region ?_
        refine op_move (nxlf rfl) rfl rfl ?_
        refine op_addI (nxlf rfl) rfl rfl (by omega) (by omega) rfl ?_
        refine op_assign (nxlf rfl) rfl rfl ?_
        refine At.opsNil ?_
        refine At.norm ?_
        refine At.back ?_ (.refl _) ⟨i + 1, rfl, rfl, rfl, by omega, by
          rw [← named_on (by omega) (fun h => c19 h.2)]; exact hno⟩ ?_
        · exact .cons (by first | exact lkI rfl (by omega) | rfl) (.cons (by first | exact lkI rfl (by omega) | rfl) (.cons (by first | exact lkI rfl (by omega) | rfl) .nil))
        · omega
    · refine At.exit (At.thenExit (At.thenExit (At.inHit ?_)))
      refine At.norm (hk_2 ?_)
      refine At.seq fun K9 hk_9 => ?_
      refine At.region ?_
      refine op_assign (nxlf rfl) rfl rfl ?_
      refine op_assign (nxlf rfl) rfl rfl ?_
      refine At.opsNil ?_
      refine At.norm (hk_9 ?_)
      refine At.ret (?_)
      refine At.retN (L1 := []) rfl (.tmp rfl (.tmp rfl .nil)) rfl (.refl _) (.refl _) ?_
      first
        | exact ⟨by rw [← hno, show 256 - i = 0 by omega]; rfl, rfl⟩
        | (have hs0 : s = [] := by
             by_cases e : s = []
             · exact e
             · exact absurd e c12
           subst hs0
           exact ⟨by rw [namedC, named_nil]; rfl, rfl⟩)
  · refine op_skip rfl rfl rfl rfl rfl rfl rfl ?_
    refine op_skip rfl rfl rfl rfl rfl rfl rfl ?_
    refine op_pickF (nxlf rfl) rfl rfl rfl ?_
    refine At.opsNil ?_
    refine At.norm (hk_5 ?_)
    refine At.condF rfl ?_
    refine At.exit (At.thenExit (At.thenExit (At.inHit ?_)))
    refine At.norm (hk_2 ?_)
    refine At.seq fun K10 hk_10 => ?_
    refine At.region ?_
    refine op_assign (nxlf rfl) rfl rfl ?_
    refine op_assign (nxlf rfl) rfl rfl ?_
    refine At.opsNil ?_
    refine At.norm (hk_10 ?_)
    refine At.ret (?_)
    refine At.retN (L1 := []) rfl (.tmp rfl (.tmp rfl .nil)) rfl (.refl _) (.refl _) ?_
    first
      | exact ⟨by rw [← hno, show 256 - i = 0 by omega]; rfl, rfl⟩
      | (have hs0 : s = [] := by
           by_cases e : s = []
           · exact e
           · exact absurd e c12
         subst hs0
         exact ⟨by rw [namedC, named_nil]; rfl, rfl⟩)
set_option maxRecDepth 100000 in
set_option maxHeartbeats 4000000 in
theorem CodeNames_f (hN : TabH N) (f op : Int) (s : List UInt8) : Fn Tryd.prog 5 #[.int .i64 f, .int .i64 op, str s] [] [N] (fun v L => v = .bool true ∧ L = []) := by
  have hS : ∀ {M : Heaplet}, TabH M → Fn Tryd.prog 18 #[.int .i64 f, str (nameC f op)] [] [M] _ := fun hM => FNamed_f hM f (nameC f op)
  have hz : (namedC f (nameC f op)).2 = opM f op ∧ (opM f op = true → ((namedC f (nameC f op)).1 : Int) = op) := by
    cases h : opM f op with
    | false => rw [nameC_no h, namedC, named_nil]; exact ⟨rfl, fun e => by cases e⟩
    | true =>
      obtain ⟨n, rfl, hn, hi⟩ := op_range h
      rw [named_self h hn hi]
      exact ⟨rfl, fun _ => rfl⟩
  generalize namedC f (nameC f op) = z at hS hz
  obtain ⟨k, ok⟩ := z
  obtain ⟨hz1, hz2⟩ := hz
  have hz1 : ok = opM f op := hz1
  subst hz1
  have hz2 : opM f op = true → (k : Int) = op := hz2
  refine Fn.enter (vs := [.int .i64 f, .int .i64 op, str s]) Tryd.func5 rfl rfl rfl ?_
  intro E R hR
  have hN := hN.le (hR N (by simp))
  change At _ _ E [R] _
  refine At.seq fun K1 hk_1 => ?_
  refine At.region ?_
  refine op_assign (nxlf rfl) rfl rfl ?_
  refine At.opsNil ?_
  refine At.norm (hk_1 ?_)
  refine At.seq fun K2 hk_2 => ?_
  refine At.region ?_
  refine op_move (nxlf rfl) rfl rfl ?_
  refine op_move (nxlf rfl) rfl rfl ?_
  refine op_callA (nxla rfl) (.cons rfl (.cons rfl .nil)) (rRow_f f op) Tryd.func16 rfl rfl (by simp) rfl ?_
  rintro v26 L26 ⟨rfl, rfl⟩
  change At _ _ _ [R] _
  refine op_move (nxlf rfl) rfl rfl ?_
  refine op_extract (nxlf rfl) rfl rfl rfl ?_
  refine op_extract (nxlf rfl) rfl rfl rfl ?_
  refine op_extract (nxlf rfl) rfl rfl rfl ?_
  refine op_extract (nxlf rfl) rfl rfl rfl ?_
  refine op_assign (nxlf rfl) rfl rfl ?_
  refine op_assign (nxlf rfl) rfl rfl ?_
  refine op_assign (nxlf rfl) rfl rfl ?_
  refine op_assign (nxlf rfl) rfl rfl ?_
  refine At.opsNil ?_
  refine At.norm (hk_2 ?_)
  refine At.seq fun K3 hk_3 => ?_
  refine At.region ?_
  refine op_move (nxlf rfl) rfl rfl ?_
  refine op_move (nxlf rfl) rfl rfl ?_
  refine op_callA (nxla rfl) (.cons rfl (.cons rfl .nil)) (FPops_f f op) Tryd.func17 rfl rfl (by simp) rfl ?_
  rintro v34 L34 ⟨rfl, rfl⟩
  change At _ _ _ [R] _
  refine op_move (nxlf rfl) rfl rfl ?_
  refine op_extract (nxlf rfl) rfl rfl rfl ?_
  refine op_extract (nxlf rfl) rfl rfl rfl ?_
  refine op_extract (nxlf rfl) rfl rfl rfl ?_
  refine op_assign (nxlf rfl) rfl rfl ?_
  refine op_assign (nxlf rfl) rfl rfl ?_
  refine op_assign (nxlf rfl) rfl rfl ?_
  refine At.opsNil ?_
  refine At.norm (hk_3 ?_)
  refine At.seq fun K4 hk_4 => ?_
  refine At.region ?_
  refine op_move (nxlf rfl) rfl rfl ?_
  refine op_move (nxlf rfl) rfl rfl ?_
  refine op_callA (nxla rfl) (.cons rfl (.cons rfl .nil)) (FNamed_f hN f s) Tryd.func18 rfl rfl (by simp) rfl ?_
  rintro v41 L41 ⟨rfl, rfl⟩
  change At _ _ _ [R] _
  refine op_move (nxlf rfl) rfl rfl ?_
  refine op_extract (nxlf rfl) rfl rfl rfl ?_
  refine op_extract (nxlf rfl) rfl rfl rfl ?_
  refine op_assign (nxlf rfl) rfl rfl ?_
  refine op_assign (nxlf rfl) rfl rfl ?_
  refine At.opsNil ?_
  refine At.norm (hk_4 ?_)
  refine At.seq fun K5 hk_5 => ?_
  refine At.region ?_
  refine op_move (nxlf rfl) rfl rfl ?_
  refine op_move (nxlf rfl) rfl rfl ?_
  refine op_callA (nxla rfl) (.cons rfl (.cons rfl .nil)) (rNamed_f f s) Tryd.func19 rfl rfl (by simp) rfl ?_
  rintro v47 L47 ⟨rfl, rfl⟩
  change At _ _ _ [R] _
  refine op_move (nxlf rfl) rfl rfl ?_
  refine op_extract (nxlf rfl) rfl rfl rfl ?_
  refine op_extract (nxlf rfl) rfl rfl rfl ?_
  refine op_assign (nxlf rfl) rfl rfl ?_
  refine op_assign (nxlf rfl) rfl rfl ?_
  refine At.opsNil ?_
  refine At.norm (hk_5 ?_)
  refine At.seq fun K6 hk_6 => ?_
  refine At.region ?_
  refine op_move (nxlf rfl) rfl rfl ?_
  refine op_move (nxlf rfl) rfl rfl ?_
  refine op_callA (nxla rfl) (.cons rfl (.cons rfl .nil)) (rShape_f f op) Tryd.func20 rfl rfl (by simp) rfl ?_
  rintro v53 L53 ⟨rfl, rfl⟩
  change At _ _ _ [R] _
  refine op_move (nxlf rfl) rfl rfl ?_
  refine op_extract (nxlf rfl) rfl rfl rfl ?_
  refine op_extract (nxlf rfl) rfl rfl rfl ?_
  refine op_extract (nxlf rfl) rfl rfl rfl ?_
  refine op_assign (nxlf rfl) rfl rfl ?_
  refine op_assign (nxlf rfl) rfl rfl ?_
  refine op_assign (nxlf rfl) rfl rfl ?_
  refine At.opsNil ?_
  refine At.norm (hk_6 ?_)
  refine At.seq fun K7 hk_7 => ?_
  refine At.seq fun K8 hk_8 => ?_
  refine At.region ?_
  refine op_move (nxlf rfl) rfl rfl ?_
  refine op_move (nxlf rfl) rfl rfl ?_
  refine op_neq (nxlf rfl) rfl rfl rfl ?_
  refine op_move (nxlf rfl) rfl rfl ?_
  refine At.partP (d := 60) rfl (fun g60 => ?_) (fun g60 => ?_)
  · exact absurd rfl g60
  · refine op_move (nxgf rfl rfl rfl rfl) rfl rfl ?_
    refine op_move (nxgf rfl rfl rfl rfl) rfl rfl ?_
    refine op_neq (nxgf rfl rfl rfl rfl) rfl rfl rfl ?_
    refine op_pickF (nxlf rfl) rfl rfl rfl ?_
    refine op_move (nxlf rfl) rfl rfl ?_
    refine At.partP (d := 65) rfl (fun g65 => ?_) (fun g65 => ?_)
    · exact absurd rfl g65
    · refine op_move (nxgf rfl rfl rfl rfl) rfl rfl ?_
      refine op_move (nxgf rfl rfl rfl rfl) rfl rfl ?_
      refine op_neB (nxgf rfl rfl rfl rfl) Tryd.underlying4 rfl rfl rfl ?_
      rw [bne_self_eq_false]
      refine op_pickF (nxlf rfl) rfl rfl rfl ?_
      refine At.opsNil ?_
      refine At.norm (hk_8 ?_)
      refine At.condF rfl ?_
      refine At.skip ?_
      refine At.norm (hk_7 ?_)
      refine At.seq fun K9 hk_9 => ?_
      refine At.seq fun K10 hk_10 => ?_
      refine At.region ?_
      refine op_move (nxlf rfl) rfl rfl ?_
      refine op_move (nxlf rfl) rfl rfl ?_
      refine op_callA (nxla rfl) (.cons rfl (.cons rfl .nil)) (FName_f hN f op) Tryd.func21 rfl rfl (by simp) rfl ?_
      rintro v72 L72 ⟨rfl, rfl⟩
      change At _ _ _ [R] _
      refine op_move (nxlf rfl) rfl rfl ?_
      refine op_neS (nxlf rfl) rfl rfl rfl ?_
      refine op_move (nxlf rfl) rfl rfl ?_
      refine At.partP (d := 75) rfl (fun g75 => ?_) (fun g75 => ?_)
      · exact absurd rfl g75
      · refine op_move (nxgf rfl rfl rfl rfl) rfl rfl ?_
        refine op_move (nxgf rfl rfl rfl rfl) rfl rfl ?_
        refine op_neq (nxgf rfl rfl rfl rfl) rfl rfl rfl ?_
        refine op_pickF (nxlf rfl) rfl rfl rfl ?_
        refine op_move (nxlf rfl) rfl rfl ?_
        refine At.partP (d := 80) rfl (fun g80 => ?_) (fun g80 => ?_)
        · exact absurd rfl g80
        · refine op_move (nxgf rfl rfl rfl rfl) rfl rfl ?_
          refine op_move (nxgf rfl rfl rfl rfl) rfl rfl ?_
          refine op_neq (nxgf rfl rfl rfl rfl) rfl rfl rfl ?_
          refine op_pickF (nxlf rfl) rfl rfl rfl ?_
          refine op_move (nxlf rfl) rfl rfl ?_
          refine At.partP (d := 85) rfl (fun g85 => ?_) (fun g85 => ?_)
          · exact absurd rfl g85
          · refine op_move (nxgf rfl rfl rfl rfl) rfl rfl ?_
            refine op_move (nxgf rfl rfl rfl rfl) rfl rfl ?_
            refine op_neB (nxgf rfl rfl rfl rfl) Tryd.underlying4 rfl rfl rfl ?_
            rw [bne_self_eq_false]
            refine op_pickF (nxlf rfl) rfl rfl rfl ?_
            refine op_move (nxlf rfl) rfl rfl ?_
            refine op_move (nxgf rfl rfl rfl rfl) rfl rfl ?_
            refine op_move (nxgf rfl rfl rfl rfl) rfl rfl ?_
            refine op_neq (nxgf rfl rfl rfl rfl) rfl rfl rfl ?_
            refine op_pickF (nxlf rfl) rfl rfl rfl ?_
            refine op_move (nxlf rfl) rfl rfl ?_
            refine At.partP (d := 95) rfl (fun g95 => ?_) (fun g95 => ?_)
            · exact absurd rfl g95
            · refine op_move (nxgf rfl rfl rfl rfl) rfl rfl ?_
              refine op_move (nxgf rfl rfl rfl rfl) rfl rfl ?_
              refine op_neB (nxgf rfl rfl rfl rfl) Tryd.underlying4 rfl rfl rfl ?_
              rw [bne_self_eq_false]
              refine op_pickF (nxlf rfl) rfl rfl rfl ?_
              refine At.opsNil ?_
              refine At.norm (hk_10 ?_)
              refine At.condF rfl ?_
              refine At.skip ?_
              refine At.norm (hk_9 ?_)
              refine At.seq fun K11 hk_11 => ?_
              refine At.region ?_
              refine op_move (nxlf rfl) rfl rfl ?_
              refine op_move (nxlf rfl) rfl rfl ?_
              refine op_callA (nxla rfl) (.cons rfl (.cons rfl .nil)) (hS hN) Tryd.func18 rfl rfl (by simp) rfl ?_
              rintro v103 L103 ⟨rfl, rfl⟩
              change At _ _ _ [R] _
              refine op_move (nxlf rfl) rfl rfl ?_
              refine op_extract (nxlf rfl) rfl rfl rfl ?_
              refine op_extract (nxlf rfl) rfl rfl rfl ?_
              refine op_assign (nxlf rfl) rfl rfl ?_
              refine op_assign (nxlf rfl) rfl rfl ?_
              refine At.opsNil ?_
              refine At.norm (hk_11 ?_)
              refine At.seq fun K12 hk_12 => ?_
              refine At.region ?_
              refine op_move (nxlf rfl) rfl rfl ?_
              refine op_move (nxlf rfl) rfl rfl ?_
              refine op_eqB (nxlf rfl) Tryd.underlying4 rfl rfl rfl ?_
              rw [beq_self_eq_true]
              refine op_move (nxlf rfl) rfl rfl ?_
              refine op_move (nxgf rfl rfl rfl rfl) rfl rfl ?_
              refine op_not (nxgf rfl rfl rfl rfl) rfl rfl ?_
              refine op_move (nxgf rfl rfl rfl rfl) rfl rfl ?_
              refine At.part (d := 112) rfl (fun g112 => ?_) (fun g112 => ?_)
              · refine op_skip rfl rfl rfl rfl rfl rfl rfl ?_
                refine op_skip rfl rfl rfl rfl rfl rfl rfl ?_
                refine op_skip rfl rfl rfl rfl rfl rfl rfl ?_
                refine op_pickT (nxgf rfl rfl rfl rfl) rfl rfl rfl ?_
                refine op_pickT (nxlf rfl) rfl rfl rfl ?_
                refine op_move (nxlf rfl) rfl rfl ?_
                refine op_callA (nxga rfl rfl rfl rfl) .nil (Cwakes_f hN) Tryd.func13 rfl rfl (by simp) rfl ?_
                rintro v119 L119 ⟨rfl, rfl⟩
                change At _ _ _ [R] _
                refine op_pickT (nxlf rfl) rfl rfl rfl ?_
                refine op_assign (nxlf rfl) rfl rfl ?_
                refine At.opsNil ?_
                refine At.norm (hk_12 ?_)
                refine At.ret (?_)
                refine At.ret1 (L1 := []) rfl (.tmp rfl .nil) (.refl _) (.refl _) ?_
                exact ⟨rfl, rfl⟩
              · refine op_move (nxgf rfl rfl rfl rfl) rfl rfl ?_
                refine op_move (nxgf rfl rfl rfl rfl) rfl rfl ?_
                refine op_eql (nxgf rfl rfl rfl rfl) rfl rfl rfl ?_
                refine op_pickF (nxgf rfl rfl rfl rfl) rfl rfl rfl ?_
                refine op_pickT (nxlf rfl) rfl rfl rfl ?_
                refine op_move (nxlf rfl) rfl rfl ?_
                refine At.partP (d := 118) rfl (fun g118 => ?_) (fun g118 => ?_)
                · refine op_callA (nxga rfl rfl rfl rfl) .nil (Cwakes_f hN) Tryd.func13 rfl rfl (by simp) rfl ?_
                  rintro v119 L119 ⟨rfl, rfl⟩
                  change At _ _ _ [R] _
                  refine op_pickT (nxlf rfl) rfl rfl rfl ?_
                  refine op_assign (nxlf rfl) rfl rfl ?_
                  refine At.opsNil ?_
                  refine At.norm (hk_12 ?_)
                  refine At.ret (?_)
                  refine At.ret1 (L1 := []) rfl (.tmp rfl .nil) (.refl _) (.refl _) ?_
                  exact ⟨rfl, rfl⟩
                · exact absurd (hz2 (by cases h : opM f op with | false => rw [h] at g112; cases g112 | true => rfl)) g118
end
end Go.Proofs.YtdplcfineaikjaaDoor
