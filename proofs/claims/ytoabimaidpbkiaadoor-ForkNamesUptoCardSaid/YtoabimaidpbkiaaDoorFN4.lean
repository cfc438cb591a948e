/- The fork of a name, in the program and in the reference. Condition: Go's tables of white space and of UTF-8 are laid, where a contract says so. -/
import Derived.Test.YtoabimaidpbkiaaDoorFN3
namespace Go.Proofs.YtoabimaidpbkiaaDoor
set_option linter.unusedVariables false
set_option linter.unusedSimpArgs false
open Go Go.RowKit
def strs (l : List (List UInt8)) : List Value := l.map str
theorem strs_len (l : List (List UInt8)) : (strs l).length = l.length := by simp [strs]
theorem strs_get {l : List (List UInt8)} {k : Nat} (h : k < l.length) : (strs l)[k]? = some (str (l.getD k [])) := by
  rw [strs, List.getElem?_map, List.getElem?_eq_getElem h, List.getD_eq_getElem?_getD, List.getElem?_eq_getElem h]; rfl
/-- Where a text stands first; -1: nowhere. -/
def Nth (l : List (List UInt8)) (q : List UInt8) (r : Int) : Prop := (∃ k : Nat, k < l.length ∧ (∀ j, j < k → l.getD j [] ≠ q) ∧ l.getD k [] = q ∧ r = k) ∨ ((∀ k, k < l.length → l.getD k [] ≠ q) ∧ r = -1)
theorem Nth.at {l : List (List UInt8)} {q : List UInt8} {r : Int} (h : Nth l q r) {k : Nat} (hk : k < l.length) (hj : ∀ j, j < k → l.getD j [] ≠ q) (he : l.getD k [] = q) : r = k := by
  rcases h with ⟨m, hm, h1, h2, rfl⟩ | ⟨h1, _⟩
  · have a : ¬ m < k := fun h => hj m h h2
    have b : ¬ k < m := fun h => h1 k h he
    omega
  · exact absurd he (h1 k hk)
theorem Nth.no {l : List (List UInt8)} {q : List UInt8} {r : Int} (h : Nth l q r) {k : Nat} (hk : l.length ≤ k) (hj : ∀ j, j < k → l.getD j [] ≠ q) : r = -1 := by
  rcases h with ⟨m, hm, _, h2, _⟩ | ⟨_, h1⟩
  · exact absurd h2 (hj m (by omega))
  · exact h1
theorem Nth.exists (l : List (List UInt8)) (q : List UInt8) : ∃ r, Nth l q r := by
  have key : ∀ n, n ≤ l.length → (∃ k, k < n ∧ (∀ j, j < k → l.getD j [] ≠ q) ∧ l.getD k [] = q) ∨ (∀ k, k < n → l.getD k [] ≠ q) := by
    intro n
    induction n with
    | zero => intro _; right; intro k hk; omega
    | succ n ih =>
      intro hn
      rcases ih (by omega) with ⟨k, hk, h1, h2⟩ | h
      · exact .inl ⟨k, by omega, h1, h2⟩
      · by_cases he : l.getD n [] = q
        · exact .inl ⟨n, by omega, h, he⟩
        · right
          intro k hk
          by_cases hkn : k = n
          · subst hkn; exact he
          · exact h k (by omega)
  rcases key l.length (Nat.le_refl _) with ⟨k, hk, h1, h2⟩ | h
  · exact ⟨_, .inl ⟨k, hk, h1, h2, rfl⟩⟩
  · exact ⟨_, .inr ⟨h, rfl⟩⟩
theorem Nth.bound {l : List (List UInt8)} {q : List UInt8} {r : Int} (h : Nth l q r) : -1 ≤ r ∧ r < l.length := by
  rcases h with ⟨m, hm, _, _, rfl⟩ | ⟨_, rfl⟩ <;> omega
theorem next_ne {l : List (List UInt8)} {q : List UInt8} {k : Nat} (hj : ∀ j, j < k → l.getD j [] ≠ q) (hne : ¬ q = l.getD k []) : ∀ j, j < k + 1 → l.getD j [] ≠ q := fun j hjk => by
  by_cases e : j = k
  · subst e; exact fun h => hne h.symm
  · exact hj j (by omega)
set_option maxRecDepth 100000 in
theorem Index_f {N : Heaplet} {ao : Option Addr} {n cap : Nat} {l : List (List UInt8)} {q : List UInt8} {r : Int} (h : RSl N 1 ao n cap (strs l)) (hr : Nth l q r) : Fn Tryd.prog 32 #[.slice ao n cap, str q] [] [N] (fun v L => v = .int .i64 r ∧ L = []) := by
  have hlen : l.length = n := by have := h.len; rwa [strs_len] at this
  have hcap := h.cap63
  refine Fn.enter (vs := [.slice ao n cap, str q]) Tryd.func32 rfl rfl rfl ?_
  intro E R hR
  have h := h.le (hR N (by simp))
  change At _ _ E [R] _
  refine At.seq fun K1 hk_1 => ?_
  refine At.region ?_
  refine op_assign (nxlf rfl) rfl rfl ?_
  refine At.opsNil ?_
  refine At.norm (hk_1 ?_)
  refine At.seq fun K2 hk_2 => ?_
  refine At.seq fun K3 hk_3 => ?_
  refine At.region ?_
  refine op_move (nxlf rfl) rfl rfl ?_
  refine op_lenS (nxlf rfl) se64 rfl rfl ?_
  refine op_move (nxlf rfl) rfl rfl ?_
  refine At.opsNil ?_
  refine At.norm (hk_3 ?_)
  refine At.block ?_
  refine At.loop (fun fr_ hp_ ms_ => ∃ (k : Nat), fr_ = [(0, .slice ao n cap), (1, str q), (7, .int .i64 (n : Int)), (8, .int .i64 (k : Int))] ∧ hp_ = [R] ∧ n - k = ms_ ∧ (k ≤ n) ∧ (∀ j, j < k → l.getD j [] ≠ q)) ?_ (.refl _) ⟨0, rfl, rfl, rfl, by omega, fun j hj => absurd hj (Nat.not_lt_zero j)⟩ ?_
  · exact .cons (by first | exact lkI rfl (by omega) | rfl) (.cons (by first | exact lkI rfl (by omega) | rfl) (.cons (by first | exact lkI rfl (by omega) | rfl) (.cons (by first | exact lkI rfl (by omega) | rfl) .nil)))
  rintro _ _ _ ⟨k, rfl, rfl, rfl, hk, hj⟩
  refine At.seq fun K4 hk_4 => ?_
  refine At.region ?_
  refine op_lss (nxlf rfl) rfl rfl rfl ?_
  refine At.opsNil ?_
  refine At.norm (hk_4 ?_)
  refine At.seq fun K5 hk_5 => ?_
  refine At.condP rfl (fun c9 => ?_) (fun c9 => ?_)
  · refine At.skip ?_
    refine At.norm (hk_5 ?_)
    refine At.seq fun K6 hk_6 => ?_
    refine At.block ?_
    refine At.seq fun K7 hk_7 => ?_
    refine At.region ?_
    refine op_move (nxlf rfl) rfl rfl ?_
    refine op_assign (nxlf rfl) rfl rfl ?_
    refine At.opsNil ?_
    refine At.norm (hk_7 ?_)
    refine At.seq fun K8 hk_8 => ?_
    refine At.region ?_
    refine op_move (nxlf rfl) rfl rfl ?_
    refine op_move (nxlf rfl) rfl rfl ?_
    refine op_move (nxlf rfl) rfl rfl ?_
    refine op_idx1 (nxlf rfl) se64 rfl rfl (by assumption) (show _ = (((k : Nat)) : Int) from by omega) (by omega) rfl ?_
    refine op_loadE (nxlf rfl) sc9 rfl (by assumption) (by first | exact get8 (by omega) | exact get64 (by omega) | exact get32 (by omega) | exact strs_get (by omega)) (by first | exact mem0 | exact mem1 | exact mem2 | exact mem3 | exact mem4 | exact mem5 | exact mem6 | exact mem7 | exact mem8 | exact mem9) rfl ?_
    refine op_eqS (nxlf rfl) rfl rfl rfl ?_
    refine At.opsNil ?_
    refine At.norm (hk_8 ?_)
    refine At.condP rfl (fun c16 => ?_) (fun c16 => ?_)
    · refine At.seq fun K9 hk_9 => ?_
      refine At.region ?_
      refine op_move (nxlf rfl) rfl rfl ?_
      refine op_assign (nxlf rfl) rfl rfl ?_
      refine At.opsNil ?_
      refine At.norm (hk_9 ?_)
      refine At.ret (At.inRet (At.thenRet (At.thenRet (At.inRet (At.thenRet (?_))))))
      refine At.ret1 (L1 := []) rfl (.tmp rfl .nil) (.refl _) (.refl _) ?_
      rw [hr.at (k := k) (by omega) hj c16.symm]
      exact ⟨rfl, rfl⟩
    · refine At.skip ?_
      refine At.inNorm ?_
      refine At.norm (hk_6 ?_)
      refine At.region ?_
      refine op_addI (nxlf rfl) rfl rfl (by omega) (by omega) rfl ?_
      refine op_move (nxlf rfl) rfl rfl ?_
      refine At.opsNil ?_
      refine At.norm ?_
      refine At.back ?_ (.refl _) ⟨k + 1, rfl, rfl, rfl, by omega, next_ne hj c16⟩ ?_
      · exact .cons (by first | exact lkI rfl (by omega) | rfl) (.cons (by first | exact lkI rfl (by omega) | rfl) (.cons (by first | exact lkI rfl (by omega) | rfl) (.cons (by first | exact lkI rfl (by omega) | rfl) .nil)))
      · omega
  · refine At.exit (At.thenExit (At.thenExit (At.inHit ?_)))
    refine At.norm (hk_2 ?_)
    refine At.seq fun K10 hk_10 => ?_
    refine At.region ?_
    refine op_assign (nxlf rfl) rfl rfl ?_
    refine At.opsNil ?_
    refine At.norm (hk_10 ?_)
    refine At.ret (?_)
    refine At.ret1 (L1 := []) rfl (.tmp rfl .nil) (.refl _) (.refl _) ?_
    rw [hr.no (k := k) (by omega) hj]
    exact ⟨rfl, rfl⟩
end Go.Proofs.YtoabimaidpbkiaaDoor
