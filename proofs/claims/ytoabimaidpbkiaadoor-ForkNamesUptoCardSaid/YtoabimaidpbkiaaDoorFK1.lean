/- The fork's functions as contracts; structs of integers compared. No condition. -/
import Derived.Test.YtoabimaidpbkiaaDoorG13
import Derived.Test.YtoabimaidpbkiaaDoorTy
import Derived.Test.YtoabimaidpbkiaaDoorF7
import Derived.Test.YtoabimaidpbkiaaDoorF10
import Derived.Test.YtoabimaidpbkiaaDoorFW1
import Derived.Test.YtoabimaidpbkiaaDoorF3
import Derived.Laws.StructEq
namespace Go.Proofs.YtoabimaidpbkiaaDoor
set_option linter.unusedVariables false
set_option linter.unusedSimpArgs false
open Go Go.RowKit
theorem Fn.of_val {P : Program} {f : FuncId} {args : Array Value} {Lr : List Heaplet} {X : Value} (h : ∀ w, (∀ N ∈ Lr, N.le (whole w)) → Calls P f args w (Ret w fun v _ => v = X)) : Fn P f args [] Lr (fun v L => v = X ∧ L = []) :=
  Fn.of_ret h fun _ _ _ hv _ => ⟨[], ⟨hv, rfl⟩, fun N hN => absurd hN List.not_mem_nil, .nil⟩
theorem Fn.of_same0 {P : Program} {f : FuncId} {args : Array Value} {X : Value} (h : ∀ w, Calls P f args w fun e w' => e = .returned X ∧ w' = w) : Fn P f args [] [] (fun v L => v = X ∧ L = []) :=
  Fn.of_val fun w _ => (h w).mono fun e w' ⟨he, hw⟩ => by subst he; subst hw; exact ⟨_, rfl, rfl, Below.refl _ _⟩
theorem Fn.of_alloc {P : Program} {f : FuncId} {args : Array Value} {Lr : List Heaplet} {X : Value} {o : Obj} (h : ∀ w, (∀ N ∈ Lr, N.le (whole w)) → Calls P f args w fun e w' => e = .returned X ∧ w' = w.alloc o) : Fn P f args [] Lr (fun v L => v = X ∧ L = []) :=
  Fn.of_val fun w hr => (h w hr).mono fun e w' ⟨he, hw⟩ => by subst he; subst hw; exact ⟨_, rfl, rfl, (Below.refl _ _).alloc (Nat.le_refl _) _⟩
/-- The table of white space, in this part of the memory. -/
def TabH (N : Heaplet) : Prop := ∀ w, N.le (whole w) → Lib.TabIs Tryd.prog w "strings.asciiSpace" .u8 Lib.asciiSpaceTab
theorem TabH.le {N M : Heaplet} (h : TabH N) (hl : N.le M) : TabH M := fun w hw => h w (Heaplet.le_trans hl hw)
/-- The numbers of a fork as a list. -/
def rulesL (f : Int) : List Value := [.int .i64 f, .int .u64 21000, .int .u64 (mTxCreate f : Int), .int .u64 4, .int .u64 (mTxByte f : Int), .int .u64 (mTxAddress f : Int), .int .u64 (mTxKey f : Int), .int .u64 (mInitWord f : Int), .int .i64 (mMaxInit f : Int), .int .i64 (mMaxCode f : Int), .int .u64 (mBalance f : Int), .int .u64 (mExtSize f : Int), .int .u64 (mExtHash f : Int), .int .u64 (mLoad f : Int), .int .u64 (mCall f : Int), .int .u64 (mCold f : Int), .int .u64 (mColdSlot f : Int), .int .u64 (mWarm f : Int), .int .u64 (mDestroy f : Int), .int .u64 (mDestroyNew f : Int), .int .u64 (mDestroyBack f : Int), .int .u64 (mExpByte f : Int), .int .u64 (mStoreBack f : Int), .int .u64 (mRefundPart f : Int), .int .u64 (mReward f : Int), .int .u64 (mBomb f : Int)]
def zeroL : List Value := [.int .i64 0, .int .u64 0, .int .u64 0, .int .u64 0, .int .u64 0, .int .u64 0, .int .u64 0, .int .u64 0, .int .i64 0, .int .i64 0, .int .u64 0, .int .u64 0, .int .u64 0, .int .u64 0, .int .u64 0, .int .u64 0, .int .u64 0, .int .u64 0, .int .u64 0, .int .u64 0, .int .u64 0, .int .u64 0, .int .u64 0, .int .u64 0, .int .u64 0, .int .u64 0]
theorem FOf_f (f : Int) (h : 0 ≤ f) (h2 : f ≤ 15) : Fn Tryd.prog 8 #[.int .i64 f] [] [] (fun v L => v = .tuple #[.agg (rulesL f).toArray, .int .i64 0] ∧ L = []) := Fn.of_val fun w _ => of_c w f h h2
theorem rOf_f (f : Int) (h : 0 ≤ f) (h2 : f ≤ 15) : Fn Tryd.prog 9 #[.int .i64 f] [] [] (fun v L => v = .tuple #[.agg (rulesL f).toArray, .bool true] ∧ L = []) := Fn.of_val fun w _ => refof_c w f h h2
theorem FOf_no (f : Int) (h : f < 0 ∨ 15 < f) : Fn Tryd.prog 8 #[.int .i64 f] [] [] (fun v L => v = .tuple #[.agg zeroL.toArray, .int .i64 1] ∧ L = []) := Fn.of_val fun w _ => of_bad w f h
theorem rOf_no (f : Int) (h : f < 0 ∨ 15 < f) : Fn Tryd.prog 9 #[.int .i64 f] [] [] (fun v L => v = .tuple #[.agg zeroL.toArray, .bool false] ∧ L = []) := Fn.of_val fun w _ => refof_bad w f h
theorem FOp_f (f op : Int) : Fn Tryd.prog 13 #[.int .i64 f, .int .i64 op] [] [] (fun v L => v = .bool (opM f op) ∧ L = []) := Fn.of_same0 fun w => op_c w f op
theorem rOp_f (f op : Int) : Fn Tryd.prog 14 #[.int .i64 f, .int .i64 op] [] [] (fun v L => v = .bool (opM f op) ∧ L = []) := Fn.of_same0 fun w => refop_c w f op
def nameL (f : Nat) : List UInt8 := (namesL[f]?).getD []
theorem nameB_str (f : Nat) : Value.string (nameB f) = str (nameL f) := rfl
theorem FName_f {N : Heaplet} (hN : TabH N) (f : Nat) (hf : f < 16) : Fn Tryd.prog 10 #[.int .i64 (f : Int)] [] [N] (fun v L => v = str (nameL f) ∧ L = []) := Fn.of_alloc fun w hr => name_c w f hf (hN w (hr N (by simp)))
theorem rName_f (f : Nat) (hf : f < 16) : Fn Tryd.prog 11 #[.int .i64 (f : Int)] [] [] (fun v L => v = str (nameL f) ∧ L = []) := Fn.of_alloc fun w _ => refname_c w f hf
theorem FName_no (f : Int) (h : f < 0 ∨ 15 < f) : Fn Tryd.prog 10 #[.int .i64 f] [] [] (fun v L => v = str [] ∧ L = []) := by
  refine Fn.enter (vs := [.int .i64 f]) Tryd.func10 rfl rfl rfl ?_
  intro E R hR
  change At _ _ E [R] _
  refine At.seq fun K1 hk_1 => ?_
  refine At.region ?_
  refine op_assign (nxlf rfl) rfl rfl ?_
  refine At.opsNil ?_
  refine At.norm (hk_1 ?_)
  refine At.seq fun K2 hk_2 => ?_
  refine At.seq fun K3 hk_3 => ?_
  refine At.region ?_
  refine op_move (nxlf rfl) rfl rfl ?_
  refine op_lss (nxlf rfl) rfl rfl rfl ?_
  refine op_move (nxlf rfl) rfl rfl ?_
  refine At.partP (d := 5) rfl (fun g5 => ?_) (fun g5 => ?_)
  · refine op_skip rfl rfl rfl rfl rfl rfl rfl ?_
    refine op_skip rfl rfl rfl rfl rfl rfl rfl ?_
    refine op_pickT (nxlf rfl) rfl rfl rfl ?_
    refine At.opsNil ?_
    refine At.norm (hk_3 ?_)
    refine At.condT rfl ?_
    refine At.seq fun K4 hk_4 => ?_
    refine At.region ?_
    refine op_assign (nxlf rfl) rfl rfl ?_
    refine At.opsNil ?_
    refine At.norm (hk_4 ?_)
    refine At.ret (At.thenRet (?_))
    refine At.ret1 (L1 := []) rfl (.tmp rfl .nil) (.refl _) (.refl _) ?_
    exact ⟨rfl, rfl⟩
  · refine op_move (nxgf rfl rfl rfl rfl) rfl rfl ?_
    refine op_gtr (nxgf rfl rfl rfl rfl) rfl rfl rfl ?_
    refine op_pickF (nxlf rfl) rfl rfl rfl ?_
    refine At.opsNil ?_
    refine At.norm (hk_3 ?_)
    refine At.condP rfl (fun c8 => ?_) (fun c8 => ?_)
    · refine At.seq fun K5 hk_5 => ?_
      refine At.region ?_
      refine op_assign (nxlf rfl) rfl rfl ?_
      refine At.opsNil ?_
      refine At.norm (hk_5 ?_)
      refine At.ret (At.thenRet (?_))
      refine At.ret1 (L1 := []) rfl (.tmp rfl .nil) (.refl _) (.refl _) ?_
      exact ⟨rfl, rfl⟩
    · exfalso; omega
theorem rName_no (f : Int) (h : f < 0 ∨ 15 < f) : Fn Tryd.prog 11 #[.int .i64 f] [] [] (fun v L => v = str [] ∧ L = []) := by
  refine Fn.enter (vs := [.int .i64 f]) Tryd.func11 rfl rfl rfl ?_
  intro E R hR
  change At _ _ E [R] _
  refine At.seq fun K1 hk_1 => ?_
  refine At.region ?_
  refine op_assign (nxlf rfl) rfl rfl ?_
  refine At.opsNil ?_
  refine At.norm (hk_1 ?_)
  refine At.seq fun K2 hk_2 => ?_
  refine At.seq fun K3 hk_3 => ?_
  refine At.region ?_
  refine op_move (nxlf rfl) rfl rfl ?_
  refine op_lss (nxlf rfl) rfl rfl rfl ?_
  refine op_move (nxlf rfl) rfl rfl ?_
  refine At.partP (d := 5) rfl (fun g5 => ?_) (fun g5 => ?_)
  · refine op_skip rfl rfl rfl rfl rfl rfl rfl ?_
    refine op_skip rfl rfl rfl rfl rfl rfl rfl ?_
    refine op_pickT (nxlf rfl) rfl rfl rfl ?_
    refine At.opsNil ?_
    refine At.norm (hk_3 ?_)
    refine At.condT rfl ?_
    refine At.seq fun K4 hk_4 => ?_
    refine At.region ?_
    refine op_assign (nxlf rfl) rfl rfl ?_
    refine At.opsNil ?_
    refine At.norm (hk_4 ?_)
    refine At.ret (At.thenRet (?_))
    refine At.ret1 (L1 := []) rfl (.tmp rfl .nil) (.refl _) (.refl _) ?_
    exact ⟨rfl, rfl⟩
  · refine op_move (nxgf rfl rfl rfl rfl) rfl rfl ?_
    refine op_gtr (nxgf rfl rfl rfl rfl) rfl rfl rfl ?_
    refine op_pickF (nxlf rfl) rfl rfl rfl ?_
    refine At.opsNil ?_
    refine At.norm (hk_3 ?_)
    refine At.condP rfl (fun c8 => ?_) (fun c8 => ?_)
    · refine At.seq fun K5 hk_5 => ?_
      refine At.region ?_
      refine op_assign (nxlf rfl) rfl rfl ?_
      refine At.opsNil ?_
      refine At.norm (hk_5 ?_)
      refine At.ret (At.thenRet (?_))
      refine At.ret1 (L1 := []) rfl (.tmp rfl .nil) (.refl _) (.refl _) ?_
      exact ⟨rfl, rfl⟩
    · exfalso; omega
theorem Fwakes_f {N : Heaplet} (hN : TabH N) : Fn Tryd.prog 12 #[] [] [N] (fun v L => v = .bool true ∧ L = []) := Fn.of_val fun w hr => wakes_c w (hN w (hr N (by simp)))
/-! Structs of integers compared. -/
def isIntK : Option Value → IntKind → Bool
  | some (.int k _), k' => k == k'
  | _, _ => false
theorem isIntK_spec {o : Option Value} {k : IntKind} (h : isIntK o k = true) : ∃ a, o = some (.int k a) := by
  unfold isIntK at h
  split at h
  · exact ⟨_, by rw [eq_of_beq h]⟩
  · cases h
def kindsB (P : Program) (fs : List Field) : Option (List (Nat × IntKind)) := fs.mapM fun f => match P.underlying f.type with
  | some (.int k) => some (f.offset, k)
  | _ => none
theorem eqFields_same {P : Program} (w : World) (d : Nat) (xs : List Value) : ∀ (fs : List Field) (L : List (Nat × IntKind)), kindsB P fs = some L → (L.all fun p => isIntK xs[p.1]? p.2) = true → (Op.eqFields (d + 1) xs.toArray xs.toArray fs).run P w = .ok true w := by
  intro fs
  induction fs with
  | nil => intro L _ _; simp [Op.eqFields]
  | cons f fs ih =>
    intro L h h2
    rw [kindsB, List.mapM_cons] at h
    simp only [bind, Option.bind_eq_some_iff, pure, Option.some.injEq] at h
    obtain ⟨p, hp, L', hL', rfl⟩ := h
    rw [List.all_cons, Bool.and_eq_true] at h2
    have ih' := ih L' hL' h2.2
    split at hp
    · rename_i k hk
      cases hp
      obtain ⟨k1, hx⟩ := isIntK_spec h2.1
      have hpart : (part f.type xs.toArray f.offset).run P w = .ok (.int k k1) w := by
        simp [part, isAgg, Go.run_underlying hk, hx]
      have heq : (Op.equalIn (d + 1) f.type (.int k k1) (.int k k1)).run P w = .ok true w := by
        rw [run_equalIn_int w d f.type k k k1 k1 hk]; simp
      by_cases hn : f.name ≠ "_"
      · simp only [Op.eqFields, if_pos hn, Sem.run_bind, hpart, heq, Result.andThen_ok]
        simpa using ih'
      · simp only [Op.eqFields, if_neg hn]
        exact ih'
    · cases hp
theorem eqGuard_agg' {P : Program} {op : BinOp} {t : TypeId} {x y : Operand} {a b : Array Value} (h : P.eqGuardType P.depth t = false) (w : World) : (eqGuard op t x y (.agg a) (.agg b)).run P w = .ok () w := by
  unfold eqGuard
  by_cases ho : (!(op matches .eql | .neq)) = true <;> simp [ho, h]
theorem op_eqSame {P : Program} {n : Nat} {l : List (Nat × Value)} {E : World} {L Ls : List Heaplet} {X Y : Act → World → Prop} {d : Nat} {t t' ty : TypeId} {x y : Operand} {xs : List Value} {pos : _} {aft : _} {g : _} {ks : List (Nat × IntKind)} (s : NxF P n l E L Ls ⟨some d, .binOp .eql t x y t', ty, pos, aft, g⟩ X Y) (hg : P.eqGuardType P.depth t = false) (ht : P.underlying t = some (.struct (P.fieldsOf t))) (hp : P.stoodInHeld t = false) (hk : kindsB P (P.fieldsOf t).toList = some ks)
    (hx : ev l x = some (.agg xs.toArray)) (hy : ev l y = some (.agg xs.toArray)) (hi : (ks.all fun p => isIntK xs[p.1]? p.2) = true) (hn : Nat.ble (d + 1) n = true) (h : At n ((d, .bool true) :: l) E L Y) : At n l E L X :=
  op_bin s hx hy (fun w => eqGuard_agg' hg w) (fun w => by
    rw [run_eql_struct, run_equalIn_struct w 9999 t xs.toArray xs.toArray ht hp, eqFields_same w 9998 xs _ ks hk hi]
    rfl) hn h
def rulesK : List (Nat × IntKind) := [(0, .i64), (1, .u64), (2, .u64), (3, .u64), (4, .u64), (5, .u64), (6, .u64), (7, .u64), (8, .i64), (9, .i64), (10, .u64), (11, .u64), (12, .u64), (13, .u64), (14, .u64), (15, .u64), (16, .u64), (17, .u64), (18, .u64), (19, .u64), (20, .u64), (21, .u64), (22, .u64), (23, .u64), (24, .u64), (25, .u64)]
theorem rules_kinds : kindsB Tryd.prog (Tryd.prog.fieldsOf 24).toList = some rulesK := by kernel_rfl
/-- What a fork's numbers are, for a walk that does not look at them. -/
structure RulesV (xs : List Value) : Prop where
  len : xs.length = 26
  ints : (rulesK.all fun p => isIntK xs[p.1]? p.2) = true
  one : xs.all (·.oneCell') = true
theorem rulesV_L (f : Int) : RulesV (rulesL f) := ⟨rfl, rfl, rfl⟩
theorem rulesV_0 : RulesV zeroL := ⟨rfl, rfl, rfl⟩
theorem cells_agg (xs : List Value) : (Value.agg xs.toArray).cells = xs.toArray := rfl
end Go.Proofs.YtoabimaidpbkiaaDoor
