/- Helps for the walks over codes: contracts out of the kit's form, strings joined, quarrykeep.Twin, both Small. No condition. -/
import Derived.Test.YtdplcfineaikjaaDoorG13
import Derived.Test.YtdplcfineaikjaaDoorTy
import Derived.Test.YtdplcfineaikjaaDoorF2
import Derived.Test.YtdplcfineaikjaaDoorF3
import Derived.Shelf.Strings.Fields
namespace Go.Proofs.YtdplcfineaikjaaDoor
set_option linter.unusedVariables false
set_option linter.unusedSimpArgs false
open Go Go.RowKit
theorem Fn.of_val {P : Program} {f : FuncId} {args : Array Value} {Lr : List Heaplet} {X : Value} (h : ∀ w, (∀ N ∈ Lr, N.le (whole w)) → Calls P f args w (Ret w fun v _ => v = X)) : Fn P f args [] Lr (fun v L => v = X ∧ L = []) :=
  Fn.of_ret h fun _ _ _ hv _ => ⟨[], ⟨hv, rfl⟩, fun N hN => absurd hN List.not_mem_nil, .nil⟩
theorem Fn.of_same0 {P : Program} {f : FuncId} {args : Array Value} {X : Value} (h : ∀ w, Calls P f args w fun e w' => e = .returned X ∧ w' = w) : Fn P f args [] [] (fun v L => v = X ∧ L = []) :=
  Fn.of_val fun w _ => (h w).mono fun e w' ⟨he, hw⟩ => by subst he; subst hw; exact ⟨_, rfl, rfl, Below.refl _ _⟩
theorem Fn.of_alloc {P : Program} {f : FuncId} {args : Array Value} {Lr : List Heaplet} {X : Value} {o : Obj} (h : ∀ w, (∀ N ∈ Lr, N.le (whole w)) → Calls P f args w fun e w' => e = .returned X ∧ w' = w.alloc o) : Fn P f args [] Lr (fun v L => v = X ∧ L = []) :=
  Fn.of_val fun w hr => (h w hr).mono fun e w' ⟨he, hw⟩ => by subst he; subst hw; exact ⟨_, rfl, rfl, (Below.refl _ _).alloc (Nat.le_refl _) _⟩
/-- The table of white space, in this part of the memory. -/
def TabH (N : Heaplet) : Prop := ∀ w, N.le (whole w) → Lib.TabIs Tryd.prog w "strings.asciiSpace" .u8 Lib.asciiSpaceTab
theorem TabH.le {N M : Heaplet} (h : TabH N) (hl : N.le M) : TabH M := fun w hw => h w (Heaplet.le_trans hl hw)
theorem FOp_f (f op : Int) : Fn Tryd.prog 38 #[.int .i64 f, .int .i64 op] [] [] (fun v L => v = .bool (opM f op) ∧ L = []) := Fn.of_same0 fun w => op_c w f op
theorem rOp_f (f op : Int) : Fn Tryd.prog 36 #[.int .i64 f, .int .i64 op] [] [] (fun v L => v = .bool (opM f op) ∧ L = []) := Fn.of_same0 fun w => refop_c w f op
section
variable {P : Program} {n : Nat} {l : List (Nat × Value)} {E : World} {L Ls : List Heaplet} {X Y : Act → World → Prop} {d : Nat} {t t' ty : TypeId} {x y : Operand}
theorem bytes_join (a b : List UInt8) : (⟨a.toArray⟩ ++ ⟨b.toArray⟩ : ByteArray) = ⟨(a ++ b).toArray⟩ := by
  apply ByteArray.ext
  simp
theorem op_addS {a b : List UInt8} {pos : _} {aft : _} {g : _} (s : NxF P n l E L Ls ⟨some d, .binOp .add t x y t', ty, pos, aft, g⟩ X Y) (hx : ev l x = some (str a)) (hy : ev l y = some (str b)) (hl : a.length + b.length ≤ 9223372036854775807) (hn : Nat.ble (d + 1) n = true) (h : At n ((d, str (a ++ b)) :: l) E L Y) : At n l E L X :=
  op_bin s hx hy (fun w => eqGuard_string w) (fun w => by
    have e : ¬ (((⟨a.toArray⟩ : ByteArray).size + (⟨b.toArray⟩ : ByteArray).size : Nat) : Int) > IntKind.i64.max := by
      have e1 : (⟨a.toArray⟩ : ByteArray).size = a.length := rfl
      have e2 : (⟨b.toArray⟩ : ByteArray).size = b.length := rfl
      have e3 : IntKind.i64.max = 9223372036854775807 := rfl
      rw [e1, e2, e3]; omega
    simp only [str, binOp, Op.stringOp]
    rw [if_neg e, bytes_join]; rfl) hn h
end
theorem KTwin_f {N : Heaplet} {ao : Option Addr} {n cap : Nat} {l : List UInt8} (h : RSl N 1 ao n cap (u8s l)) (m : Nat) (q : Int) (hq : q = (m : Int)) (hm : m ≤ 140737488351232) :
    Fn Tryd.prog 25 #[.slice ao n cap, .int .i64 q] [] [N] (fun v L => ∃ M a c, v = .slice a (l.take m).length c ∧ L = [M] ∧ Row M 5 1 a (l.take m).length c (u8s (l.take m))) := by
  have hlen := h.len8
  have hcap := h.cap63
  refine Fn.enter (vs := [.slice ao n cap, .int .i64 q]) Tryd.func25 rfl rfl rfl ?_
  intro E R hR
  have h := h.le (hR N (by simp))
  change At _ _ E [R] _
  refine At.seq fun K1 hk_1 => ?_
  refine At.region ?_
  refine op_assign (nxlf rfl) rfl rfl ?_
  refine At.opsNil ?_
  refine At.norm (hk_1 ?_)
  refine At.seq fun K2 hk_2 => ?_
  refine At.seq fun K3 hk_3 => ?_
  refine At.region ?_
  refine op_move (nxlf rfl) rfl rfl ?_
  refine op_lenS (nxlf rfl) se22 rfl rfl ?_
  refine op_move (nxlf rfl) rfl rfl ?_
  refine op_gtr (nxlf rfl) rfl rfl rfl ?_
  refine At.opsNil ?_
  refine At.norm (hk_3 ?_)
  refine At.condP rfl (fun c8 => ?_) (fun c8 => ?_)
  · refine At.region ?_
    refine op_move (nxlf rfl) rfl rfl ?_
    refine op_move (nxlf rfl) rfl rfl ?_
    refine op_slice0 (nxlf rfl) se22 rfl (.some rfl (show _ = (((m : Nat)) : Int) from by omega)) .none (by omega) (by omega) (by simp) rfl ?_
    have s11 := h.take8 (hi := m) (m := cap) (by omega) (by omega) (by omega)
    refine op_assign (nxlf rfl) rfl rfl ?_
    refine At.opsNil ?_
    refine At.norm (hk_2 ?_)
    refine At.seq fun K4 hk_4 => ?_
    refine At.region ?_
    refine op_lit (nxla rfl) Tryd.underlying22 ze5 sz5 .nil rfl rfl (by simp [Value.cells]) rfl rfl rfl (fun N12 a12 r12 => ?_)
    simp only [flatV, List.flatMap_cons, List.flatMap_nil, Value.cells, List.append_nil, List.cons_append, List.nil_append] at r12
    have s12 := r12.rsl
    refine op_move (nxlf rfl) rfl rfl ?_
    refine op_append (nxl rfl) Tryd.underlying22 Tryd.underlying22 te5 rfl rfl r12 (by assumption) (by first | exact mem0 | exact mem1 | exact mem2 | exact mem3 | exact mem4 | exact mem5 | exact mem6 | exact mem7 | exact mem8 | exact mem9) (by first | exact one_u8s _ | exact one_u64s _ | exact one_u32s _ | (intro u hu; simp at hu; subst hu; rfl)) (by omega) (by omega) sel0 rfl (fun N14 a14 p14 r14 => ?_)
    have s14 := r14.rsl
    refine op_assign (nxlf rfl) rfl rfl ?_
    refine At.opsNil ?_
    refine At.norm (hk_4 ?_)
    refine At.ret (?_)
    refine At.ret1 (L1 := [N14]) rfl (.tmp rfl .nil) (.refl _) (.refl _) ?_
    rw [List.nil_append, Nat.zero_add] at r14
    exact ⟨N14, a14, p14, by rw [List.length_take, hlen, Nat.min_eq_left (by omega), Nat.zero_add], rfl, by rw [List.length_take, hlen, Nat.min_eq_left (by omega)]; exact r14⟩
  · refine At.skip ?_
    refine At.norm (hk_2 ?_)
    refine At.seq fun K5 hk_5 => ?_
    refine At.region ?_
    refine op_lit (nxla rfl) Tryd.underlying22 ze5 sz5 .nil rfl rfl (by simp [Value.cells]) rfl rfl rfl (fun N12 a12 r12 => ?_)
    simp only [flatV, List.flatMap_cons, List.flatMap_nil, Value.cells, List.append_nil, List.cons_append, List.nil_append] at r12
    have s12 := r12.rsl
    refine op_move (nxlf rfl) rfl rfl ?_
    refine op_append (nxl rfl) Tryd.underlying22 Tryd.underlying22 te5 rfl rfl r12 (by assumption) (by first | exact mem0 | exact mem1 | exact mem2 | exact mem3 | exact mem4 | exact mem5 | exact mem6 | exact mem7 | exact mem8 | exact mem9) (by first | exact one_u8s _ | exact one_u64s _ | exact one_u32s _ | (intro u hu; simp at hu; subst hu; rfl)) (by omega) (by omega) sel0 rfl (fun N14 a14 p14 r14 => ?_)
    have s14 := r14.rsl
    refine op_assign (nxlf rfl) rfl rfl ?_
    refine At.opsNil ?_
    refine At.norm (hk_5 ?_)
    refine At.ret (?_)
    refine At.ret1 (L1 := [N14]) rfl (.tmp rfl .nil) (.refl _) (.refl _) ?_
    rw [List.nil_append, Nat.zero_add] at r14
    have e : l.take m = l := List.take_of_length_le (by omega)
    exact ⟨N14, a14, p14, by rw [e, hlen, Nat.zero_add], rfl, by rw [e, hlen]; exact r14⟩
theorem few_f {N : Heaplet} {ao : Option Addr} {n cap : Nat} {l : List UInt8} (h : RSl N 1 ao n cap (u8s l)) :
    Fn Tryd.prog 8 #[.slice ao n cap] [] [N] (fun v L => ∃ M a c, v = .slice a (l.take 3000).length c ∧ L = [M] ∧ Row M 5 1 a (l.take 3000).length c (u8s (l.take 3000))) := by
  refine Fn.enter (vs := [.slice ao n cap]) Tryd.func8 rfl rfl rfl ?_
  intro E R hR
  have h := h.le (hR N (by simp))
  change At _ _ E [R] _
  refine At.seq fun K1 hk_1 => ?_
  refine At.region ?_
  refine op_assign (nxlf rfl) rfl rfl ?_
  refine At.opsNil ?_
  refine At.norm (hk_1 ?_)
  refine At.seq fun K2 hk_2 => ?_
  refine At.region ?_
  refine op_move (nxlf rfl) rfl rfl ?_
  refine op_callA (nxla rfl) (.cons rfl (.cons rfl .nil)) (KTwin_f h 3000 3000 rfl (by decide)) Tryd.func25 rfl rfl (by simp) rfl ?_
  rintro v4 L4 ⟨N4, p4, c4, rfl, rfl, r4⟩
  change At _ _ _ [N4, R] _
  refine op_assign (nxlf rfl) rfl rfl ?_
  refine At.opsNil ?_
  refine At.norm (hk_2 ?_)
  refine At.ret (?_)
  refine At.ret1 (L1 := [N4]) rfl (.tmp rfl .nil) (.refl _) (.refl _) ?_
  exact ⟨N4, p4, c4, rfl, rfl, r4⟩
theorem few_all {N : Heaplet} {ao : Option Addr} {n cap : Nat} {l : List UInt8} (h : RSl N 1 ao n cap (u8s l)) (hl : l.length ≤ 3000) :
    Fn Tryd.prog 8 #[.slice ao n cap] [] [N] (fun v L => ∃ M a c, v = .slice a l.length c ∧ L = [M] ∧ Row M 5 1 a l.length c (u8s l)) :=
  (few_f h).mono fun v L hp => by rwa [List.take_of_length_le hl] at hp
/-- A word of four limbs. -/
def w4 (a b c d : UInt64) : Value := .agg #[.int .u64 (a.toNat : Int), .int .u64 (b.toNat : Int), .int .u64 (c.toNat : Int), .int .u64 (d.toNat : Int)]
def small4 (a b c d : UInt64) : UInt64 × Bool := if b.toNat = 0 ∧ c.toNat = 0 ∧ d.toNat = 0 then (a, true) else (0, false)
theorem or_zero3 (b c d : UInt64) : (b ||| c ||| d).toNat = 0 ↔ b.toNat = 0 ∧ c.toNat = 0 ∧ d.toNat = 0 := by
  rw [UInt64.toNat_or, UInt64.toNat_or, Nat.or_eq_zero_iff, Nat.or_eq_zero_iff, and_assoc]
theorem WSmall4_f (a b c d : UInt64) : Fn Tryd.prog 28 #[w4 a b c d] [] [] (fun v L => v = .tuple #[.int .u64 ((small4 a b c d).1.toNat : Int), .bool (small4 a b c d).2] ∧ L = []) := by
  have hz := or_zero3 b c d
  refine Fn.enter (vs := [w4 a b c d]) Tryd.func28 rfl rfl rfl ?_
  intro E R hR
  change At _ _ E [R] _
  refine At.seq fun K1 hk_1 => ?_
  refine At.region ?_
  refine op_box (nxla rfl) rfl rfl rfl (fun N1 b1 B1 => ?_)
  change Blk N1 b1 _ [.int .u64 (a.toNat : Int), .int .u64 (b.toNat : Int), .int .u64 (c.toNat : Int), .int .u64 (d.toNat : Int)] at B1
  refine op_assign (nxlf rfl) rfl rfl ?_
  refine op_assign (nxlf rfl) rfl rfl ?_
  refine At.opsNil ?_
  refine At.norm (hk_1 ?_)
  refine At.seq fun K2 hk_2 => ?_
  refine At.seq fun K3 hk_3 => ?_
  refine At.region ?_
  refine op_idxA (nxlf rfl) ae25 rfl rfl (show _ = ((1 : Nat) : Int) from rfl) (by omega) rfl ?_
  refine op_loadB (nxlf rfl) sc23 rfl B1 (by first | rfl) mem0 rfl ?_
  refine op_idxA (nxlf rfl) ae25 rfl rfl (show _ = ((2 : Nat) : Int) from rfl) (by omega) rfl ?_
  refine op_loadB (nxlf rfl) sc23 rfl B1 (by first | rfl) mem0 rfl ?_
  refine op_orU (nxlf rfl) rfl rfl rfl ?_
  refine op_idxA (nxlf rfl) ae25 rfl rfl (show _ = ((3 : Nat) : Int) from rfl) (by omega) rfl ?_
  refine op_loadB (nxlf rfl) sc23 rfl B1 (by first | rfl) mem0 rfl ?_
  refine op_orU (nxlf rfl) rfl rfl rfl ?_
  refine op_neq (nxlf rfl) rfl rfl rfl ?_
  refine At.opsNil ?_
  refine At.norm (hk_3 ?_)
  refine At.condP rfl (fun c12 => ?_) (fun c12 => ?_)
  · refine At.seq fun K4 hk_4 => ?_
    refine At.region ?_
    refine op_assign (nxlf rfl) rfl rfl ?_
    refine op_assign (nxlf rfl) rfl rfl ?_
    refine At.opsNil ?_
    refine At.norm (hk_4 ?_)
    refine At.ret (At.thenRet (?_))
    refine At.sub (L' := [R]) (.cons _ (.cons_cons _ (.slnil))) ?_
    refine At.retN (L1 := []) rfl (.tmp rfl (.tmp rfl .nil)) rfl (.refl _) (.refl _) ?_
    have e : small4 a b c d = (0, false) := if_neg (fun h => by have := hz.2 h; omega)
    exact ⟨by rw [e]; rfl, rfl⟩
  · refine At.skip ?_
    refine At.norm (hk_2 ?_)
    refine At.seq fun K5 hk_5 => ?_
    refine At.region ?_
    refine op_idxA (nxlf rfl) ae25 rfl rfl (show _ = ((0 : Nat) : Int) from rfl) (by omega) rfl ?_
    refine op_loadB (nxlf rfl) sc23 rfl B1 (by first | rfl) mem0 rfl ?_
    refine op_assign (nxlf rfl) rfl rfl ?_
    refine op_assign (nxlf rfl) rfl rfl ?_
    refine At.opsNil ?_
    refine At.norm (hk_5 ?_)
    refine At.ret (?_)
    refine At.sub (L' := [R]) (.cons _ (.cons_cons _ (.slnil))) ?_
    refine At.retN (L1 := []) rfl (.tmp rfl (.tmp rfl .nil)) rfl (.refl _) (.refl _) ?_
    have e : small4 a b c d = (a, true) := if_pos (hz.1 (by omega))
    exact ⟨by rw [e], rfl⟩
theorem rSmall4_f (a b c d : UInt64) : Fn Tryd.prog 30 #[w4 a b c d] [] [] (fun v L => v = .tuple #[.int .u64 ((small4 a b c d).1.toNat : Int), .bool (small4 a b c d).2] ∧ L = []) := by
  refine Fn.enter (vs := [w4 a b c d]) Tryd.func30 rfl rfl rfl ?_
  intro E R hR
  change At _ _ E [R] _
  refine At.seq fun K1 hk_1 => ?_
  refine At.region ?_
  refine op_box (nxla rfl) rfl rfl rfl (fun N1 b1 B1 => ?_)
  change Blk N1 b1 _ [.int .u64 (a.toNat : Int), .int .u64 (b.toNat : Int), .int .u64 (c.toNat : Int), .int .u64 (d.toNat : Int)] at B1
  refine op_assign (nxlf rfl) rfl rfl ?_
  refine op_assign (nxlf rfl) rfl rfl ?_
  refine At.opsNil ?_
  refine At.norm (hk_1 ?_)
  refine At.seq fun K2 hk_2 => ?_
  refine At.seq fun K3 hk_3 => ?_
  refine At.region ?_
  refine op_idxA (nxlf rfl) ae25 rfl rfl (show _ = ((1 : Nat) : Int) from rfl) (by omega) rfl ?_
  refine op_loadB (nxlf rfl) sc23 rfl B1 (by first | rfl) mem0 rfl ?_
  refine op_neq (nxlf rfl) rfl rfl rfl ?_
  refine op_move (nxlf rfl) rfl rfl ?_
  refine At.partP (d := 7) rfl (fun g7 => ?_) (fun g7 => ?_)
  · refine op_skip rfl rfl rfl rfl rfl rfl rfl ?_
    refine op_skip rfl rfl rfl rfl rfl rfl rfl ?_
    refine op_skip rfl rfl rfl rfl rfl rfl rfl ?_
    refine op_pickT (nxlf rfl) rfl rfl rfl ?_
    refine op_move (nxlf rfl) rfl rfl ?_
    refine op_skip rfl rfl rfl rfl rfl rfl rfl ?_
    refine op_skip rfl rfl rfl rfl rfl rfl rfl ?_
    refine op_skip rfl rfl rfl rfl rfl rfl rfl ?_
    refine op_pickT (nxlf rfl) rfl rfl rfl ?_
    refine At.opsNil ?_
    refine At.norm (hk_3 ?_)
    refine At.condT rfl ?_
    refine At.seq fun K4 hk_4 => ?_
    refine At.region ?_
    refine op_assign (nxlf rfl) rfl rfl ?_
    refine op_assign (nxlf rfl) rfl rfl ?_
    refine At.opsNil ?_
    refine At.norm (hk_4 ?_)
    refine At.ret (At.thenRet (?_))
    refine At.sub (L' := [R]) (.cons _ (.cons_cons _ (.slnil))) ?_
    refine At.retN (L1 := []) rfl (.tmp rfl (.tmp rfl .nil)) rfl (.refl _) (.refl _) ?_
    first
      | (have e : small4 a b c d = (a, true) := if_pos (by omega)
         exact ⟨by rw [e], rfl⟩)
      | (have e : small4 a b c d = (0, false) := if_neg (by omega)
         exact ⟨by rw [e]; rfl, rfl⟩)
  · refine op_idxA (nxgf rfl rfl rfl rfl) ae25 rfl rfl (show _ = ((2 : Nat) : Int) from rfl) (by omega) rfl ?_
    refine op_loadB (nxgf rfl rfl rfl rfl) sc23 rfl B1 (by first | rfl) mem0 rfl ?_
    refine op_neq (nxgf rfl rfl rfl rfl) rfl rfl rfl ?_
    refine op_pickF (nxlf rfl) rfl rfl rfl ?_
    refine op_move (nxlf rfl) rfl rfl ?_
    refine At.partP (d := 12) rfl (fun g12 => ?_) (fun g12 => ?_)
    · refine op_skip rfl rfl rfl rfl rfl rfl rfl ?_
      refine op_skip rfl rfl rfl rfl rfl rfl rfl ?_
      refine op_skip rfl rfl rfl rfl rfl rfl rfl ?_
      refine op_pickT (nxlf rfl) rfl rfl rfl ?_
      refine At.opsNil ?_
      refine At.norm (hk_3 ?_)
      refine At.condT rfl ?_
      refine At.seq fun K5 hk_5 => ?_
      refine At.region ?_
      refine op_assign (nxlf rfl) rfl rfl ?_
      refine op_assign (nxlf rfl) rfl rfl ?_
      refine At.opsNil ?_
      refine At.norm (hk_5 ?_)
      refine At.ret (At.thenRet (?_))
      refine At.sub (L' := [R]) (.cons _ (.cons_cons _ (.slnil))) ?_
      refine At.retN (L1 := []) rfl (.tmp rfl (.tmp rfl .nil)) rfl (.refl _) (.refl _) ?_
      first
        | (have e : small4 a b c d = (a, true) := if_pos (by omega)
           exact ⟨by rw [e], rfl⟩)
        | (have e : small4 a b c d = (0, false) := if_neg (by omega)
           exact ⟨by rw [e]; rfl, rfl⟩)
    · refine op_idxA (nxgf rfl rfl rfl rfl) ae25 rfl rfl (show _ = ((3 : Nat) : Int) from rfl) (by omega) rfl ?_
      refine op_loadB (nxgf rfl rfl rfl rfl) sc23 rfl B1 (by first | rfl) mem0 rfl ?_
      refine op_neq (nxgf rfl rfl rfl rfl) rfl rfl rfl ?_
      refine op_pickF (nxlf rfl) rfl rfl rfl ?_
      refine At.opsNil ?_
      refine At.norm (hk_3 ?_)
      refine At.condP rfl (fun c16 => ?_) (fun c16 => ?_)
      · refine At.seq fun K6 hk_6 => ?_
        refine At.region ?_
        refine op_assign (nxlf rfl) rfl rfl ?_
        refine op_assign (nxlf rfl) rfl rfl ?_
        refine At.opsNil ?_
        refine At.norm (hk_6 ?_)
        refine At.ret (At.thenRet (?_))
        refine At.sub (L' := [R]) (.cons _ (.cons_cons _ (.slnil))) ?_
        refine At.retN (L1 := []) rfl (.tmp rfl (.tmp rfl .nil)) rfl (.refl _) (.refl _) ?_
        first
          | (have e : small4 a b c d = (a, true) := if_pos (by omega)
             exact ⟨by rw [e], rfl⟩)
          | (have e : small4 a b c d = (0, false) := if_neg (by omega)
             exact ⟨by rw [e]; rfl, rfl⟩)
      · refine At.skip ?_
        refine At.norm (hk_2 ?_)
        refine At.seq fun K7 hk_7 => ?_
        refine At.region ?_
        refine op_idxA (nxlf rfl) ae25 rfl rfl (show _ = ((0 : Nat) : Int) from rfl) (by omega) rfl ?_
        refine op_loadB (nxlf rfl) sc23 rfl B1 (by first | rfl) mem0 rfl ?_
        refine op_assign (nxlf rfl) rfl rfl ?_
        refine op_assign (nxlf rfl) rfl rfl ?_
        refine At.opsNil ?_
        refine At.norm (hk_7 ?_)
        refine At.ret (?_)
        refine At.sub (L' := [R]) (.cons _ (.cons_cons _ (.slnil))) ?_
        refine At.retN (L1 := []) rfl (.tmp rfl (.tmp rfl .nil)) rfl (.refl _) (.refl _) ?_
        first
          | (have e : small4 a b c d = (a, true) := if_pos (by omega)
             exact ⟨by rw [e], rfl⟩)
          | (have e : small4 a b c d = (0, false) := if_neg (by omega)
             exact ⟨by rw [e]; rfl, rfl⟩)
end Go.Proofs.YtdplcfineaikjaaDoor
