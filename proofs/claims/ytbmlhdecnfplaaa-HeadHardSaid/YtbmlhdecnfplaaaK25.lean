/- Several texts in one: see the remarks ahead of each part. No condition but those told there. -/
import Derived.Test.YtbmlhdecnfplaaaK17
/- Layer 13: the reference Of inside the forks. No condition but those told below. -/
namespace Go.Proofs.Ytbmlhdecnfplaaa
set_option linter.unusedVariables false
set_option linter.unusedSimpArgs false
open Go.RowKit

set_option maxRecDepth 100000 in
set_option maxHeartbeats 4000000 in
theorem refof_c (w : World) (f : Int) (hf : 0 ≤ f) (hf2 : f ≤ 15) : Calls Try.prog 37 #[.int .i64 f] w (Ret w fun v _ => v = .tuple #[rulesV f, .bool true]) := by
  have hT : (w.alloc (.cells #[.int .i64 0, .int .u64 0, .int .u64 0, .int .u64 0, .int .u64 0, .int .u64 0, .int .u64 0, .int .u64 0, .int .i64 0, .int .i64 0, .int .u64 0, .int .u64 0, .int .u64 0, .int .u64 0, .int .u64 0, .int .u64 0, .int .u64 0, .int .u64 0, .int .u64 0, .int .u64 0, .int .u64 0, .int .u64 0, .int .u64 0, .int .u64 0, .int .u64 0, .int .u64 0] 53)).there w.heap.size 0 26 := there_new w _ _
  have HT := Lib.hid hT
  clear hT
  have hB := Below.refl (w.alloc (.cells #[.int .i64 0, .int .u64 0, .int .u64 0, .int .u64 0, .int .u64 0, .int .u64 0, .int .u64 0, .int .u64 0, .int .i64 0, .int .i64 0, .int .u64 0, .int .u64 0, .int .u64 0, .int .u64 0, .int .u64 0, .int .u64 0, .int .u64 0, .int .u64 0, .int .u64 0, .int .u64 0, .int .u64 0, .int .u64 0, .int .u64 0, .int .u64 0, .int .u64 0, .int .u64 0] 53)).heap.size (w.alloc (.cells #[.int .i64 0, .int .u64 0, .int .u64 0, .int .u64 0, .int .u64 0, .int .u64 0, .int .u64 0, .int .u64 0, .int .i64 0, .int .i64 0, .int .u64 0, .int .u64 0, .int .u64 0, .int .u64 0, .int .u64 0, .int .u64 0, .int .u64 0, .int .u64 0, .int .u64 0, .int .u64 0, .int .u64 0, .int .u64 0, .int .u64 0, .int .u64 0, .int .u64 0, .int .u64 0] 53))
  go_enter Try.func37, Try.ntmps37
  go_wp2_with (first
    | (go_at_call 62; refine (fromA _ _ f hB _ _ _ _ _ (by rfl) (by simp) (by rfl) (by rfl) (by decide) (by decide) (by decide) (by decide) (by decide)).mono ?_; clear hB; rintro e w' ⟨⟨k, rfl, hk, hlt⟩, hB⟩)
    | (with_reducible (refine wpl_build rfl 53 _ rfl ?vs ?v ?hp ?hr ?h)
       case hp => (simp only [List.map_toArray, List.map_cons, List.map_nil]; rfl)
       case hr => exact build_b ..
       with_reducible (refine wpList_store_mid rfl 53 _ _ rfl ?b ?o ?cells ?hx ?hy ?ht ?hi ?h1 ?h2)
       case hx => rfl
       case hy => rfl
       case ht => exact there_below hB (by simp) HT.out
       case hi => kernel_rfl
       case h1 => kernel_rfl))
  have hbb : Below w.heap.size w w' := ((Below.refl w.heap.size w).alloc (Nat.le_refl _) _).trans (hB.mono (by simp))
  refine ret_cell rfl rfl rfl rfl (World.rangeAt_setCells_same _ _ _ _ (there_below hB (by simp) HT.out)) Try.underlying53 rfl (by kernel_rfl) (ret_of (congrArg (fun x => Value.tuple #[x, .bool true]) (fin_from hf (by assumption) (by assumption) (by assumption) (by assumption) (by assumption) (by assumption) (by assumption) (by assumption) (by assumption) (by assumption) (by assumption) (by assumption) (by assumption) (by assumption) (by assumption) (by assumption) (by assumption) (by assumption) (by assumption) (by assumption) (by assumption) (by assumption) (by assumption))) (below_setCells _ _ _ _ hbb (Nat.le_refl _)))
end Go.Proofs.Ytbmlhdecnfplaaa
/- Layer 13: fork.Of and the reference Of outside the forks. No condition but those told below. -/
namespace Go.Proofs.Ytbmlhdecnfplaaa
set_option linter.unusedVariables false
set_option linter.unusedSimpArgs false
open Go.RowKit

set_option maxRecDepth 100000 in
set_option maxHeartbeats 2000000 in
theorem of_bad0 (w : World) (f : Int) (hf : f < 0) : Calls Try.prog 23 #[.int .i64 f] w (Ret w fun v _ => v = .tuple #[.agg zeroRules, .int .i64 1]) := by
  have hT : (w.alloc (.cells #[.int .i64 0, .int .u64 0, .int .u64 0, .int .u64 0, .int .u64 0, .int .u64 0, .int .u64 0, .int .u64 0, .int .i64 0, .int .i64 0, .int .u64 0, .int .u64 0, .int .u64 0, .int .u64 0, .int .u64 0, .int .u64 0, .int .u64 0, .int .u64 0, .int .u64 0, .int .u64 0, .int .u64 0, .int .u64 0, .int .u64 0, .int .u64 0, .int .u64 0, .int .u64 0] 53)).there w.heap.size 0 26 := there_new w _ _
  have HT := Lib.hid hT
  clear hT
  have HB := Lib.hid ((Below.refl w.heap.size w).alloc (Nat.le_refl _) (.cells #[.int .i64 0, .int .u64 0, .int .u64 0, .int .u64 0, .int .u64 0, .int .u64 0, .int .u64 0, .int .u64 0, .int .i64 0, .int .i64 0, .int .u64 0, .int .u64 0, .int .u64 0, .int .u64 0, .int .u64 0, .int .u64 0, .int .u64 0, .int .u64 0, .int .u64 0, .int .u64 0, .int .u64 0, .int .u64 0, .int .u64 0, .int .u64 0, .int .u64 0, .int .u64 0] 53))
  generalize hg : (w.alloc (.cells #[.int .i64 0, .int .u64 0, .int .u64 0, .int .u64 0, .int .u64 0, .int .u64 0, .int .u64 0, .int .u64 0, .int .i64 0, .int .i64 0, .int .u64 0, .int .u64 0, .int .u64 0, .int .u64 0, .int .u64 0, .int .u64 0, .int .u64 0, .int .u64 0, .int .u64 0, .int .u64 0, .int .u64 0, .int .u64 0, .int .u64 0, .int .u64 0, .int .u64 0, .int .u64 0] 53)) = w1 at HT HB
  have HL := Lib.hid (World.rangeAt_setCells_same w1 w.heap.size 0 [.int .i64 0, .int .u64 0, .int .u64 0, .int .u64 0, .int .u64 0, .int .u64 0, .int .u64 0, .int .u64 0, .int .i64 0, .int .i64 0, .int .u64 0, .int .u64 0, .int .u64 0, .int .u64 0, .int .u64 0, .int .u64 0, .int .u64 0, .int .u64 0, .int .u64 0, .int .u64 0, .int .u64 0, .int .u64 0, .int .u64 0, .int .u64 0, .int .u64 0, .int .u64 0] HT.out)
  go_enter Try.func23, Try.ntmps23
  go_wp2_with (first
  | (with_reducible (refine wpl_build rfl 53 _ rfl ?vs ?v ?hp ?hr ?h)
     case hp => (simp only [List.map_toArray, List.map_cons, List.map_nil]; rfl)
     case hr => exact build_z _
     with_reducible (refine wpList_store_mid rfl 53 _ _ rfl ?b ?o ?cells ?hx ?hy ?ht ?hi ?h1 ?h2)
     case hx => rfl
     case hy => rfl
     case ht => exact hg.symm ▸ HT.out
     case hi => kernel_rfl
     case h1 => kernel_rfl
     simp only [hg]))
  refine ret_cell rfl rfl rfl rfl HL.out Try.underlying53 rfl (by kernel_rfl) ?_
  exact ret_of rfl (below_setCells _ _ _ _ HB.out (Nat.le_refl _))
set_option maxRecDepth 100000 in
set_option maxHeartbeats 2000000 in
theorem of_bad1 (w : World) (f : Int) (hf : 15 < f) : Calls Try.prog 23 #[.int .i64 f] w (Ret w fun v _ => v = .tuple #[.agg zeroRules, .int .i64 1]) := by
  have hT : (w.alloc (.cells #[.int .i64 0, .int .u64 0, .int .u64 0, .int .u64 0, .int .u64 0, .int .u64 0, .int .u64 0, .int .u64 0, .int .i64 0, .int .i64 0, .int .u64 0, .int .u64 0, .int .u64 0, .int .u64 0, .int .u64 0, .int .u64 0, .int .u64 0, .int .u64 0, .int .u64 0, .int .u64 0, .int .u64 0, .int .u64 0, .int .u64 0, .int .u64 0, .int .u64 0, .int .u64 0] 53)).there w.heap.size 0 26 := there_new w _ _
  have HT := Lib.hid hT
  clear hT
  have HB := Lib.hid ((Below.refl w.heap.size w).alloc (Nat.le_refl _) (.cells #[.int .i64 0, .int .u64 0, .int .u64 0, .int .u64 0, .int .u64 0, .int .u64 0, .int .u64 0, .int .u64 0, .int .i64 0, .int .i64 0, .int .u64 0, .int .u64 0, .int .u64 0, .int .u64 0, .int .u64 0, .int .u64 0, .int .u64 0, .int .u64 0, .int .u64 0, .int .u64 0, .int .u64 0, .int .u64 0, .int .u64 0, .int .u64 0, .int .u64 0, .int .u64 0] 53))
  generalize hg : (w.alloc (.cells #[.int .i64 0, .int .u64 0, .int .u64 0, .int .u64 0, .int .u64 0, .int .u64 0, .int .u64 0, .int .u64 0, .int .i64 0, .int .i64 0, .int .u64 0, .int .u64 0, .int .u64 0, .int .u64 0, .int .u64 0, .int .u64 0, .int .u64 0, .int .u64 0, .int .u64 0, .int .u64 0, .int .u64 0, .int .u64 0, .int .u64 0, .int .u64 0, .int .u64 0, .int .u64 0] 53)) = w1 at HT HB
  have HL := Lib.hid (World.rangeAt_setCells_same w1 w.heap.size 0 [.int .i64 0, .int .u64 0, .int .u64 0, .int .u64 0, .int .u64 0, .int .u64 0, .int .u64 0, .int .u64 0, .int .i64 0, .int .i64 0, .int .u64 0, .int .u64 0, .int .u64 0, .int .u64 0, .int .u64 0, .int .u64 0, .int .u64 0, .int .u64 0, .int .u64 0, .int .u64 0, .int .u64 0, .int .u64 0, .int .u64 0, .int .u64 0, .int .u64 0, .int .u64 0] HT.out)
  have hf0 : ¬ f < 0 := by omega
  go_enter Try.func23, Try.ntmps23
  go_wp2_with (first
  | (with_reducible (refine wpl_build rfl 53 _ rfl ?vs ?v ?hp ?hr ?h)
     case hp => (simp only [List.map_toArray, List.map_cons, List.map_nil]; rfl)
     case hr => exact build_z _
     with_reducible (refine wpList_store_mid rfl 53 _ _ rfl ?b ?o ?cells ?hx ?hy ?ht ?hi ?h1 ?h2)
     case hx => rfl
     case hy => rfl
     case ht => exact hg.symm ▸ HT.out
     case hi => kernel_rfl
     case h1 => kernel_rfl
     simp only [hg]))
  refine ret_cell rfl rfl rfl rfl HL.out Try.underlying53 rfl (by kernel_rfl) ?_
  exact ret_of rfl (below_setCells _ _ _ _ HB.out (Nat.le_refl _))
theorem of_bad (w : World) (f : Int) (hf : f < 0 ∨ 15 < f) : Calls Try.prog 23 #[.int .i64 f] w (Ret w fun v _ => v = .tuple #[.agg zeroRules, .int .i64 1]) :=
  hf.elim (of_bad0 w f) (of_bad1 w f)
set_option maxRecDepth 100000 in
set_option maxHeartbeats 2000000 in
theorem refof_bad0 (w : World) (f : Int) (hf : f < 0) : Calls Try.prog 37 #[.int .i64 f] w (Ret w fun v _ => v = .tuple #[.agg zeroRules, .bool false]) := by
  have hT : (w.alloc (.cells #[.int .i64 0, .int .u64 0, .int .u64 0, .int .u64 0, .int .u64 0, .int .u64 0, .int .u64 0, .int .u64 0, .int .i64 0, .int .i64 0, .int .u64 0, .int .u64 0, .int .u64 0, .int .u64 0, .int .u64 0, .int .u64 0, .int .u64 0, .int .u64 0, .int .u64 0, .int .u64 0, .int .u64 0, .int .u64 0, .int .u64 0, .int .u64 0, .int .u64 0, .int .u64 0] 53)).there w.heap.size 0 26 := there_new w _ _
  have HT := Lib.hid hT
  clear hT
  have HB := Lib.hid ((Below.refl w.heap.size w).alloc (Nat.le_refl _) (.cells #[.int .i64 0, .int .u64 0, .int .u64 0, .int .u64 0, .int .u64 0, .int .u64 0, .int .u64 0, .int .u64 0, .int .i64 0, .int .i64 0, .int .u64 0, .int .u64 0, .int .u64 0, .int .u64 0, .int .u64 0, .int .u64 0, .int .u64 0, .int .u64 0, .int .u64 0, .int .u64 0, .int .u64 0, .int .u64 0, .int .u64 0, .int .u64 0, .int .u64 0, .int .u64 0] 53))
  generalize hg : (w.alloc (.cells #[.int .i64 0, .int .u64 0, .int .u64 0, .int .u64 0, .int .u64 0, .int .u64 0, .int .u64 0, .int .u64 0, .int .i64 0, .int .i64 0, .int .u64 0, .int .u64 0, .int .u64 0, .int .u64 0, .int .u64 0, .int .u64 0, .int .u64 0, .int .u64 0, .int .u64 0, .int .u64 0, .int .u64 0, .int .u64 0, .int .u64 0, .int .u64 0, .int .u64 0, .int .u64 0] 53)) = w1 at HT HB
  have HL := Lib.hid (World.rangeAt_setCells_same w1 w.heap.size 0 [.int .i64 0, .int .u64 0, .int .u64 0, .int .u64 0, .int .u64 0, .int .u64 0, .int .u64 0, .int .u64 0, .int .i64 0, .int .i64 0, .int .u64 0, .int .u64 0, .int .u64 0, .int .u64 0, .int .u64 0, .int .u64 0, .int .u64 0, .int .u64 0, .int .u64 0, .int .u64 0, .int .u64 0, .int .u64 0, .int .u64 0, .int .u64 0, .int .u64 0, .int .u64 0] HT.out)
  go_enter Try.func37, Try.ntmps37
  go_wp2_with (first
  | (with_reducible (refine wpl_build rfl 53 _ rfl ?vs ?v ?hp ?hr ?h)
     case hp => (simp only [List.map_toArray, List.map_cons, List.map_nil]; rfl)
     case hr => exact build_z _
     with_reducible (refine wpList_store_mid rfl 53 _ _ rfl ?b ?o ?cells ?hx ?hy ?ht ?hi ?h1 ?h2)
     case hx => rfl
     case hy => rfl
     case ht => exact hg.symm ▸ HT.out
     case hi => kernel_rfl
     case h1 => kernel_rfl
     simp only [hg]))
  refine ret_cell rfl rfl rfl rfl HL.out Try.underlying53 rfl (by kernel_rfl) ?_
  exact ret_of rfl (below_setCells _ _ _ _ HB.out (Nat.le_refl _))
set_option maxRecDepth 100000 in
set_option maxHeartbeats 2000000 in
theorem refof_bad1 (w : World) (f : Int) (hf : 15 < f) : Calls Try.prog 37 #[.int .i64 f] w (Ret w fun v _ => v = .tuple #[.agg zeroRules, .bool false]) := by
  have hT : (w.alloc (.cells #[.int .i64 0, .int .u64 0, .int .u64 0, .int .u64 0, .int .u64 0, .int .u64 0, .int .u64 0, .int .u64 0, .int .i64 0, .int .i64 0, .int .u64 0, .int .u64 0, .int .u64 0, .int .u64 0, .int .u64 0, .int .u64 0, .int .u64 0, .int .u64 0, .int .u64 0, .int .u64 0, .int .u64 0, .int .u64 0, .int .u64 0, .int .u64 0, .int .u64 0, .int .u64 0] 53)).there w.heap.size 0 26 := there_new w _ _
  have HT := Lib.hid hT
  clear hT
  have HB := Lib.hid ((Below.refl w.heap.size w).alloc (Nat.le_refl _) (.cells #[.int .i64 0, .int .u64 0, .int .u64 0, .int .u64 0, .int .u64 0, .int .u64 0, .int .u64 0, .int .u64 0, .int .i64 0, .int .i64 0, .int .u64 0, .int .u64 0, .int .u64 0, .int .u64 0, .int .u64 0, .int .u64 0, .int .u64 0, .int .u64 0, .int .u64 0, .int .u64 0, .int .u64 0, .int .u64 0, .int .u64 0, .int .u64 0, .int .u64 0, .int .u64 0] 53))
  generalize hg : (w.alloc (.cells #[.int .i64 0, .int .u64 0, .int .u64 0, .int .u64 0, .int .u64 0, .int .u64 0, .int .u64 0, .int .u64 0, .int .i64 0, .int .i64 0, .int .u64 0, .int .u64 0, .int .u64 0, .int .u64 0, .int .u64 0, .int .u64 0, .int .u64 0, .int .u64 0, .int .u64 0, .int .u64 0, .int .u64 0, .int .u64 0, .int .u64 0, .int .u64 0, .int .u64 0, .int .u64 0] 53)) = w1 at HT HB
  have HL := Lib.hid (World.rangeAt_setCells_same w1 w.heap.size 0 [.int .i64 0, .int .u64 0, .int .u64 0, .int .u64 0, .int .u64 0, .int .u64 0, .int .u64 0, .int .u64 0, .int .i64 0, .int .i64 0, .int .u64 0, .int .u64 0, .int .u64 0, .int .u64 0, .int .u64 0, .int .u64 0, .int .u64 0, .int .u64 0, .int .u64 0, .int .u64 0, .int .u64 0, .int .u64 0, .int .u64 0, .int .u64 0, .int .u64 0, .int .u64 0] HT.out)
  have hf0 : ¬ f < 0 := by omega
  go_enter Try.func37, Try.ntmps37
  go_wp2_with (first
  | (with_reducible (refine wpl_build rfl 53 _ rfl ?vs ?v ?hp ?hr ?h)
     case hp => (simp only [List.map_toArray, List.map_cons, List.map_nil]; rfl)
     case hr => exact build_z _
     with_reducible (refine wpList_store_mid rfl 53 _ _ rfl ?b ?o ?cells ?hx ?hy ?ht ?hi ?h1 ?h2)
     case hx => rfl
     case hy => rfl
     case ht => exact hg.symm ▸ HT.out
     case hi => kernel_rfl
     case h1 => kernel_rfl
     simp only [hg]))
  refine ret_cell rfl rfl rfl rfl HL.out Try.underlying53 rfl (by kernel_rfl) ?_
  exact ret_of rfl (below_setCells _ _ _ _ HB.out (Nat.le_refl _))
theorem refof_bad (w : World) (f : Int) (hf : f < 0 ∨ 15 < f) : Calls Try.prog 37 #[.int .i64 f] w (Ret w fun v _ => v = .tuple #[.agg zeroRules, .bool false]) :=
  hf.elim (refof_bad0 w f) (refof_bad1 w f)
end Go.Proofs.Ytbmlhdecnfplaaa
/- The numbers of a fork, or none; the reference's. No condition. -/
namespace Go.Proofs.Ytbmlhdecnfplaaa
set_option linter.unusedVariables false
set_option linter.unusedSimpArgs false
open Go Go.RowKit
def zeroL : List Value := [.int .i64 0, .int .u64 0, .int .u64 0, .int .u64 0, .int .u64 0, .int .u64 0, .int .u64 0, .int .u64 0, .int .i64 0, .int .i64 0, .int .u64 0, .int .u64 0, .int .u64 0, .int .u64 0, .int .u64 0, .int .u64 0, .int .u64 0, .int .u64 0, .int .u64 0, .int .u64 0, .int .u64 0, .int .u64 0, .int .u64 0, .int .u64 0, .int .u64 0, .int .u64 0]
theorem rOf_f (f : Int) (h : 0 ≤ f) (h2 : f ≤ 15) : Fn Try.prog 37 #[.int .i64 f] [] [] (fun v L => v = .tuple #[.agg (rulesL f).toArray, .bool true] ∧ L = []) := Fn.of_val fun w _ => refof_c w f h h2
theorem FOf_no (f : Int) (h : f < 0 ∨ 15 < f) : Fn Try.prog 23 #[.int .i64 f] [] [] (fun v L => v = .tuple #[.agg zeroL.toArray, .int .i64 1] ∧ L = []) := Fn.of_val fun w _ => of_bad w f h
end Go.Proofs.Ytbmlhdecnfplaaa
