/- Layer 13: fork.Of and the reference Of outside the forks. No condition but those told below. -/
import Derived.Test.YtoabimaidpbkiaaDoorF12
namespace Go.Proofs.YtoabimaidpbkiaaDoor
set_option linter.unusedVariables false
set_option linter.unusedSimpArgs false
open Go.RowKit

set_option maxRecDepth 100000 in
set_option maxHeartbeats 2000000 in
theorem of_bad0 (w : World) (f : Int) (hf : f < 0) : Calls Tryd.prog 8 #[.int .i64 f] w (Ret w fun v _ => v = .tuple #[.agg zeroRules, .int .i64 1]) := by
  have hT : (w.alloc (.cells #[.int .i64 0, .int .u64 0, .int .u64 0, .int .u64 0, .int .u64 0, .int .u64 0, .int .u64 0, .int .u64 0, .int .i64 0, .int .i64 0, .int .u64 0, .int .u64 0, .int .u64 0, .int .u64 0, .int .u64 0, .int .u64 0, .int .u64 0, .int .u64 0, .int .u64 0, .int .u64 0, .int .u64 0, .int .u64 0, .int .u64 0, .int .u64 0, .int .u64 0, .int .u64 0] 24)).there w.heap.size 0 26 := there_new w _ _
  have HT := Lib.hid hT
  clear hT
  have HB := Lib.hid ((Below.refl w.heap.size w).alloc (Nat.le_refl _) (.cells #[.int .i64 0, .int .u64 0, .int .u64 0, .int .u64 0, .int .u64 0, .int .u64 0, .int .u64 0, .int .u64 0, .int .i64 0, .int .i64 0, .int .u64 0, .int .u64 0, .int .u64 0, .int .u64 0, .int .u64 0, .int .u64 0, .int .u64 0, .int .u64 0, .int .u64 0, .int .u64 0, .int .u64 0, .int .u64 0, .int .u64 0, .int .u64 0, .int .u64 0, .int .u64 0] 24))
  generalize hg : (w.alloc (.cells #[.int .i64 0, .int .u64 0, .int .u64 0, .int .u64 0, .int .u64 0, .int .u64 0, .int .u64 0, .int .u64 0, .int .i64 0, .int .i64 0, .int .u64 0, .int .u64 0, .int .u64 0, .int .u64 0, .int .u64 0, .int .u64 0, .int .u64 0, .int .u64 0, .int .u64 0, .int .u64 0, .int .u64 0, .int .u64 0, .int .u64 0, .int .u64 0, .int .u64 0, .int .u64 0] 24)) = w1 at HT HB
  have HL := Lib.hid (World.rangeAt_setCells_same w1 w.heap.size 0 [.int .i64 0, .int .u64 0, .int .u64 0, .int .u64 0, .int .u64 0, .int .u64 0, .int .u64 0, .int .u64 0, .int .i64 0, .int .i64 0, .int .u64 0, .int .u64 0, .int .u64 0, .int .u64 0, .int .u64 0, .int .u64 0, .int .u64 0, .int .u64 0, .int .u64 0, .int .u64 0, .int .u64 0, .int .u64 0, .int .u64 0, .int .u64 0, .int .u64 0, .int .u64 0] HT.out)
  go_enter Tryd.func8, Tryd.ntmps8
  go_wp2_with (first
  | (with_reducible (refine wpl_build rfl 24 _ rfl ?vs ?v ?hp ?hr ?h)
     case hp => (simp only [List.map_toArray, List.map_cons, List.map_nil]; rfl)
     case hr => exact build_z _
     with_reducible (refine wpList_store_mid rfl 24 _ _ rfl ?b ?o ?cells ?hx ?hy ?ht ?hi ?h1 ?h2)
     case hx => rfl
     case hy => rfl
     case ht => exact hg.symm ▸ HT.out
     case hi => kernel_rfl
     case h1 => kernel_rfl
     simp only [hg]))
  refine ret_cell rfl rfl rfl rfl HL.out Tryd.underlying24 rfl (by kernel_rfl) ?_
  exact ret_of rfl (below_setCells _ _ _ _ HB.out (Nat.le_refl _))
set_option maxRecDepth 100000 in
set_option maxHeartbeats 2000000 in
theorem of_bad1 (w : World) (f : Int) (hf : 15 < f) : Calls Tryd.prog 8 #[.int .i64 f] w (Ret w fun v _ => v = .tuple #[.agg zeroRules, .int .i64 1]) := by
  have hT : (w.alloc (.cells #[.int .i64 0, .int .u64 0, .int .u64 0, .int .u64 0, .int .u64 0, .int .u64 0, .int .u64 0, .int .u64 0, .int .i64 0, .int .i64 0, .int .u64 0, .int .u64 0, .int .u64 0, .int .u64 0, .int .u64 0, .int .u64 0, .int .u64 0, .int .u64 0, .int .u64 0, .int .u64 0, .int .u64 0, .int .u64 0, .int .u64 0, .int .u64 0, .int .u64 0, .int .u64 0] 24)).there w.heap.size 0 26 := there_new w _ _
  have HT := Lib.hid hT
  clear hT
  have HB := Lib.hid ((Below.refl w.heap.size w).alloc (Nat.le_refl _) (.cells #[.int .i64 0, .int .u64 0, .int .u64 0, .int .u64 0, .int .u64 0, .int .u64 0, .int .u64 0, .int .u64 0, .int .i64 0, .int .i64 0, .int .u64 0, .int .u64 0, .int .u64 0, .int .u64 0, .int .u64 0, .int .u64 0, .int .u64 0, .int .u64 0, .int .u64 0, .int .u64 0, .int .u64 0, .int .u64 0, .int .u64 0, .int .u64 0, .int .u64 0, .int .u64 0] 24))
  generalize hg : (w.alloc (.cells #[.int .i64 0, .int .u64 0, .int .u64 0, .int .u64 0, .int .u64 0, .int .u64 0, .int .u64 0, .int .u64 0, .int .i64 0, .int .i64 0, .int .u64 0, .int .u64 0, .int .u64 0, .int .u64 0, .int .u64 0, .int .u64 0, .int .u64 0, .int .u64 0, .int .u64 0, .int .u64 0, .int .u64 0, .int .u64 0, .int .u64 0, .int .u64 0, .int .u64 0, .int .u64 0] 24)) = w1 at HT HB
  have HL := Lib.hid (World.rangeAt_setCells_same w1 w.heap.size 0 [.int .i64 0, .int .u64 0, .int .u64 0, .int .u64 0, .int .u64 0, .int .u64 0, .int .u64 0, .int .u64 0, .int .i64 0, .int .i64 0, .int .u64 0, .int .u64 0, .int .u64 0, .int .u64 0, .int .u64 0, .int .u64 0, .int .u64 0, .int .u64 0, .int .u64 0, .int .u64 0, .int .u64 0, .int .u64 0, .int .u64 0, .int .u64 0, .int .u64 0, .int .u64 0] HT.out)
  have hf0 : ¬ f < 0 := by omega
  go_enter Tryd.func8, Tryd.ntmps8
  go_wp2_with (first
  | (with_reducible (refine wpl_build rfl 24 _ rfl ?vs ?v ?hp ?hr ?h)
     case hp => (simp only [List.map_toArray, List.map_cons, List.map_nil]; rfl)
     case hr => exact build_z _
     with_reducible (refine wpList_store_mid rfl 24 _ _ rfl ?b ?o ?cells ?hx ?hy ?ht ?hi ?h1 ?h2)
     case hx => rfl
     case hy => rfl
     case ht => exact hg.symm ▸ HT.out
     case hi => kernel_rfl
     case h1 => kernel_rfl
     simp only [hg]))
  refine ret_cell rfl rfl rfl rfl HL.out Tryd.underlying24 rfl (by kernel_rfl) ?_
  exact ret_of rfl (below_setCells _ _ _ _ HB.out (Nat.le_refl _))
theorem of_bad (w : World) (f : Int) (hf : f < 0 ∨ 15 < f) : Calls Tryd.prog 8 #[.int .i64 f] w (Ret w fun v _ => v = .tuple #[.agg zeroRules, .int .i64 1]) :=
  hf.elim (of_bad0 w f) (of_bad1 w f)
set_option maxRecDepth 100000 in
set_option maxHeartbeats 2000000 in
theorem refof_bad0 (w : World) (f : Int) (hf : f < 0) : Calls Tryd.prog 9 #[.int .i64 f] w (Ret w fun v _ => v = .tuple #[.agg zeroRules, .bool false]) := by
  have hT : (w.alloc (.cells #[.int .i64 0, .int .u64 0, .int .u64 0, .int .u64 0, .int .u64 0, .int .u64 0, .int .u64 0, .int .u64 0, .int .i64 0, .int .i64 0, .int .u64 0, .int .u64 0, .int .u64 0, .int .u64 0, .int .u64 0, .int .u64 0, .int .u64 0, .int .u64 0, .int .u64 0, .int .u64 0, .int .u64 0, .int .u64 0, .int .u64 0, .int .u64 0, .int .u64 0, .int .u64 0] 24)).there w.heap.size 0 26 := there_new w _ _
  have HT := Lib.hid hT
  clear hT
  have HB := Lib.hid ((Below.refl w.heap.size w).alloc (Nat.le_refl _) (.cells #[.int .i64 0, .int .u64 0, .int .u64 0, .int .u64 0, .int .u64 0, .int .u64 0, .int .u64 0, .int .u64 0, .int .i64 0, .int .i64 0, .int .u64 0, .int .u64 0, .int .u64 0, .int .u64 0, .int .u64 0, .int .u64 0, .int .u64 0, .int .u64 0, .int .u64 0, .int .u64 0, .int .u64 0, .int .u64 0, .int .u64 0, .int .u64 0, .int .u64 0, .int .u64 0] 24))
  generalize hg : (w.alloc (.cells #[.int .i64 0, .int .u64 0, .int .u64 0, .int .u64 0, .int .u64 0, .int .u64 0, .int .u64 0, .int .u64 0, .int .i64 0, .int .i64 0, .int .u64 0, .int .u64 0, .int .u64 0, .int .u64 0, .int .u64 0, .int .u64 0, .int .u64 0, .int .u64 0, .int .u64 0, .int .u64 0, .int .u64 0, .int .u64 0, .int .u64 0, .int .u64 0, .int .u64 0, .int .u64 0] 24)) = w1 at HT HB
  have HL := Lib.hid (World.rangeAt_setCells_same w1 w.heap.size 0 [.int .i64 0, .int .u64 0, .int .u64 0, .int .u64 0, .int .u64 0, .int .u64 0, .int .u64 0, .int .u64 0, .int .i64 0, .int .i64 0, .int .u64 0, .int .u64 0, .int .u64 0, .int .u64 0, .int .u64 0, .int .u64 0, .int .u64 0, .int .u64 0, .int .u64 0, .int .u64 0, .int .u64 0, .int .u64 0, .int .u64 0, .int .u64 0, .int .u64 0, .int .u64 0] HT.out)
  go_enter Tryd.func9, Tryd.ntmps9
  go_wp2_with (first
  | (with_reducible (refine wpl_build rfl 24 _ rfl ?vs ?v ?hp ?hr ?h)
     case hp => (simp only [List.map_toArray, List.map_cons, List.map_nil]; rfl)
     case hr => exact build_z _
     with_reducible (refine wpList_store_mid rfl 24 _ _ rfl ?b ?o ?cells ?hx ?hy ?ht ?hi ?h1 ?h2)
     case hx => rfl
     case hy => rfl
     case ht => exact hg.symm ▸ HT.out
     case hi => kernel_rfl
     case h1 => kernel_rfl
     simp only [hg]))
  refine ret_cell rfl rfl rfl rfl HL.out Tryd.underlying24 rfl (by kernel_rfl) ?_
  exact ret_of rfl (below_setCells _ _ _ _ HB.out (Nat.le_refl _))
set_option maxRecDepth 100000 in
set_option maxHeartbeats 2000000 in
theorem refof_bad1 (w : World) (f : Int) (hf : 15 < f) : Calls Tryd.prog 9 #[.int .i64 f] w (Ret w fun v _ => v = .tuple #[.agg zeroRules, .bool false]) := by
  have hT : (w.alloc (.cells #[.int .i64 0, .int .u64 0, .int .u64 0, .int .u64 0, .int .u64 0, .int .u64 0, .int .u64 0, .int .u64 0, .int .i64 0, .int .i64 0, .int .u64 0, .int .u64 0, .int .u64 0, .int .u64 0, .int .u64 0, .int .u64 0, .int .u64 0, .int .u64 0, .int .u64 0, .int .u64 0, .int .u64 0, .int .u64 0, .int .u64 0, .int .u64 0, .int .u64 0, .int .u64 0] 24)).there w.heap.size 0 26 := there_new w _ _
  have HT := Lib.hid hT
  clear hT
  have HB := Lib.hid ((Below.refl w.heap.size w).alloc (Nat.le_refl _) (.cells #[.int .i64 0, .int .u64 0, .int .u64 0, .int .u64 0, .int .u64 0, .int .u64 0, .int .u64 0, .int .u64 0, .int .i64 0, .int .i64 0, .int .u64 0, .int .u64 0, .int .u64 0, .int .u64 0, .int .u64 0, .int .u64 0, .int .u64 0, .int .u64 0, .int .u64 0, .int .u64 0, .int .u64 0, .int .u64 0, .int .u64 0, .int .u64 0, .int .u64 0, .int .u64 0] 24))
  generalize hg : (w.alloc (.cells #[.int .i64 0, .int .u64 0, .int .u64 0, .int .u64 0, .int .u64 0, .int .u64 0, .int .u64 0, .int .u64 0, .int .i64 0, .int .i64 0, .int .u64 0, .int .u64 0, .int .u64 0, .int .u64 0, .int .u64 0, .int .u64 0, .int .u64 0, .int .u64 0, .int .u64 0, .int .u64 0, .int .u64 0, .int .u64 0, .int .u64 0, .int .u64 0, .int .u64 0, .int .u64 0] 24)) = w1 at HT HB
  have HL := Lib.hid (World.rangeAt_setCells_same w1 w.heap.size 0 [.int .i64 0, .int .u64 0, .int .u64 0, .int .u64 0, .int .u64 0, .int .u64 0, .int .u64 0, .int .u64 0, .int .i64 0, .int .i64 0, .int .u64 0, .int .u64 0, .int .u64 0, .int .u64 0, .int .u64 0, .int .u64 0, .int .u64 0, .int .u64 0, .int .u64 0, .int .u64 0, .int .u64 0, .int .u64 0, .int .u64 0, .int .u64 0, .int .u64 0, .int .u64 0] HT.out)
  have hf0 : ¬ f < 0 := by omega
  go_enter Tryd.func9, Tryd.ntmps9
  go_wp2_with (first
  | (with_reducible (refine wpl_build rfl 24 _ rfl ?vs ?v ?hp ?hr ?h)
     case hp => (simp only [List.map_toArray, List.map_cons, List.map_nil]; rfl)
     case hr => exact build_z _
     with_reducible (refine wpList_store_mid rfl 24 _ _ rfl ?b ?o ?cells ?hx ?hy ?ht ?hi ?h1 ?h2)
     case hx => rfl
     case hy => rfl
     case ht => exact hg.symm ▸ HT.out
     case hi => kernel_rfl
     case h1 => kernel_rfl
     simp only [hg]))
  refine ret_cell rfl rfl rfl rfl HL.out Tryd.underlying24 rfl (by kernel_rfl) ?_
  exact ret_of rfl (below_setCells _ _ _ _ HB.out (Nat.le_refl _))
theorem refof_bad (w : World) (f : Int) (hf : f < 0 ∨ 15 < f) : Calls Tryd.prog 9 #[.int .i64 f] w (Ret w fun v _ => v = .tuple #[.agg zeroRules, .bool false]) :=
  hf.elim (refof_bad0 w f) (refof_bad1 w f)
end Go.Proofs.YtoabimaidpbkiaaDoor
