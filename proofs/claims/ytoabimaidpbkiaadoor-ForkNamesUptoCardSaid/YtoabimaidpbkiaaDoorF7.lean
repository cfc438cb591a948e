/- Layer 13: the reference Of inside the forks. No condition but those told below. -/
import Derived.Test.YtoabimaidpbkiaaDoorF12
namespace Go.Proofs.YtoabimaidpbkiaaDoor
set_option linter.unusedVariables false
set_option linter.unusedSimpArgs false
open Go.RowKit

set_option maxRecDepth 100000 in
set_option maxHeartbeats 4000000 in
theorem refof_c (w : World) (f : Int) (hf : 0 ≤ f) (hf2 : f ≤ 15) : Calls Tryd.prog 9 #[.int .i64 f] w (Ret w fun v _ => v = .tuple #[rulesV f, .bool true]) := by
  have hT : (w.alloc (.cells #[.int .i64 0, .int .u64 0, .int .u64 0, .int .u64 0, .int .u64 0, .int .u64 0, .int .u64 0, .int .u64 0, .int .i64 0, .int .i64 0, .int .u64 0, .int .u64 0, .int .u64 0, .int .u64 0, .int .u64 0, .int .u64 0, .int .u64 0, .int .u64 0, .int .u64 0, .int .u64 0, .int .u64 0, .int .u64 0, .int .u64 0, .int .u64 0, .int .u64 0, .int .u64 0] 24)).there w.heap.size 0 26 := there_new w _ _
  have HT := Lib.hid hT
  clear hT
  have hB := Below.refl (w.alloc (.cells #[.int .i64 0, .int .u64 0, .int .u64 0, .int .u64 0, .int .u64 0, .int .u64 0, .int .u64 0, .int .u64 0, .int .i64 0, .int .i64 0, .int .u64 0, .int .u64 0, .int .u64 0, .int .u64 0, .int .u64 0, .int .u64 0, .int .u64 0, .int .u64 0, .int .u64 0, .int .u64 0, .int .u64 0, .int .u64 0, .int .u64 0, .int .u64 0, .int .u64 0, .int .u64 0] 24)).heap.size (w.alloc (.cells #[.int .i64 0, .int .u64 0, .int .u64 0, .int .u64 0, .int .u64 0, .int .u64 0, .int .u64 0, .int .u64 0, .int .i64 0, .int .i64 0, .int .u64 0, .int .u64 0, .int .u64 0, .int .u64 0, .int .u64 0, .int .u64 0, .int .u64 0, .int .u64 0, .int .u64 0, .int .u64 0, .int .u64 0, .int .u64 0, .int .u64 0, .int .u64 0, .int .u64 0, .int .u64 0] 24))
  go_enter Tryd.func9, Tryd.ntmps9
  go_wp2_with (first
    | (go_at_call 25; refine (fromA _ _ f hB _ _ _ _ _ (by rfl) (by simp) (by rfl) (by rfl) (by decide) (by decide) (by decide) (by decide) (by decide)).mono ?_; clear hB; rintro e w' ⟨⟨k, rfl, hk, hlt⟩, hB⟩)
    | (with_reducible (refine wpl_build rfl 24 _ rfl ?vs ?v ?hp ?hr ?h)
       case hp => (simp only [List.map_toArray, List.map_cons, List.map_nil]; rfl)
       case hr => exact build_b ..
       with_reducible (refine wpList_store_mid rfl 24 _ _ rfl ?b ?o ?cells ?hx ?hy ?ht ?hi ?h1 ?h2)
       case hx => rfl
       case hy => rfl
       case ht => exact there_below hB (by simp) HT.out
       case hi => kernel_rfl
       case h1 => kernel_rfl))
  have hbb : Below w.heap.size w w' := ((Below.refl w.heap.size w).alloc (Nat.le_refl _) _).trans (hB.mono (by simp))
  refine ret_cell rfl rfl rfl rfl (World.rangeAt_setCells_same _ _ _ _ (there_below hB (by simp) HT.out)) Tryd.underlying24 rfl (by kernel_rfl) (ret_of (congrArg (fun x => Value.tuple #[x, .bool true]) (fin_from hf (by assumption) (by assumption) (by assumption) (by assumption) (by assumption) (by assumption) (by assumption) (by assumption) (by assumption) (by assumption) (by assumption) (by assumption) (by assumption) (by assumption) (by assumption) (by assumption) (by assumption) (by assumption) (by assumption) (by assumption) (by assumption) (by assumption) (by assumption))) (below_setCells _ _ _ _ hbb (Nat.le_refl _)))
end Go.Proofs.YtoabimaidpbkiaaDoor
