/- Layer 13: building the struct of a fork. No condition but those told below. -/
import Derived.Test.YtoabimaidpbkiaaDoorF5
import Derived.Deep.MidRow
namespace Go.Proofs.YtoabimaidpbkiaaDoor
set_option linter.unusedVariables false
set_option linter.unusedSimpArgs false
open Go.RowKit
theorem wpl_build {P : Program} {ops : Array Oper} {rest : List Oper} {o : Oper} {a : Act} {w : World} {Q : Exit → Act → World → Prop} (hgd : o.guard = none) (t : TypeId) (parts : Array (Nat × Operand)) (ho : o.op = .build t parts) (vs : Array (Nat × Value)) (v : Value)
    (hp : (parts.map fun x => (x.1, a.eval x.2)) = vs) (hr : Sem.run P (Instr.build t vs) w = .ok v w) (h : wpList P ops Q rest (a.put o.dst v) w) : wpList P ops Q (o :: rest) a w :=
  wpList_plain hgd fun _ hK => by
    unfold Oper.wp execOp
    simp only [ho, resolve, hp, hr, Sem.run_bind, Sem.run_pure, Sem.run_map, Result.andThen_ok]
    exact hK _ _ h
theorem build_a (w : World) (x0 x1 x2 x3 x4 x5 x6 x7 x8 x9 x10 x11 x12 x13 x14 x15 x16 x17 x18 x19 x20 x21 x22 x23 x24 x25 : Int) : Sem.run Tryd.prog (Instr.build 24 #[(0, .int .i64 x0), (1, .int .u64 x1), (2, .int .u64 x2), (3, .int .u64 x3), (4, .int .u64 x4), (5, .int .u64 x5), (6, .int .u64 x6), (7, .int .u64 x7), (8, .int .i64 x8), (9, .int .i64 x9), (10, .int .u64 x10), (11, .int .u64 x11), (12, .int .u64 x12), (13, .int .u64 x13), (14, .int .u64 x14), (15, .int .u64 x15), (16, .int .u64 x16), (17, .int .u64 x17), (18, .int .u64 x18), (19, .int .u64 x19), (20, .int .u64 x20), (21, .int .u64 x21), (22, .int .u64 x22), (23, .int .u64 x23), (24, .int .u64 x24), (25, .int .u64 x25)]) w = .ok (.agg #[.int .i64 x0, .int .u64 x1, .int .u64 x2, .int .u64 x3, .int .u64 x4, .int .u64 x5, .int .u64 x6, .int .u64 x7, .int .i64 x8, .int .i64 x9, .int .u64 x10, .int .u64 x11, .int .u64 x12, .int .u64 x13, .int .u64 x14, .int .u64 x15, .int .u64 x16, .int .u64 x17, .int .u64 x18, .int .u64 x19, .int .u64 x20, .int .u64 x21, .int .u64 x22, .int .u64 x23, .int .u64 x24, .int .u64 x25]) w := by kernel_rfl
theorem build_b (w : World) (x0 x1 x2 x3 x4 x5 x6 x7 x8 x9 x10 x11 x12 x13 x14 x15 x16 x17 x18 x19 x20 x21 x22 x23 x24 x25 : Int) : Sem.run Tryd.prog (Instr.build 24 #[(0, .int .i64 x0), (1, .int .u64 x1), (3, .int .u64 x3), (2, .int .u64 x2), (4, .int .u64 x4), (5, .int .u64 x5), (6, .int .u64 x6), (7, .int .u64 x7), (8, .int .i64 x8), (9, .int .i64 x9), (10, .int .u64 x10), (11, .int .u64 x11), (12, .int .u64 x12), (13, .int .u64 x13), (14, .int .u64 x14), (15, .int .u64 x15), (16, .int .u64 x16), (17, .int .u64 x17), (18, .int .u64 x18), (19, .int .u64 x19), (20, .int .u64 x20), (21, .int .u64 x21), (22, .int .u64 x22), (23, .int .u64 x23), (24, .int .u64 x24), (25, .int .u64 x25)]) w = .ok (.agg #[.int .i64 x0, .int .u64 x1, .int .u64 x2, .int .u64 x3, .int .u64 x4, .int .u64 x5, .int .u64 x6, .int .u64 x7, .int .i64 x8, .int .i64 x9, .int .u64 x10, .int .u64 x11, .int .u64 x12, .int .u64 x13, .int .u64 x14, .int .u64 x15, .int .u64 x16, .int .u64 x17, .int .u64 x18, .int .u64 x19, .int .u64 x20, .int .u64 x21, .int .u64 x22, .int .u64 x23, .int .u64 x24, .int .u64 x25]) w := by kernel_rfl
theorem there_below {W w' : World} {b o n : Nat} (hB : Below W.heap.size W w') (hb : b < W.heap.size) (h : W.there b o n) : w'.there b o n := by
  intro j hj
  have := h j hj
  unfold World.cell? World.frozen? at this ⊢
  simp only [hB.block b hb]
  exact this
theorem there_new (w : World) (a : Array Value) (T : TypeId) : (w.alloc (.cells a T)).there w.heap.size 0 a.size := by
  intro j hj
  have hk : (w.alloc (.cells a T)).heap[w.heap.size]? = some (.cells a T) := by unfold World.alloc; exact Array.getElem?_push_size
  unfold World.cell? World.frozen?
  simp only [hk]
  simp [hj]
theorem build_z (w : World) : Sem.run Tryd.prog (Instr.build 24 #[]) w = .ok (.agg #[.int .i64 0, .int .u64 0, .int .u64 0, .int .u64 0, .int .u64 0, .int .u64 0, .int .u64 0, .int .u64 0, .int .i64 0, .int .i64 0, .int .u64 0, .int .u64 0, .int .u64 0, .int .u64 0, .int .u64 0, .int .u64 0, .int .u64 0, .int .u64 0, .int .u64 0, .int .u64 0, .int .u64 0, .int .u64 0, .int .u64 0, .int .u64 0, .int .u64 0, .int .u64 0]) w := by kernel_rfl
def zeroRules : Array Value := #[.int .i64 0, .int .u64 0, .int .u64 0, .int .u64 0, .int .u64 0, .int .u64 0, .int .u64 0, .int .u64 0, .int .i64 0, .int .i64 0, .int .u64 0, .int .u64 0, .int .u64 0, .int .u64 0, .int .u64 0, .int .u64 0, .int .u64 0, .int .u64 0, .int .u64 0, .int .u64 0, .int .u64 0, .int .u64 0, .int .u64 0, .int .u64 0, .int .u64 0, .int .u64 0]
end Go.Proofs.YtoabimaidpbkiaaDoor
