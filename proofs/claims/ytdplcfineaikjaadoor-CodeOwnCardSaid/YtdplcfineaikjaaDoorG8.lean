/- The engine, part 8: parts of slices. For whatever program. No condition. -/
import Derived.Test.YtdplcfineaikjaaDoorG7
namespace Go.Proofs.YtdplcfineaikjaaDoor
set_option linter.unusedVariables false
set_option linter.unusedSimpArgs false
open Go Go.RowKit
theorem sadr_zero (ao : Option Addr) (m s : Nat) : sadr ao 0 m s = ao := by
  unfold sadr
  split
  · rfl
  · cases ao with
    | none => rfl
    | some a => simp [Addr.add]
section
variable {P : Program} {n : Nat} {l l' : List (Nat × Value)} {E : World} {L L1 Ls : List Heaplet} {o : Oper} {X Y K : Act → World → Prop} {N : Heaplet} {Q : Exit → Act → World → Prop}
variable {d : Nat} {ty t t' e : TypeId} {pos : String} {aft : Array Edge} {g : Option (Nat × Bool)} {v : Value} {x y z : Operand} {k : IntKind} {p q : Int} {size len cap : Nat} {ao : Option Addr} {xs : List Value} {b off j : Nat}
theorem op_slice0 {hi mx : Option Operand} {y' z' : Nat} (s : NxF P n l E L Ls ⟨some d, .slice t x none hi mx, ty, pos, aft, g⟩ X Y) (ht : selt P t = some (e, size)) (hx : ev l x = some (.slice ao len cap)) (hhi : Bd l hi len y') (hmx : Bd l mx cap z') (h2 : y' ≤ z') (h3 : z' ≤ cap)
    (hm : mx.isSome = true → hi.isSome = true) (hn : Nat.ble (d + 1) n = true) (h : At n ((d, .slice ao y' z') :: l) E L Y) : At n l E L X :=
  op_slice s ht hx .none hhi hmx (Nat.zero_le _) h2 h3 hm hn (by rw [sadr_zero]; exact h)
theorem RSl.isSome {N : Heaplet} {size : Nat} {ao : Option Addr} {n cap : Nat} {xs : List Value} (h : RSl N size ao n cap xs) (h0 : 0 < n) : ao.isSome = true := by
  obtain ⟨b, off, rfl, _⟩ := h.2.2.2 h0; rfl
theorem RSl.take {N : Heaplet} {size : Nat} {ao : Option Addr} {n cap : Nat} {xs : List Value} (h : RSl N size ao n cap xs) {hi m : Nat} (h2 : hi ≤ m) (h3 : m ≤ cap) (h4 : hi ≤ n) : RSl N size ao hi m (xs.take (hi * size)) := by
  have := h.part (Nat.zero_le hi) h2 h3 h4
  simpa [sadr_zero] using this
theorem RSl.drop {N : Heaplet} {size : Nat} {ao : Option Addr} {n cap : Nat} {xs : List Value} (h : RSl N size ao n cap xs) {lo : Nat} (h4 : lo ≤ n) : RSl N size (sadr ao lo cap size) (n - lo) (cap - lo) (xs.drop (lo * size)) := by
  have := h.part h4 h.2.1 (Nat.le_refl _) (Nat.le_refl _)
  rwa [List.take_of_length_le (by rw [List.length_drop, h.1, Nat.sub_mul]; exact Nat.le_refl _)] at this
theorem u8s_take (l : List UInt8) (k : Nat) : (u8s l).take k = u8s (l.take k) := by simp [u8s]
theorem u8s_drop (l : List UInt8) (k : Nat) : (u8s l).drop k = u8s (l.drop k) := by simp [u8s]
theorem u64s_takeR (l : List UInt64) (k : Nat) : (u64s l).take k = u64s (l.take k) := by simp [u64s]
theorem u64s_drop (l : List UInt64) (k : Nat) : (u64s l).drop k = u64s (l.drop k) := by simp [u64s]
theorem u32s_take (l : List UInt32) (k : Nat) : (u32s l).take k = u32s (l.take k) := by simp [u32s]
theorem u32s_drop (l : List UInt32) (k : Nat) : (u32s l).drop k = u32s (l.drop k) := by simp [u32s]
theorem RSl.take8 {N : Heaplet} {ao : Option Addr} {n cap : Nat} {bs : List UInt8} (h : RSl N 1 ao n cap (u8s bs)) {hi m : Nat} (h2 : hi ≤ m) (h3 : m ≤ cap) (h4 : hi ≤ n) : RSl N 1 ao hi m (u8s (bs.take hi)) := by
  have := h.take h2 h3 h4; rwa [Nat.mul_one, u8s_take] at this
theorem RSl.drop8 {N : Heaplet} {ao : Option Addr} {n cap : Nat} {bs : List UInt8} (h : RSl N 1 ao n cap (u8s bs)) {lo : Nat} (h4 : lo ≤ n) : RSl N 1 (sadr ao lo cap 1) (n - lo) (cap - lo) (u8s (bs.drop lo)) := by
  have := h.drop h4; rwa [Nat.mul_one, u8s_drop] at this
theorem RSl.part8 {N : Heaplet} {ao : Option Addr} {n cap : Nat} {bs : List UInt8} (h : RSl N 1 ao n cap (u8s bs)) {lo hi m : Nat} (h1 : lo ≤ hi) (h2 : hi ≤ m) (h3 : m ≤ cap) (h4 : hi ≤ n) : RSl N 1 (sadr ao lo m 1) (hi - lo) (m - lo) (u8s ((bs.drop lo).take (hi - lo))) := by
  have := h.part h1 h2 h3 h4; rwa [Nat.mul_one, Nat.mul_one, u8s_drop, u8s_take] at this
theorem RSl.len8 {N : Heaplet} {ao : Option Addr} {n cap : Nat} {bs : List UInt8} (h : RSl N 1 ao n cap (u8s bs)) : bs.length = n := by simpa using h.len
theorem RSl.len64 {N : Heaplet} {ao : Option Addr} {n cap : Nat} {bs : List UInt64} (h : RSl N 1 ao n cap (u64s bs)) : bs.length = n := by simpa using h.len
theorem RSl.len32 {N : Heaplet} {ao : Option Addr} {n cap : Nat} {bs : List UInt32} (h : RSl N 1 ao n cap (u32s bs)) : bs.length = n := by simpa using h.len
theorem RSl.cap63 {N : Heaplet} {size : Nat} {ao : Option Addr} {n cap : Nat} {xs : List Value} (h : RSl N size ao n cap xs) : n ≤ cap ∧ cap ≤ 9223372036854775807 := ⟨h.2.1, h.2.2.1⟩
end
/-! What was proved of a call in the elder words. -/
theorem Fn.of_ret {P : Program} {f : FuncId} {args : Array Value} {Lr : List Heaplet} {R : Value → World → Prop} {Post : Value → List Heaplet → Prop}
    (h : ∀ w, (∀ N ∈ Lr, N.le (whole w)) → Calls P f args w (Ret w R))
    (hp : ∀ w v w', R v w' → Below w.heap.size w w' → ∃ L1, Post v L1 ∧ (∀ N ∈ L1, N.le (whole w') ∧ ∀ k o, N k = some o → w.heap.size ≤ k) ∧ L1.Pairwise Apart) : Fn P f args [] Lr Post := by
  intro E w R hw hr
  refine (h w fun N hN => Heaplet.le_trans (hr N hN) (hw.sub R (by simp))).mono ?_
  rintro e w' ⟨v, rfl, hR, hb⟩
  obtain ⟨L1, h1, h2, h3⟩ := hp w v w' hR hb
  refine ⟨v, L1, rfl, h1, hb.os.trans hw.os, hb.tape.trans hw.tape, hb.output.trans hw.output, fun N hN => ?_, ?_⟩
  · rcases List.mem_append.1 hN with hN | hN
    · exact (h2 N hN).1
    · simp at hN; subst hN
      intro k o hk
      have hlt := hw.lt (List.mem_append_right _ (List.mem_singleton.2 rfl)) hk
      exact (hb.block k hlt).trans (hw.sub _ (by simp) k o hk)
  · rw [List.pairwise_append]
    refine ⟨h3, by simp, fun A hA B hB k => ?_⟩
    simp at hB; subst hB
    cases hk : A k with
    | none => exact .inl rfl
    | some o =>
      right
      cases hm : B k with
      | none => rfl
      | some o' =>
        have := hw.lt (List.mem_append_right _ (List.mem_singleton.2 rfl)) hm
        have := (h2 A hA).2 k o hk
        omega
/-- It gives bytes (or limbs) in a slice that owns its block. -/
theorem Fn.of_ownb {P : Program} {f : FuncId} {args : Array Value} {Lr : List Heaplet} {e : TypeId} {xs : List Value} (h : ∀ w, (∀ N ∈ Lr, N.le (whole w)) → Calls P f args w (Ret w (OwnB w.heap.size e xs))) :
    Fn P f args [] Lr (fun v L => ∃ N ao cap, v = .slice ao xs.length cap ∧ L = [N] ∧ Row N e 1 ao xs.length cap xs) := by
  intro E w R hw hr
  refine (h w fun N hN => Heaplet.le_trans (hr N hN) (hw.sub R (by simp))).mono ?_
  rintro e w' ⟨v, rfl, ⟨ao, cap, rfl, ho⟩, hb⟩
  have ho0 := owns_mono ho (Nat.zero_le _)
  have hbase : ∀ b, ao = some b → w.heap.size ≤ b.block := fun b hb' => by
    obtain ⟨_, ⟨hv, _⟩ | ⟨g, cap', cur, hv, hg, _⟩⟩ := ho
    · subst hb'; cases hv
    · subst hb'
      simp only [Value.slice.injEq, Option.some.injEq] at hv
      obtain ⟨rfl, _⟩ := hv
      exact hg
  have hR : Hp E [R] w' := by
    refine ⟨hb.os.trans hw.os, hb.tape.trans hw.tape, hb.output.trans hw.output, fun N hN k o hk => ?_, by simp⟩
    simp at hN; subst hN
    have hlt := hw.lt (List.mem_append_right _ (List.mem_singleton.2 rfl)) hk
    exact (hb.block k hlt).trans (hw.sub _ (by simp) k o hk)
  rcases owns_row ho0 with ⟨rfl, hrow⟩ | ⟨b, cur, rfl, hheap, hrow⟩
  · refine ⟨_, [fun _ => none], rfl, ⟨_, _, _, rfl, rfl, hrow _⟩, ⟨hR.os, hR.tape, hR.output, fun N hN => ?_, ?_⟩⟩
    · rcases List.mem_cons.1 hN with rfl | hN
      · intro k o hk; cases hk
      · exact hR.sub N hN
    · simp [Apart]
  · refine ⟨_, [single b (.cells cur e (0, 0))], rfl, ⟨_, _, _, rfl, rfl, hrow _ (single_self _ _)⟩, ⟨hR.os, hR.tape, hR.output, fun N hN => ?_, ?_⟩⟩
    · rcases List.mem_cons.1 hN with rfl | hN
      · intro k o hk
        unfold single at hk
        split at hk
        · rename_i e; subst e; cases hk; exact hheap
        · cases hk
      · exact hR.sub N hN
    · simp only [List.cons_append, List.nil_append, List.pairwise_cons, List.mem_singleton, List.not_mem_nil, false_imp_iff, implies_true, and_true, List.Pairwise.nil, forall_eq]
      intro k
      unfold single
      split
      · rename_i e
        right
        cases hm : R k with
        | none => rfl
        | some o' =>
          have h1 := hw.lt (List.mem_append_right _ (List.mem_singleton.2 rfl)) hm
          have h2 := hbase _ rfl
          simp at h2
          omega
      · exact .inl rfl
end Go.Proofs.YtdplcfineaikjaaDoor
