/- Several texts in one: see the remarks ahead of each part. No condition but those told there. -/
import Derived.Test.YtlkjfbfenpkmhaaDoorU6
import Derived.Test.YtlkjfbfenpkmhaaDoorU5
import Derived.Lib.OthersKept
import Derived.Lib.MapLaws
import Derived.Scope
import Derived.Test.YtlkjfbfenpkmhaaDoorU2
import Derived.Lib.Builder
import Derived.Lib.AppendStr
import Derived.Lib.UnsafeStr
import Derived.Test.YtlkjfbfenpkmhaaDoorU4
import Derived.Shelf.Unicode.Latin
import Derived.Shelf.Strings.Runes
import Derived.Test.YtlkjfbfenpkmhaaDoorProg
/- quarrykeep.Loan and quarrykeep.Book: their contracts, with what they hold as two parts of the memory. Condition: lists of at most 2^40 bytes, at most 2^30 that are lent. -/
namespace Go.Proofs.YtlkjfbfenpkmhaaDoor
set_option linter.unusedVariables false
set_option linter.unusedSimpArgs false
open Go Go.RowKit
set_option maxRecDepth 100000 in
theorem BookClose_o {b0 : Nat} {N0 NF NW NK NI : Heaplet} {xs : List (List UInt8)} (h : BookO b0 N0 NF NW NK NI xs) :
    Fn Tryd.prog 15 #[.pointer (some ⟨b0, 0, none⟩)] [N0, NF, NW, NK, NI] [] (fun v L => v = .bool true ∧ L = []) := by
  obtain ⟨e0, pf, cf, pw, cw, vf, vw, q, B0, rF, rW, hI, hK, hq1, hq2, hb⟩ := h
  refine Fn.enter (vs := [.pointer (some ⟨b0, 0, none⟩)]) Tryd.func15 rfl rfl rfl ?_
  intro E R hR
  change At _ _ E [N0, NF, NW, NK, NI, R] _
  refine At.seq fun K1 hk_1 => ?_
  refine At.region ?_
  refine op_assign (nxlf rfl) rfl rfl ?_
  refine At.opsNil ?_
  refine At.norm (hk_1 ?_)
  refine At.seq fun K2 hk_2 => ?_
  refine At.region ?_
  refine op_move (nxlf rfl) rfl rfl ?_
  refine op_call (nxl rfl) (.cons rfl .nil) (BookStands_o B0 rF rW hI hK) (F := [R]) Tryd.func36 rfl rfl (.refl _) (by simp) rfl ?_
  rintro v4 L4 ⟨rfl, rfl⟩
  change At _ _ _ [N0, NF, NW, NK, NI, R] _
  skip
  refine op_move (nxlf rfl) rfl rfl ?_
  refine op_move (nxgf rfl rfl rfl rfl) rfl rfl ?_
  refine At.perm sel5 ?_
  refine At.perm sel4 ?_
  refine At.perm sel4 ?_
  refine At.perm sel5 ?_
  refine At.perm sel5 ?_
  refine At.perm sel5 ?_
  refine op_call (nxg rfl rfl rfl rfl) (.cons rfl .nil) (closeBytes_o B0 rF hI (by omega) hb) (F := [NW, NK, R]) Tryd.func37 rfl rfl (.refl _) (by simp) rfl ?_
  rintro v7 L7 ⟨rfl, rfl⟩
  change At _ _ _ [NW, NK, R] _
  skip
  refine op_pickT (nxlf rfl) rfl rfl rfl ?_
  refine op_assign (nxlf rfl) rfl rfl ?_
  refine At.opsNil ?_
  refine At.norm (hk_2 ?_)
  refine At.ret (?_)
  refine At.sub (L' := [R]) (.cons _ (.cons _ (.cons_cons _ (.slnil)))) ?_
  refine At.ret1 (L1 := []) rfl (.tmp rfl .nil) (.refl _) (.refl _) ?_
  exact ⟨rfl, rfl⟩
/-- A loan: its own memory, and what is lent. -/
def Loan (b0 : Nat) (NO NI : Heaplet) (k : Nat) : Prop := ∃ N0 NF NW NK fs, [N0, NF, NW, NK].Pairwise Apart ∧ NO = joinL [N0, NF, NW, NK] ∧ LoanO b0 N0 NF NW NK NI fs ∧ fs.length ≤ k
/-- A book: its own memory, and what it has taken in. -/
def Book (b0 : Nat) (NO NI : Heaplet) : Prop := ∃ N0 NF NW NK xs, [N0, NF, NW, NK].Pairwise Apart ∧ NO = joinL [N0, NF, NW, NK] ∧ BookO b0 N0 NF NW NK NI xs
theorem Loan.mono {b0 k k' : Nat} {NO NI : Heaplet} (h : Loan b0 NO NI k) (hk : k ≤ k') : Loan b0 NO NI k' := by
  obtain ⟨N0, NF, NW, NK, fs, h1, h2, h3, h4⟩ := h
  exact ⟨N0, NF, NW, NK, fs, h1, h2, h3, Nat.le_trans h4 hk⟩
theorem alone (N : Heaplet) : [N, nilH, nilH, nilH].Pairwise Apart ∧ N = joinL [N, nilH, nilH, nilH] := by
  refine ⟨?_, ?_⟩
  · simp only [List.pairwise_cons, List.mem_cons, List.not_mem_nil, or_false]
    refine ⟨fun M hM k => ?_, fun M hM k => .inl rfl, fun M hM k => .inl rfl, ?_⟩
    · rcases hM with rfl | rfl | rfl <;> exact .inr rfl
    · exact ⟨fun M hM => hM.elim, .nil⟩
  · funext k
    simp only [joinL, join2]
    cases N k <;> rfl
theorem Loan.start {b0 : Nat} {N : Heaplet} {e : TypeId} (h : Blk N b0 e [.slice none 0 0, .slice none 0 0]) : Loan b0 N nilH 0 := by
  obtain ⟨h1, h2⟩ := alone N
  exact ⟨N, nilH, nilH, nilH, [], h1, h2, ⟨e, none, 0, none, 0, [], [], h, Row.nil _ _ _, Row.nil _ _ _, Bag.nil _ _, Bags.nil _⟩, Nat.le_refl _⟩
theorem Book.start {b0 : Nat} {N : Heaplet} {e : TypeId} (h : Blk N b0 e [.slice none 0 0, .slice none 0 0, .slice none 0 0, .slice none 0 0, .int .i64 0]) : Book b0 N nilH := by
  obtain ⟨h1, h2⟩ := alone N
  exact ⟨N, nilH, nilH, nilH, [], h1, h2, ⟨e, none, 0, none, 0, [], [], 0, h, Row.nil _ _ _, Row.nil _ _ _, Bag.nil _ _, Bags.nil _, Nat.zero_le _, Nat.zero_le _, fun j x hx => by simp at hx⟩⟩
theorem Fn.drop1 {P : Program} {f : FuncId} {args : Array Value} {L0 Lr : List Heaplet} {x : Value} {A : Heaplet} (h : Fn P f args L0 Lr (fun v L => v = x ∧ L = [A])) : Fn P f args L0 Lr (fun v L => v = x ∧ L = []) := fun E w R hw hr =>
  (h E w R hw hr).mono fun _ _ ⟨v, L1, he, ⟨hv, hL⟩, hh⟩ => ⟨v, [], he, ⟨hv, rfl⟩, by subst hL; exact hh.drop (List.sublist_cons_self ..)⟩
theorem LoanBytes_f {b0 k : Nat} {NO NI N : Heaplet} {ao : Option Addr} {n cap : Nat} {l : List UInt8} (h : Loan b0 NO NI k) (hs : RSl N 1 ao n cap (u8s l)) (hn : n ≤ 1099511627776) (hk : k ≤ 1073741824) :
    Fn Tryd.prog 12 #[.pointer (some ⟨b0, 0, none⟩), .slice ao n cap] [NO, NI] [N] (fun v L => ∃ NO' NI' p c, v = .slice p n c ∧ L = [NO', NI'] ∧ Loan b0 NO' NI' (k + 1) ∧ NI.le NI' ∧ RSl NI' 1 p n c (u8s l)) := by
  obtain ⟨N0, NF, NW, NK, fs, h1, rfl, h3, h4⟩ := h
  refine Fn.pack (As := [N0, NF, NW, NK]) (L0 := [NI]) h1 (LoanBytes_o h3 hs hn (by omega)) ?_
  rintro v L ⟨N0', NF', NW', M1, M2, p, c, rfl, rfl, ha, hL, hr⟩
  exact ⟨[N0', NF', NW', join2 M2 NK], [join2 M1 NI], rfl, fun hp => ⟨_, _, p, c, rfl, rfl, ⟨N0', NF', NW', _, _, hp, rfl, hL, by simp; omega⟩, join2_right ha, hr.le join2_left⟩⟩
theorem LoanBack_f {b0 k : Nat} {NO NI : Heaplet} (h : Loan b0 NO NI k) : Fn Tryd.prog 14 #[.pointer (some ⟨b0, 0, none⟩)] [NO, NI] [] (fun v L => v = .bool true ∧ L = []) := by
  obtain ⟨N0, NF, NW, NK, fs, h1, rfl, h3, h4⟩ := h
  refine Fn.drop1 (A := nilH) (Fn.pack (As := [N0, NF, NW, NK]) (L0 := [NI]) h1 (LoanBack_o h3) ?_)
  rintro v L ⟨rfl, rfl⟩
  exact ⟨[], [], rfl, fun _ => ⟨rfl, rfl⟩⟩
theorem BookBytes_f {b0 : Nat} {NO NI M : Heaplet} {ao : Option Addr} {n cap : Nat} {l : List UInt8} (h : Book b0 NO NI) (hr : Row M 5 1 ao n cap (u8s l)) (hn : n ≤ 1099511627776) :
    Fn Tryd.prog 13 #[.pointer (some ⟨b0, 0, none⟩), .slice ao n cap] [NO, NI, M] [] (fun v L => v = .tuple #[] ∧ ∃ NO' NI', L = [NO', NI'] ∧ Book b0 NO' NI') := by
  obtain ⟨N0, NF, NW, NK, fs, h1, rfl, h3⟩ := h
  refine Fn.pack (As := [N0, NF, NW, NK]) (L0 := [NI, M]) h1 (BookBytes_o h3 hr hn) ?_
  rintro v L ⟨rfl, N0', NF', NW', NK', NI', xs', rfl, hL⟩
  exact ⟨[N0', NF', NW', NK'], [NI'], rfl, fun hp => ⟨rfl, _, _, rfl, N0', NF', NW', NK', xs', hp, rfl, hL⟩⟩
theorem BookClose_f {b0 : Nat} {NO NI : Heaplet} (h : Book b0 NO NI) : Fn Tryd.prog 15 #[.pointer (some ⟨b0, 0, none⟩)] [NO, NI] [] (fun v L => v = .bool true ∧ L = []) := by
  obtain ⟨N0, NF, NW, NK, fs, h1, rfl, h3⟩ := h
  refine Fn.drop1 (A := nilH) (Fn.pack (As := [N0, NF, NW, NK]) (L0 := [NI]) h1 (BookClose_o h3) ?_)
  rintro v L ⟨rfl, rfl⟩
  exact ⟨[], [], rfl, fun _ => ⟨rfl, rfl⟩⟩
end Go.Proofs.YtlkjfbfenpkmhaaDoor
/- The engine: a string's runes, one by one; a rune as a string. For whatever program. No condition. -/
namespace Go.Proofs.YtlkjfbfenpkmhaaDoor
set_option linter.unusedVariables false
set_option linter.unusedSimpArgs false
open Go Go.RowKit
/-- An iterator over a string stands at a place. -/
def IterH (N : Heaplet) (b : Nat) (s : List UInt8) (pos : Nat) : Prop := N b = some (.stringIter ⟨s.toArray⟩ pos)
/-- The rune at a place, and where the next one stands. -/
def runeAt (s : List UInt8) (pos : Nat) : Nat := (Lib.decodeL (s.drop pos)).1
def nextP (s : List UInt8) (pos : Nat) : Nat := if pos < s.length then pos + (Lib.decodeL (s.drop pos)).2 else pos
def nextV (s : List UInt8) (pos : Nat) : Value := .tuple (if pos < s.length then #[.bool true, .int .i64 (pos : Int), .int .i32 (runeAt s pos : Int)] else #[.bool false])
theorem nextP_y {s : List UInt8} {pos : Nat} (h : pos < s.length) : nextP s pos = pos + (Lib.decodeL (s.drop pos)).2 := if_pos h
theorem decode_at (s : List UInt8) (pos : Nat) : Utf8.decode ⟨s.toArray⟩ pos = Lib.decodeL (s.drop pos) := by
  have := Lib.decodeL_drop ⟨s.toArray⟩ pos
  rw [← this]
section
variable {P : Program} {n : Nat} {l : List (Nat × Value)} {E : World} {L L1 Ls : List Heaplet} {X Y : Act → World → Prop} {d : Nat} {t t' ty : TypeId} {x y : Operand} {N : Heaplet}
theorem op_rangeS {s : List UInt8} {pos : _} {aft : _} {g : _} (st : NxA P n l E L ⟨some d, .range t x, ty, pos, aft, g⟩ X Y) (ht : P.underlying t = some .string) (hx : ev l x = some (str s)) (hn : Nat.ble (d + 1) n = true)
    (h : ∀ N b, IterH N b s 0 → At n ((d, .pointer (some ⟨b, 0, none⟩)) :: l) E (N :: L) Y) : At n l E L X := by
  refine op_new st (fun v L' => ∃ N b, v = .pointer (some ⟨b, 0, none⟩) ∧ L' = N :: L ∧ IterH N b s 0) (fun a w hf hw => ?_) rfl hn (fun v L' ⟨N, b, hv, hL, hI⟩ => by subst hv; subst hL; exact h N b hI)
  refine ⟨_, w.alloc (.stringIter ⟨s.toArray⟩ 0), _, ?_, Agree.alloc _ _, hw.alloc _, single w.heap.size (.stringIter ⟨s.toArray⟩ 0), w.heap.size, rfl, rfl, single_self _ _⟩
  have e : (execOp a.eval ⟨some d, .range t x, ty, pos, aft, g⟩) = (do let v ← Instr.range t (a.eval x); pure (.value v) : Sem Next) := rfl
  rw [e, hf.eval hx]
  simp only [str, Instr.range, Sem.run_bind, run_underlying ht, Result.andThen_ok, Sem.run_pure]
  rfl
theorem op_nextS {s : List UInt8} {q b : Nat} {pos : _} {aft : _} {g : _} (st : Nx P n l E L ⟨some d, .next x true, ty, pos, aft, g⟩ X Y) (hx : ev l x = some (.pointer (some ⟨b, 0, none⟩))) (hI : IterH N b s q) (sel : L.Perm (N :: L1)) (hn : Nat.ble (d + 1) n = true)
    (h : ∀ N, IterH N b s (nextP s q) → At n ((d, nextV s q) :: l) E (N :: L1) Y) : At n l E L X := by
  refine op_upd st (fun v L' => v = nextV s q ∧ ∃ N, L' = N :: L1 ∧ IterH N b s (nextP s q)) (fun a w hf hw => ?_) rfl hn (fun v L' ⟨hv, N, hL, hI⟩ => by subst hv; subst hL; exact h N hI)
  have hw2 := hw.perm sel
  have hk : w.heap[b]? = some (.stringIter ⟨s.toArray⟩ q) := hw2.sub N (List.mem_cons_self ..) _ _ hI
  have hlt : b < w.heap.size := (Array.getElem?_eq_some_iff.1 hk).1
  have e : (execOp a.eval ⟨some d, .next x true, ty, pos, aft, g⟩) = (do let v ← Instr.next (a.eval x) true ty; pure (.value v) : Sem Next) := rfl
  by_cases hq : q < s.length
  · refine ⟨nextV s q, w.iterAt b ⟨s.toArray⟩ (nextP s q), upd N b (.stringIter ⟨s.toArray⟩ (nextP s q)) :: L1, ?_, ?_, rfl, _, rfl, upd_self _ _ _⟩
    · rw [e, hf.eval hx, Sem.run_bind, Lib.run_next_any_at w b ⟨s.toArray⟩ q ty hk hq, decode_at]
      simp only [Result.andThen_ok, Sem.run_pure, nextV, if_pos hq, nextP_y hq, runeAt]
    · refine hw2.put (o' := .stringIter ⟨s.toArray⟩ (nextP s q)) hI rfl rfl rfl (Lib.iterAt_heap w b _ q _ hk) (fun k hk2 _ => Lib.iterAt_other w b k _ _ hk2)
  · refine ⟨nextV s q, w, N :: L1, ?_, hw2, rfl, N, rfl, ?_⟩
    · rw [e, hf.eval hx, Sem.run_bind, Lib.run_next_end_at w b ⟨s.toArray⟩ q ty hk hq]
      simp only [Result.andThen_ok, Sem.run_pure, nextV, if_neg hq]
    · rw [nextP, if_neg hq]; exact hI
theorem op_nx0 {s : List UInt8} {q : Nat} {pos : _} {aft : _} {g : _} (st : NxF P n l E L Ls ⟨some d, .extract x 0, ty, pos, aft, g⟩ X Y) (hx : ev l x = some (nextV s q)) (hn : Nat.ble (d + 1) n = true) (h : At n ((d, .bool (decide (q < s.length))) :: l) E L Y) : At n l E L X := by
  by_cases hq : q < s.length
  · rw [decide_eq_true hq] at h
    exact op_extract (vs := [.bool true, .int .i64 (q : Int), .int .i32 (runeAt s q : Int)]) st (by rw [hx, nextV, if_pos hq]) rfl hn h
  · rw [decide_eq_false hq] at h
    exact op_extract (vs := [.bool false]) st (by rw [hx, nextV, if_neg hq]) rfl hn h
theorem op_nx1 {s : List UInt8} {q : Nat} {pos : _} {aft : _} {g : _} (st : NxF P n l E L Ls ⟨some d, .extract x 1, ty, pos, aft, g⟩ X Y) (hx : ev l x = some (nextV s q)) (hq : q < s.length) (hn : Nat.ble (d + 1) n = true) (h : At n ((d, .int .i64 (q : Int)) :: l) E L Y) : At n l E L X :=
  op_extract (vs := [.bool true, .int .i64 (q : Int), .int .i32 (runeAt s q : Int)]) st (by rw [hx, nextV, if_pos hq]) rfl hn h
theorem op_nx2 {s : List UInt8} {q : Nat} {pos : _} {aft : _} {g : _} (st : NxF P n l E L Ls ⟨some d, .extract x 2, ty, pos, aft, g⟩ X Y) (hx : ev l x = some (nextV s q)) (hq : q < s.length) (hn : Nat.ble (d + 1) n = true) (h : At n ((d, .int .i32 (runeAt s q : Int)) :: l) E L Y) : At n l E L X :=
  op_extract (vs := [.bool true, .int .i64 (q : Int), .int .i32 (runeAt s q : Int)]) st (by rw [hx, nextV, if_pos hq]) rfl hn h
theorem At.scope {c : Code} {Q : Exit → Act → World → Prop} (h : At n l E L (c.wp P (Exit.noGoto Q))) : At n l E L ((Code.scope c).wp P Q) := fun a w hf hw => wp_scope_straight (h a w hf hw)
theorem At.label {k : Nat} {Q : Exit → Act → World → Prop} (h : At n l E L (Q .normal)) : At n l E L ((Code.label k).wp P Q) := fun a w hf hw => wp_label (h a w hf hw)
theorem At.noNorm {Q : Exit → Act → World → Prop} (h : At n l E L (Q .normal)) : At n l E L (Exit.noGoto Q .normal) := h
theorem At.noRet {Q : Exit → Act → World → Prop} (h : At n l E L (Q .ret)) : At n l E L (Exit.noGoto Q .ret) := h
theorem At.noExit {id : Nat} {Q : Exit → Act → World → Prop} (h : At n l E L (Q (.exit id))) : At n l E L (Exit.noGoto Q (.exit id)) := h
theorem wrap_i32 {a : Int} (h1 : -2147483648 ≤ a) (h2 : a ≤ 2147483647) : IntKind.i32.wrap a = a := by
  unfold IntKind.wrap
  simp only [IntKind.bits, IntKind.signed, Bool.true_and, decide_eq_true_eq, show (2 : Int) ^ 32 = 4294967296 from rfl, show (2 : Int) ^ (32 - 1) = 2147483648 from rfl]
  split <;> omega
theorem op_convi32 {k : IntKind} {p : Int} {pos : _} {aft : _} {g : _} (s : NxF P n l E L Ls ⟨some d, .convert t t' x, ty, pos, aft, g⟩ X Y) (ht0 : (P.underlying t).isSome = true) (ht : P.underlying t' = some (.int .i32)) (hx : ev l x = some (.int k p)) (h1 : -2147483648 ≤ p) (h2 : p ≤ 2147483647) (hn : Nat.ble (d + 1) n = true) (h : At n ((d, .int .i32 p) :: l) E L Y) : At n l E L X :=
  op_convW s ht0 ht hx hn (by rw [wrap_i32 h1 h2]; exact h)
theorem op_arith32 {p q r : Int} {op : BinOp} {pos : _} {aft : _} {g : _} (hop : (op = .add ∧ r = p + q) ∨ (op = .sub ∧ r = p - q)) (s : NxF P n l E L Ls ⟨some d, .binOp op t x y t', ty, pos, aft, g⟩ X Y) (hx : ev l x = some (.int .i32 p)) (hy : ev l y = some (.int .i32 q)) (h1 : -2147483648 ≤ r) (h2 : r ≤ 2147483647) (hn : Nat.ble (d + 1) n = true) (h : At n ((d, .int .i32 r) :: l) E L Y) : At n l E L X := by
  rcases hop with ⟨rfl, rfl⟩ | ⟨rfl, rfl⟩
  · exact op_addW s hx hy hn (by rw [wrap_i32 h1 h2]; exact h)
  · exact op_subW s hx hy hn (by rw [wrap_i32 h1 h2]; exact h)
end
end Go.Proofs.YtlkjfbfenpkmhaaDoor
/- The engine: a test that was made is known behind it; a byte of a string. For whatever program. No condition. -/
namespace Go.Proofs.YtlkjfbfenpkmhaaDoor
set_option linter.unusedVariables false
set_option linter.unusedSimpArgs false
open Go Go.RowKit
section
variable {P : Program} {n : Nat} {l : List (Nat × Value)} {E : World} {L Ls : List Heaplet} {X Y : Act → World → Prop} {K : Act → World → Prop} {d : Nat} {t t' ty : TypeId} {x y : Operand}
theorem At.knowV {v : Value} (hl : lk l d = some v) (h : At n ((d, v) :: l) E L K) : At n l E L K := fun a w hf hw => h a w ⟨hf.defers, hf.size, fun i u hi => by
  unfold lk at hi
  by_cases e : d = i
  · subst e
    simp at hi
    subst hi
    exact hf.get d v hl
  · have : Nat.beq d i = false := beq_no e
    rw [this] at hi
    exact hf.get i u hi⟩ hw
theorem At.knowT {p : Prop} [Decidable p] (hl : lk l d = some (.bool (decide p))) (hp : p) (h : At n ((d, .bool true) :: l) E L K) : At n l E L K :=
  At.knowV (by rw [hl, decide_eq_true hp]) h
theorem At.knowF {p : Prop} [Decidable p] (hl : lk l d = some (.bool (decide p))) (hp : ¬ p) (h : At n ((d, .bool false) :: l) E L K) : At n l E L K :=
  At.knowV (by rw [hl, decide_eq_false hp]) h
theorem At.knowBT {b : Bool} (hl : lk l d = some (.bool b)) (hb : b = true) (h : At n ((d, .bool true) :: l) E L K) : At n l E L K := At.knowV (by rw [hl, hb]) h
theorem At.knowBF {b : Bool} (hl : lk l d = some (.bool b)) (hb : b = false) (h : At n ((d, .bool false) :: l) E L K) : At n l E L K := At.knowV (by rw [hl, hb]) h
theorem op_quo8 {p q : Int} {pos : _} {aft : _} {g : _} (s : NxF P n l E L Ls ⟨some d, .binOp .quo t x y t', ty, pos, aft, g⟩ X Y) (hx : ev l x = some (.int .u8 p)) (hy : ev l y = some (.int .u8 q)) (h1 : 0 ≤ p) (h2 : 0 < q) (h3 : p ≤ 255) (hn : Nat.ble (d + 1) n = true) (h : At n ((d, .int .u8 (p / q)) :: l) E L Y) : At n l E L X :=
  op_int s hx hy (fun w => by
    have e : q ≠ 0 := by omega
    have e2 : p / q ≤ p := Int.ediv_le_self _ h1
    have e3 : 0 ≤ p / q := Int.ediv_nonneg h1 (by omega)
    have e4 : IntKind.u8.wrap (p / q) = p / q := by rw [wrapU8]; omega
    simp [binOp, Op.intDiv, e, Int.tdiv_eq_ediv_of_nonneg h1, e4]) hn h
theorem op_idxS {bs : List UInt8} {k : IntKind} {p : Int} {j : Nat} {pos : _} {aft : _} {g : _} (s : NxF P n l E L Ls ⟨some d, .index t x y, ty, pos, aft, g⟩ X Y) (ht : P.underlying t = some .string) (hx : ev l x = some (str bs)) (hy : ev l y = some (.int k p)) (hj : p = (j : Int)) (hlt : j < bs.length) (hn : Nat.ble (d + 1) n = true) (h : At n ((d, .int .u8 ((bs.getD j 0).toNat : Int)) :: l) E L Y) : At n l E L X := by
  refine op_val s (fun a w hf hw => ?_) rfl hn h
  subst hj
  have e2 : (⟨bs.toArray⟩ : ByteArray).size = bs.length := rfl
  have e3 : (⟨bs.toArray⟩ : ByteArray)[j]? = some (bs.getD j 0) := by
    rw [getElem?_pos (⟨bs.toArray⟩ : ByteArray) j (by rw [e2]; exact hlt)]
    congr 1
    rw [List.getD_eq_getElem?_getD, List.getElem?_eq_getElem hlt]
    rfl
  simp only [execOp, hf.eval hx, hf.eval hy, str, Instr.index, asIntOf, Sem.run_bind, Sem.run_pure, Result.andThen_ok, run_underlying ht, Int.toNat_natCast]
  rw [if_pos (Int.natCast_nonneg j), e3]
  rfl
end
section
variable {P : Program} {n : Nat} {l : List (Nat × Value)} {E : World} {L Ls : List Heaplet} {X Y : Act → World → Prop} {d : Nat} {t ty : TypeId} {x : Operand}
theorem op_sliceStr {lo hi : Option Operand} {bs : List UInt8} {x' y' z' : Nat} {pos : _} {aft : _} {g : _} (s : NxF P n l E L Ls ⟨some d, .slice t x lo hi none, ty, pos, aft, g⟩ X Y) (ht : P.underlying t = some .string) (hx : ev l x = some (str bs)) (hlo : Bd l lo 0 x') (hhi : Bd l hi bs.length y') (hmx : Bd l none bs.length z') (h1 : x' ≤ y') (h2 : y' ≤ z') (h3 : z' ≤ bs.length)
    (hm : (none : Option Operand).isSome = true → hi.isSome = true) (hn : Nat.ble (d + 1) n = true) (h : At n ((d, str ((bs.drop x').take (y' - x'))) :: l) E L Y) : At n l E L X := by
  refine op_val s (fun a w hf hw => ?_) rfl hn h
  have e : (⟨bs.toArray⟩ : ByteArray).size = bs.length := rfl
  have e2 := run_sliceBounds (P := P) hf (isS := false) hlo hhi hmx h1 h2 h3 hm w
  rw [Option.map_none] at e2
  simp only [execOp, hf.eval hx, Instr.sliceAt, Instr.slice, str, Sem.run_bind, run_underlying ht, Result.andThen_ok, e, Option.map_none, Option.isSome_none, Bool.false_eq_true, if_false, e2, Sem.run_pure, ByteArray.extract_mk]
end
end Go.Proofs.YtlkjfbfenpkmhaaDoor
/- A drawn region walked by a plan, where what is read stays as it is, and more may be read behind each act. No condition. -/
namespace Go.Proofs.YtlkjfbfenpkmhaaDoor.Sg
set_option linter.unusedVariables false
set_option linter.unusedSimpArgs false
open Go Go.Proofs.YtlkjfbfenpkmhaaDoor Go.Proofs.YtlkjfbfenpkmhaaDoor.St
section
variable {P : Program} {ops : Array Oper} {md : Region.Mode} {S : World → Prop} {Q : Exit → Act → World → Prop}
def wpPlan (P : Program) (ops : Array Oper) (Q : Exit → Act → World → Prop) : Plan → (World → Prop) → Act → World → Prop
  | .done, _, a, w => Q .normal a w
  | .take i p, S, a, w =>
    match ops[i]? with
    | none => False
    | some o =>
      if Region.wanted o (yielded ops a.tmps) then ∃ v, (∀ w', S w' → (execOp a.eval o).run P w' = .ok (.value v) w') ∧ wpPlan P ops Q p S (a.put o.dst v) w
      else wpPlan P ops Q p S (a.put o.dst undef) w
  | .fork i sink p rest, S, a, w =>
    (match ops[i]? with
     | none => False
     | some o =>
       if Region.wanted o (yielded ops a.tmps) then o.wp P a w (fun a' w' => ∃ S' : World → Prop, (∀ u, S' u → S u) ∧ ((sink = true ∧ p = .done) ∨ S' w') ∧ wpPlan P ops Q p S' a' w') (fun _ _ _ => False)
       else wpPlan P ops Q p S (a.put o.dst undef) w) ∧ wpPlan P ops Q rest S a w
  | .nofork, _, _, _ => True
/-- One of those that may act first: its own step is among the plan's. -/
theorem chain_get {i : Nat} : ∀ {p : Plan} {G : Nat → Prop} {a : Act} {w : World}, ChainOK md ops p G → i ∈ p.heads → wpPlan P ops Q p S a w →
    ∃ (snk : Bool) (q : Plan), ((i < ops.size ∧ ¬ G i ∧ DepsIn md ops G i) ∧ (snk = true → ∀ j, G j → ∃ k, With G i k ∧ WaitsOn md ops k j) ∧ PlanOK md ops q (With G i)) ∧
      (match ops[i]? with
       | none => False
       | some o =>
         if Region.wanted o (yielded ops a.tmps) then o.wp P a w (fun a' w' => ∃ S' : World → Prop, (∀ u, S' u → S u) ∧ ((snk = true ∧ q = .done) ∨ S' w') ∧ wpPlan P ops Q q S' a' w') (fun _ _ _ => False)
         else wpPlan P ops Q q S (a.put o.dst undef) w)
  | .fork c snk q rest, G, a, w => fun hc hi hw => by
    rcases List.mem_cons.1 hi with rfl | hi
    · exact ⟨snk, q, hc.1, hw.1⟩
    · exact chain_get hc.2 hi hw.2
  | .done, _, _, _ => fun hc => hc.elim
  | .take _ _, _, _, _ => fun hc => hc.elim
  | .nofork, _, _, _ => fun _ hi => by cases hi

structure PlanInv (P : Program) (md : Region.Mode) (ops : Array Oper) (S : World → Prop) (Q : Exit → Act → World → Prop) (listed : Array Bool) (pend : List (Nat × Value)) (rem : Plan) (a ag : Act) (w : World) : Prop where
  size : listed.size = ops.size
  closed : ∀ j, listed.getD j false = true → DepsIn md ops (fun k => listed.getD k false = true) j
  apart : ∀ j ∈ pend.map (·.1), j < ops.size ∧ listed.getD j false = false
  nodup : (pend.map (·.1)).Nodup
  fl : ∀ j ∈ pend.map (·.1), FloatsAt ops j
  ord : OrdOK md ops (fun _ => false) (fun k => listed.getD k false = true) (pend.map (·.1))
  plan : PlanOK md ops rem (fun k => listed.getD k false = true ∨ k ∈ pend.map (·.1))
  run : St.PendRun P ops S a pend ag
  st : (pend = [] ∧ rem = .done) ∨ S w
  wp : wpPlan P ops Q rem S ag w

theorem wpAny_of_plan (hs : ∀ (j : Nat) (oj : Oper), ops[j]? = some oj → NoSel oj) (hp : PairsOK md ops) :
    ∀ (fuel : Nat) (S : World → Prop) (listed : Array Bool) (pend : List (Nat × Value)) (rem : Plan) (a ag : Act) (w : World),
      unl listed ≤ fuel → PlanInv P md ops S Q listed pend rem a ag w → wpAny P md ops Q fuel listed a w := by
  -- nothing is ready: all has been done
  have stop : ∀ (S : World → Prop) (rem : Plan) (listed : Array Bool) (pend : List (Nat × Value)) (a ag : Act) (w : World), PlanInv P md ops S Q listed pend rem a ag w → Region.ready md ops listed = [] → Q .normal a w := by
    intro S rem listed pend a ag w I hr
    have hnil : pend = [] := by
      cases pend with
      | nil => rfl
      | cons p pend =>
        have ha := I.apart p.1 (by simp)
        have : p.1 ∈ Region.ready md ops listed := (ready_iff I.size).2 ⟨ha.1, ha.2, I.ord.1⟩
        rw [hr] at this
        cases this
    subst hnil
    have hrun := I.run
    cases hrun
    have hpl := I.plan
    cases rem with
    | done => exact I.wp
    | take i p =>
      have h0 := hpl.1
      have : i ∈ Region.ready md ops listed := (ready_iff I.size).2 ⟨h0.1, by simpa using h0.2.1, h0.2.2.1.mono fun j hj => by simpa using hj⟩
      rw [hr] at this; cases this
    | fork i snk p rest =>
      have h0 := hpl.2.1.1
      have : i ∈ Region.ready md ops listed := (ready_iff I.size).2 ⟨h0.1, by simpa using h0.2.1, h0.2.2.mono fun j hj => by simpa using hj⟩
      rw [hr] at this; cases this
    | nofork => exact hpl.elim
  intro fuel
  induction fuel with
  | zero =>
    intro S listed pend rem a ag w hlen I
    have hready : Region.ready md ops listed = [] := by
      cases h : Region.ready md ops listed with
      | nil => rfl
      | cons j l =>
        have hj : j ∈ Region.ready md ops listed := by rw [h]; exact List.mem_cons_self
        obtain ⟨hlt, h0, _⟩ := (ready_iff I.size).1 hj
        rw [unl_zero (by omega) (by rw [I.size]; exact hlt)] at h0; cases h0
    exact ⟨hready, stop _ _ _ _ _ _ _ I hready⟩
  | succ fuel ih =>
    intro S listed pend rem a ag w hlen I
    refine ⟨stop _ _ _ _ _ _ _ I, ?_⟩
    intro i hi
    obtain ⟨hlt, hun, hd⟩ := (ready_iff I.size).1 hi
    obtain ⟨o, ho⟩ : ∃ o, ops[i]? = some o := ⟨_, Array.getElem?_eq_getElem hlt⟩
    have hil : i < listed.size := by rw [I.size]; exact hlt
    have hcnt : unl (listed.setIfInBounds i true) ≤ fuel := by have := unl_set hil hun; omega
    have hpull : ∀ (pend : List (Nat × Value)) (rem : Plan) (ag : Act), PlanInv P md ops S Q listed pend rem a ag w → i ∈ pend.map (·.1) →
        wpOp P ops Q i (wpAny P md ops Q fuel (listed.setIfInBounds i true)) a w := by
      intro pend rem ag I hm
      obtain ⟨⟨i', v⟩, hmem, rfl⟩ := List.mem_map.1 hm
      obtain ⟨pre, post, rfl⟩ := List.append_of_mem hmem
      dsimp only at *
      have hord := I.ord
      have hnd := I.nodup
      simp only [List.map_append, List.map_cons] at hord hnd
      have hn : i' ∉ pre.map (·.1) := by
        intro hh
        have := List.nodup_append.1 hnd
        exact this.2.2 i' hh i' List.mem_cons_self rfl
      have hpre : ∀ j ∈ pre.map (·.1), listed.getD j false = false := fun j hj => (I.apart j (by simp only [List.map_append]; exact List.mem_append_left _ hj)).2
      obtain ⟨h1, h2⟩ := St.PendRun.pull ho hs pre (apartPre' hp ho hd hpre hn (hord.noWait _ (by simp [hun]) hn)) I.run
      have hSw : S w := I.st.resolve_left (by rintro ⟨h, _⟩; simp at h)
      refine h1.wpOp hSw ho ?_
      refine ih S _ (pre ++ post) rem _ ag w hcnt ?_
      have hsub : ∀ j, j ∈ (pre ++ post).map (·.1) → j ∈ (pre ++ (i', v) :: post).map (·.1) ∧ j ≠ i' := by
        intro j hj
        simp only [List.map_append, List.map_cons] at hj ⊢
        refine ⟨?_, ?_⟩
        · rcases List.mem_append.1 hj with h | h
          · exact List.mem_append_left _ h
          · exact List.mem_append_right _ (List.mem_cons_of_mem _ h)
        · rintro rfl
          have hnd2 := List.nodup_append.1 hnd
          rcases List.mem_append.1 hj with h | h
          · exact hn h
          · exact (List.nodup_cons.1 hnd2.2.1).1 h
      refine ⟨by simpa using I.size, closed_set I.size hlt I.closed hd, ?_, ?_, ?_, ?_, ?_, h2, .inr hSw, I.wp⟩
      · intro j hj
        obtain ⟨h1, h2⟩ := hsub j hj
        refine ⟨(I.apart j h1).1, ?_⟩
        rw [getD_set_ne false (Ne.symm h2)]
        exact (I.apart j h1).2
      · simp only [List.map_append]
        exact (List.nodup_cons.1 ((List.Perm.nodup_iff List.perm_middle).1 hnd)).2
      · intro j hj
        exact I.fl j (hsub j hj).1
      · have := OrdOK.pull (pre.map (·.1)) (fun j hj => I.fl j (by simp only [List.map_append]; exact List.mem_append_left _ hj)) hd hord
        simp only [List.map_append]
        exact OrdOK.congr (fun j => (getD_setIf hil).symm) this
      · refine PlanOK.congr (fun j => ?_) I.plan
        rw [getD_setIf hil]
        simp only [With, List.map_append, List.map_cons, List.mem_append, List.mem_cons]
        constructor
        · rintro (h | h | h | h)
          · exact .inl (.inl h)
          · exact .inr (.inl h)
          · exact .inl (.inr h)
          · exact .inr (.inr h)
        · rintro ((h | h) | h | h)
          · exact .inl h
          · exact .inr (.inr (.inl h))
          · exact .inr (.inl h)
          · exact .inr (.inr (.inr h))
    have hact : ∀ (pend : List (Nat × Value)) (rem : Plan) (ag : Act), PlanInv P md ops S Q listed pend rem a ag w → S w → i ∉ pend.map (·.1) →
        (∃ (snk : Bool) (q : Plan), ((i < ops.size ∧ ¬ (listed.getD i false = true ∨ i ∈ pend.map (·.1)) ∧ DepsIn md ops (fun k => listed.getD k false = true ∨ k ∈ pend.map (·.1)) i) ∧
            (snk = true → ∀ j, (listed.getD j false = true ∨ j ∈ pend.map (·.1)) → ∃ k, With (fun k => listed.getD k false = true ∨ k ∈ pend.map (·.1)) i k ∧ WaitsOn md ops k j) ∧
            PlanOK md ops q (With (fun k => listed.getD k false = true ∨ k ∈ pend.map (·.1)) i)) ∧
          (match ops[i]? with
           | none => False
           | some o =>
             if Region.wanted o (yielded ops ag.tmps) then o.wp P ag w (fun a' w' => ∃ S' : World → Prop, (∀ u, S' u → S u) ∧ ((snk = true ∧ q = .done) ∨ S' w') ∧ wpPlan P ops Q q S' a' w') (fun _ _ _ => False)
             else wpPlan P ops Q q S (ag.put o.dst undef) w)) →
        wpOp P ops Q i (wpAny P md ops Q fuel (listed.setIfInBounds i true)) a w := by
      intro pend rem ag I hSw him ⟨snk, q, ⟨_, hsink, hq⟩, hwp⟩
      simp only [ho] at hwp
      have hpre : ∀ j ∈ pend.map (·.1), listed.getD j false = false := fun j hj => (I.apart j hj).2
      have hap := apartPre' hp ho hd hpre him (I.ord.noWait' _ (by simp [hun]) him)
      obtain ⟨e1, e2, e3⟩ := St.PendRun.push hs (hs i o ho) I.run hap
      have hnil : snk = true → pend = [] := fun hsa => by
        rcases List.eq_nil_or_concat pend with h | ⟨pre, ⟨j, u⟩, h⟩
        · exact h
        · exfalso
          rw [List.concat_eq_append] at h
          subst h
          have hjm : j ∈ (pre ++ [(j, u)]).map (·.1) := by simp
          have hju := hpre j hjm
          obtain ⟨k, hk, hwt⟩ := hsink hsa j (.inr hjm)
          have hord := I.ord
          have hnd := I.nodup
          simp only [List.map_append, List.map_cons, List.map_nil] at hord hnd
          have hjn : j ∉ pre.map (·.1) := fun hh => (List.nodup_append.1 hnd).2.2 j hh j List.mem_cons_self rfl
          have hself : ¬ WaitsOn md ops j j := by
            intro hh
            obtain ⟨o', ho', e, he, hb, heq⟩ := hh
            have h0 := (OrdOK.at (pre.map (·.1)) hord).1 o' ho' e he hb
            rw [heq] at h0
            rcases h0 with h0 | h0
            · rw [hju] at h0; cases h0
            · exact hjn h0
          obtain ⟨o', ho', e, he, hb, heq⟩ := hwt
          rcases hk with (hk | hk) | hk
          · have := I.closed k hk o' ho' e he hb
            rw [heq, hju] at this; cases this
          · simp only [List.map_append, List.map_cons, List.map_nil, List.mem_append, List.mem_singleton] at hk
            rcases hk with hk | hk
            · exact hord.noWait _ (by simp [hju]) hjn k hk ⟨o', ho', e, he, hb, heq⟩
            · subst hk; exact hself ⟨o', ho', e, he, hb, heq⟩
          · subst hk
            have := hd o' ho' e he hb
            rw [heq, hju] at this; cases this
      have hstep : ∀ (S' : World → Prop) w', (∀ u, S' u → S u) → ((snk = true ∧ q = .done) ∨ S' w') → ∀ a' ag', wpPlan P ops Q q S' ag' w' → St.PendRun P ops S a' pend ag' → wpAny P md ops Q fuel (listed.setIfInBounds i true) a' w' := by
        intro S' w' hsub hsa a' ag' hw' hrun'
        have hrun2 : St.PendRun P ops S' a' pend ag' := hrun'.mono hsub
        have hSt : (pend = [] ∧ q = .done) ∨ S' w' := hsa.imp (fun h => ⟨hnil h.1, h.2⟩) id
        refine ih S' _ pend q a' ag' w' hcnt ?_
        have hne : ∀ j ∈ pend.map (·.1), j ≠ i := fun j hj e => him (e ▸ hj)
        refine ⟨by simpa using I.size, closed_set I.size hlt I.closed hd, ?_, I.nodup, I.fl, ?_, ?_, hrun2, hSt, hw'⟩
        · intro j hj
          refine ⟨(I.apart j hj).1, ?_⟩
          rw [getD_set_ne false (Ne.symm (hne j hj))]
          exact (I.apart j hj).2
        · have hup : ∀ (l : List Nat) {G G' : Nat → Prop}, (∀ j, G j → G' j) → (∀ j ∈ l, FloatsAt ops j) → OrdOK md ops (fun _ => false) G l → OrdOK md ops (fun _ => false) G' l := by
            intro l
            induction l with
            | nil => intro G G' _ _ _; trivial
            | cons j l ihl =>
              intro G G' hG hf h
              exact ⟨h.1.mono hG, .inl (hf j List.mem_cons_self), ihl (fun k hk => hk.imp (hG k) id) (fun k hk => hf k (List.mem_cons_of_mem _ hk)) h.2.2⟩
          exact hup _ (fun j hj => (getD_setIf hil).2 (.inl hj)) I.fl I.ord
        · refine PlanOK.congr (fun j => ?_) hq
          rw [getD_setIf hil]
          simp only [With]
          constructor
          · rintro ((h | h) | h)
            · exact .inl (.inl h)
            · exact .inr h
            · exact .inl (.inr h)
          · rintro ((h | h) | h)
            · exact .inl (.inl h)
            · exact .inr h
            · exact .inl (.inr h)
      unfold Go.wpOp
      simp only [ho]
      by_cases hw : Region.wanted o (yielded ops ag.tmps) = true
      · rw [if_pos hw] at hwp
        rw [← e2, if_pos hw]
        left
        unfold Oper.wp at hwp ⊢
        rw [e1] at hwp
        refine upon_carry (fun v w' hk => ?_) (fun d w' hk => ?_) hwp
        · obtain ⟨S', h1, h2, h3⟩ := hk; exact hstep S' w' h1 h2 _ _ h3 (e3 v)
        · obtain ⟨S', h1, h2, h3⟩ := hk; exact hstep S' w' h1 h2 _ _ h3 ((St.PendRun.push hs (hs i o ho) (I.run.defers d) hap).2.2 undef)
      · rw [if_neg hw] at hwp
        rw [← e2, if_neg hw]
        exact hstep S w (fun _ h => h) (.inr hSw) _ _ hwp (e3 undef)
    have hgo : ∀ (rem : Plan) (pend : List (Nat × Value)) (ag : Act), PlanInv P md ops S Q listed pend rem a ag w →
        wpOp P ops Q i (wpAny P md ops Q fuel (listed.setIfInBounds i true)) a w := by
      intro rem
      induction rem with
      | done =>
        intro pend ag I
        rcases I.plan i hlt with h | h
        · rw [hun] at h; cases h
        · exact hpull pend .done ag I h
      | nofork => intro pend ag I; exact I.plan.elim
      | take c p ihp =>
        intro pend ag I
        obtain ⟨⟨hc1, hc2, hc3, hc4⟩, hpl⟩ := I.plan
        obtain ⟨oc, hoc⟩ : ∃ oc, ops[c]? = some oc := ⟨_, Array.getElem?_eq_getElem hc1⟩
        have hwp := I.wp
        simp only [wpPlan, hoc] at hwp
        have hnext : ∃ v, St.RunsNow P ops S oc ag v ∧ wpPlan P ops Q p S (ag.put oc.dst v) w := by
          by_cases hw : Region.wanted oc (yielded ops ag.tmps) = true
          · rw [if_pos hw] at hwp
            obtain ⟨v, h1, h2⟩ := hwp
            exact ⟨v, .inl ⟨hw, h1⟩, h2⟩
          · rw [if_neg hw] at hwp
            exact ⟨undef, .inr ⟨by simpa using hw, rfl⟩, hwp⟩
        obtain ⟨v, hrn, hwp'⟩ := hnext
        have e : (pend ++ [(c, v)]).map (·.1) = pend.map (·.1) ++ [c] := by simp
        refine ihp (pend ++ [(c, v)]) (ag.put oc.dst v) ⟨I.size, I.closed, ?_, ?_, ?_, ?_, ?_, I.run.snoc hoc hrn, .inr (I.st.resolve_left (by rintro ⟨_, h⟩; cases h)), hwp'⟩
        · rw [e]; intro j hj
          rcases List.mem_append.1 hj with h | h
          · exact I.apart j h
          · simp at h; subst h; exact ⟨hc1, by simpa using fun h => hc2 (.inl h)⟩
        · rw [e]
          refine List.nodup_append.2 ⟨I.nodup, by simp, fun x hx y hy => ?_⟩
          simp at hy; subst hy
          intro e; subst e; exact hc2 (.inr hx)
        · rw [e]; intro j hj
          rcases List.mem_append.1 hj with h | h
          · exact I.fl j h
          · simp at h; subst h; exact hc4
        · rw [e]; exact I.ord.snoc _ hc3 hc4
        · refine PlanOK.congr (fun j => ?_) hpl
          rw [e]
          simp only [With, List.mem_append, List.mem_singleton, or_assoc]
      | fork c snk p rest _ _ =>
        intro pend ag I
        by_cases him : i ∈ pend.map (·.1)
        · exact hpull pend _ ag I him
        · refine hact pend _ ag I (I.st.resolve_left (by rintro ⟨_, h⟩; cases h)) him ?_
          obtain ⟨hall, hone, hrest⟩ := I.plan
          have hmem := hall i hlt (by simp only [not_or]; exact ⟨by simp [hun], him⟩) (hd.mono fun j hj => .inl hj)
          have hchain : ChainOK md ops (.fork c snk p rest) (fun k => listed.getD k false = true ∨ k ∈ pend.map (·.1)) := ⟨hone, hrest⟩
          exact chain_get hchain hmem I.wp
    exact hgo rem pend ag I

theorem wp_plan {id : Nat} {a : Act} {w : World} {l : List Oper} (p : Plan) (hm : P.follows .mixedOrders = true) (hB : planOKB .any l.toArray p = true) (hS : S w.drew)
    (h : wpPlan P l.toArray Q p S a w.drew) : (Code.region id l.toArray true).wp P Q a w := by
  simp only [planOKB, Bool.and_eq_true] at hB
  obtain ⟨⟨hsel, hpair⟩, hplan⟩ := hB
  refine wp_region_any hm ?_
  have hrep : ∀ j, (Array.replicate l.toArray.size false).getD j false = false := by
    intro j
    rw [Array.getD_eq_getD_getElem?, Array.getElem?_replicate]
    split <;> rfl
  refine wpAny_of_plan (fun j oj hj cs b => Region.noSelect_spec hsel j oj cs b hj) (pairsB_spec hpair) _ S _ [] p a a _ ?_ ⟨by simp, ?_, by simp, by simp, by simp, trivial, ?_, .nil _, .inr hS, h⟩
  · unfold unl
    rw [Array.toList_replicate, List.count_replicate]
    simp
  · intro j hj
    rw [hrep] at hj; cases hj
  · exact PlanOK.congr (fun j => by simp) ((planB_spec p).1 _ (by simp) hplan)

/-- What acts first. -/
def wpFork (P : Program) (ops : Array Oper) (Q : Exit → Act → World → Prop) (i : Nat) (sink : Bool) (p : Plan) (S : World → Prop) (a : Act) (w : World) : Prop :=
  match ops[i]? with
     | none => False
     | some o =>
       if Region.wanted o (yielded ops a.tmps) then o.wp P a w (fun a' w' => ∃ S' : World → Prop, (∀ u, S' u → S u) ∧ ((sink = true ∧ p = .done) ∨ S' w') ∧ wpPlan P ops Q p S' a' w') (fun _ _ _ => False)
       else wpPlan P ops Q p S (a.put o.dst undef) w
section
variable {a : Act} {w : World} {i : Nat} {p rest : Plan} {o : Oper} {snk : Bool}
theorem wpPlan_fork (h : wpFork P ops Q i snk p S a w) (hr : wpPlan P ops Q rest S a w) : wpPlan P ops Q (.fork i snk p rest) S a w := ⟨h, hr⟩
theorem wpPlan_take {v : Value} (ho : ops[i]? = some o) (hw : Region.wanted o (yielded ops a.tmps) = true) (hr : ∀ w', S w' → (execOp a.eval o).run P w' = .ok (.value v) w') (h : wpPlan P ops Q p S (a.put o.dst v) w) : wpPlan P ops Q (.take i p) S a w := by
  simp only [wpPlan, ho, if_pos hw]
  exact ⟨v, hr, h⟩
theorem wpPlan_skip (ho : ops[i]? = some o) (hw : Region.wanted o (yielded ops a.tmps) = false) (h : wpPlan P ops Q p S (a.put o.dst undef) w) : wpPlan P ops Q (.take i p) S a w := by
  simp only [wpPlan, ho, hw]
  exact h
theorem wpFork_act (ho : ops[i]? = some o) (hw : Region.wanted o (yielded ops a.tmps) = true) (h : o.wp P a w (fun a' w' => ∃ S' : World → Prop, (∀ u, S' u → S u) ∧ S' w' ∧ wpPlan P ops Q p S' a' w') (fun _ _ _ => False)) : wpFork P ops Q i snk p S a w := by
  simp only [wpFork, ho, if_pos hw]
  exact Oper.wp_mono (fun _ _ h => by obtain ⟨S', h1, h2, h3⟩ := h; exact ⟨S', h1, .inr h2, h3⟩) h
theorem wpFork_last (ho : ops[i]? = some o) (hw : Region.wanted o (yielded ops a.tmps) = true) (h : o.wp P a w (wpPlan P ops Q .done S) (fun _ _ _ => False)) : wpFork P ops Q i true .done S a w := by
  simp only [wpFork, ho, if_pos hw]
  exact Oper.wp_mono (fun _ _ h => ⟨S, fun _ h => h, .inl (by simp), h⟩) h
theorem wpFork_pass (ho : ops[i]? = some o) (hw : Region.wanted o (yielded ops a.tmps) = false) (h : wpPlan P ops Q p S (a.put o.dst undef) w) : wpFork P ops Q i snk p S a w := by
  simp only [wpFork, ho, hw]
  exact h
end
end
end Go.Proofs.YtlkjfbfenpkmhaaDoor.Sg
/- The engine: a region that draws its order, by a plan, where more may be read behind each act. For whatever program. No condition. -/
namespace Go.Proofs.YtlkjfbfenpkmhaaDoor
set_option linter.unusedVariables false
set_option linter.unusedSimpArgs false
open Go Go.RowKit
section
variable {P : Program} {n : Nat} {l : List (Nat × Value)} {E : World} {L Lst : List Heaplet} {Q : Exit → Act → World → Prop} {ops : Array Oper} {o : Oper} {i : Nat}
theorem At.planG {id : Nat} {ops : List Oper} (Lst : List Heaplet) (p : Plan) (hm : P.follows .mixedOrders = true) (hB : planOKB .any ops.toArray p = true) (hs : Lst.Sublist L)
    (h : At n l E L (Sg.wpPlan P ops.toArray Q p (Hp E Lst))) : At n l E L ((Code.region id ops.toArray true).wp P Q) := fun a w hf hw => Sg.wp_plan p hm hB (hw.drew.drop hs) (h a w.drew hf hw.drew)
theorem At.gDone {S : World → Prop} (h : At n l E L (Q .normal)) : At n l E L (Sg.wpPlan P ops Q .done S) := h
theorem At.gNo {S : World → Prop} : At n l E L (Sg.wpPlan P ops Q .nofork S) := fun _ _ _ _ => trivial
theorem At.forkG {S : World → Prop} {i : Nat} {snk : Bool} {p rest : Plan} (h : At n l E L (Sg.wpFork P ops Q i snk p S)) (hr : At n l E L (Sg.wpPlan P ops Q rest S)) : At n l E L (Sg.wpPlan P ops Q (.fork i snk p rest) S) := fun a w hf hw => Sg.wpPlan_fork (h a w hf hw) (hr a w hf hw)
variable {pl : Plan} {snk : Bool}
theorem nxqf (ho : ops[i]? = some o) (hg : o.guard = none) : NxF P n l E L Lst o (Sg.wpPlan P ops Q (.take i pl) (Hp E Lst)) (Sg.wpPlan P ops Q pl (Hp E Lst)) := fun a w v hfr hw hr hy =>
  Sg.wpPlan_take ho (by simp [Region.wanted, hg]) hr hy
theorem nxqgf {j : Nat} {b : Bool} {oj : Oper} {d : Nat} (ho : ops[i]? = some o) (hg : o.guard = some (j, b)) (hj : ops[j]? = some oj) (hd : oj.dst = some d) (hv : lk l d = some (.bool b)) : NxF P n l E L Lst o (Sg.wpPlan P ops Q (.take i pl) (Hp E Lst)) (Sg.wpPlan P ops Q pl (Hp E Lst)) := fun a w v hfr hw hr hy =>
  Sg.wpPlan_take ho (by rw [wanted_of hfr hg hj hd hv]; simp) hr hy
theorem nxqa (ho : ops[i]? = some o) (hg : o.guard = none) : Nx P n l E L o (Sg.wpFork P ops Q i snk pl (Hp E Lst)) (fun a w => ∃ S' : World → Prop, (∀ u, S' u → Hp E Lst u) ∧ S' w ∧ Sg.wpPlan P ops Q pl S' a w) := fun a w hfr hw hx =>
  Sg.wpFork_act ho (by simp [Region.wanted, hg]) hx
theorem nxqga {j : Nat} {b : Bool} {oj : Oper} {d : Nat} (ho : ops[i]? = some o) (hg : o.guard = some (j, b)) (hj : ops[j]? = some oj) (hd : oj.dst = some d) (hv : lk l d = some (.bool b)) : Nx P n l E L o (Sg.wpFork P ops Q i snk pl (Hp E Lst)) (fun a w => ∃ S' : World → Prop, (∀ u, S' u → Hp E Lst u) ∧ S' w ∧ Sg.wpPlan P ops Q pl S' a w) := fun a w hfr hw hx =>
  Sg.wpFork_act ho (by rw [wanted_of hfr hg hj hd hv]; simp) hx
theorem nxql (ho : ops[i]? = some o) (hg : o.guard = none) : Nx P n l E L o (Sg.wpFork P ops Q i true .done (Hp E Lst)) (Sg.wpPlan P ops Q .done (Hp E Lst)) := fun a w hfr hw hx =>
  Sg.wpFork_last ho (by simp [Region.wanted, hg]) hx
theorem At.moreG {Lst Lst' : List Heaplet} (h1 : Lst.Sublist Lst') (hs : Lst'.Sublist L) (h : At n l E L (Sg.wpPlan P ops Q pl (Hp E Lst'))) : At n l E L (fun a w => ∃ S' : World → Prop, (∀ u, S' u → Hp E Lst u) ∧ S' w ∧ Sg.wpPlan P ops Q pl S' a w) := fun a w hf hw => ⟨Hp E Lst', fun _ hu => hu.drop h1, hw.drop hs, h a w hf hw⟩
theorem op_qskip {S : World → Prop} {j : Nat} {b c : Bool} {oj : Oper} {d e : Nat} (ho : ops[i]? = some o) (hg : o.guard = some (j, b)) (hj : ops[j]? = some oj) (hd : oj.dst = some d) (hv : lk l d = some (.bool c)) (hc : (c == b) = false) (he : o.dst = some e) (hn : Nat.ble (e + 1) n = true)
    (h : At n ((e, undef) :: l) E L (Sg.wpPlan P ops Q pl S)) : At n l E L (Sg.wpPlan P ops Q (.take i pl) S) := fun a w hf hw =>
  Sg.wpPlan_skip ho (by rw [wanted_of hf hg hj hd hv, hc]) (by rw [he]; exact h _ _ (hf.put (Nat.le_of_ble_eq_true hn)) hw)
theorem op_qpass {S : World → Prop} {j : Nat} {b c : Bool} {oj : Oper} {d e : Nat} (ho : ops[i]? = some o) (hg : o.guard = some (j, b)) (hj : ops[j]? = some oj) (hd : oj.dst = some d) (hv : lk l d = some (.bool c)) (hc : (c == b) = false) (he : o.dst = some e) (hn : Nat.ble (e + 1) n = true)
    (h : At n ((e, undef) :: l) E L (Sg.wpPlan P ops Q pl S)) : At n l E L (Sg.wpFork P ops Q i snk pl S) := fun a w hf hw =>
  Sg.wpFork_pass ho (by rw [wanted_of hf hg hj hd hv, hc]) (by rw [he]; exact h _ _ (hf.put (Nat.le_of_ble_eq_true hn)) hw)
theorem op_qskipU {S : World → Prop} {j : Nat} {b : Bool} {oj : Oper} {d e : Nat} (ho : ops[i]? = some o) (hg : o.guard = some (j, b)) (hj : ops[j]? = some oj) (hd : oj.dst = some d) (hv : lk l d = some undef) (he : o.dst = some e) (hn : Nat.ble (e + 1) n = true)
    (h : At n ((e, undef) :: l) E L (Sg.wpPlan P ops Q pl S)) : At n l E L (Sg.wpPlan P ops Q (.take i pl) S) := fun a w hf hw =>
  Sg.wpPlan_skip ho (unwanted_of hf hg hj hd hv) (by rw [he]; exact h _ _ (hf.put (Nat.le_of_ble_eq_true hn)) hw)
theorem op_qpassU {S : World → Prop} {j : Nat} {b : Bool} {oj : Oper} {d e : Nat} (ho : ops[i]? = some o) (hg : o.guard = some (j, b)) (hj : ops[j]? = some oj) (hd : oj.dst = some d) (hv : lk l d = some undef) (he : o.dst = some e) (hn : Nat.ble (e + 1) n = true)
    (h : At n ((e, undef) :: l) E L (Sg.wpPlan P ops Q pl S)) : At n l E L (Sg.wpFork P ops Q i snk pl S) := fun a w hf hw =>
  Sg.wpFork_pass ho (unwanted_of hf hg hj hd hv) (by rw [he]; exact h _ _ (hf.put (Nat.le_of_ble_eq_true hn)) hw)
end
end Go.Proofs.YtlkjfbfenpkmhaaDoor
/- Texts as runes; hex digits read: plain words. No condition. -/
namespace Go.Proofs.YtlkjfbfenpkmhaaDoor
set_option linter.unusedVariables false
set_option linter.unusedSimpArgs false
open Go Go.Lib
/-- The runes of a text. -/
def runeF : Nat → List UInt8 → List Nat
  | 0, _ => []
  | k + 1, l => if l = [] then [] else (decodeL l).1 :: runeF k (l.drop (decodeL l).2)
theorem drop_less {l : List UInt8} (h : l ≠ []) : (l.drop (decodeL l).2).length < l.length := by
  have := decodeL_width l
  have := List.length_pos_iff.2 h
  rw [List.length_drop]; omega
theorem runeF_fuel : ∀ (k m : Nat) (l : List UInt8), l.length ≤ k → l.length ≤ m → runeF k l = runeF m l := by
  intro k
  induction k with
  | zero =>
    intro m l h1 h2
    have : l = [] := List.eq_nil_of_length_eq_zero (by omega)
    subst this
    cases m with
    | zero => rfl
    | succ m => rfl
  | succ k ih =>
    intro m l h1 h2
    cases m with
    | zero =>
      have : l = [] := List.eq_nil_of_length_eq_zero (by omega)
      subst this; rfl
    | succ m =>
      rw [runeF, runeF]
      by_cases h : l = []
      · rw [if_pos h, if_pos h]
      · have := drop_less h
        rw [if_neg h, if_neg h, ih m (l.drop (decodeL l).2) (by omega) (by omega)]
def runesOf (l : List UInt8) : List Nat := runeF l.length l
theorem runes_nil : runesOf [] = [] := rfl
theorem runes_step {l : List UInt8} (h : l ≠ []) : runesOf l = (decodeL l).1 :: runesOf (l.drop (decodeL l).2) := by
  have := drop_less h
  rw [runesOf, runeF_fuel l.length (l.length + 1) l (by omega) (by omega), runeF, if_neg h]
  rw [runesOf, runeF_fuel l.length (l.drop (decodeL l).2).length (l.drop (decodeL l).2) (by omega) (by omega)]
theorem runes_at {l : List UInt8} {p : Nat} (h : p < l.length) : runesOf (l.drop p) = (decodeL (l.drop p)).1 :: runesOf (l.drop (p + (decodeL (l.drop p)).2)) := by
  rw [runes_step (List.ne_nil_of_length_pos (by rw [List.length_drop]; omega)), List.drop_drop]
theorem runes_end {l : List UInt8} {p : Nat} (h : l.length ≤ p) : runesOf (l.drop p) = [] := by rw [List.drop_eq_nil_of_le h]; rfl
theorem runeF_len : ∀ (k : Nat) (l : List UInt8), (runeF k l).length ≤ l.length := by
  intro k
  induction k with
  | zero => intro l; exact Nat.zero_le _
  | succ k ih =>
    intro l
    rw [runeF]
    by_cases h : l = []
    · rw [if_pos h]; exact Nat.zero_le _
    · have := ih (l.drop (decodeL l).2)
      have := drop_less h
      rw [if_neg h, List.length_cons]; omega
theorem runes_len (l : List UInt8) : (runesOf l).length ≤ l.length := runeF_len _ _
/-- What a rune may be. -/
def RuneOk (r : Nat) : Prop := r < 55296 ∨ (57344 ≤ r ∧ r ≤ 1114111)
theorem decode_ok (l : List UInt8) : RuneOk (decodeL l).1 := by
  rw [decodeL_N]
  rcases decodeN_shape l.length (l.getD 0 0).toNat (l.getD 1 0).toNat (l.getD 2 0).toNat (l.getD 3 0).toNat with ⟨c, e⟩ | ⟨c1, c2, c3, cv, e⟩ | ⟨c1, c2, c3, c4, cv, cs, e⟩ | ⟨c1, c2, c3, c4, c5, cv, cw, e⟩ | e
  all_goals
    rw [e]
    unfold RuneOk
    simp only
    omega
/-- A hex digit's value. -/
def hexV (r : Nat) : Option Nat := if 48 ≤ r ∧ r ≤ 57 then some (r - 48) else if 97 ≤ r ∧ r ≤ 102 then some (r - 87) else if 65 ≤ r ∧ r ≤ 70 then some (r - 55) else none
theorem hexV_lt {r v : Nat} (h : hexV r = some v) : v < 16 := by
  unfold hexV at h
  split at h
  · injection h; omega
  · split at h
    · injection h; omega
    · split at h
      · injection h; omega
      · cases h
theorem hexV_high {r : Nat} (h : 128 ≤ r) : hexV r = none := by
  rw [hexV, if_neg (by omega), if_neg (by omega), if_neg (by omega)]
/-- 0x, rune by rune. -/
def ox (k : Nat) : Nat := if k = 0 then 48 else 120
/-- The digits that are read, how many runes, and what is wrong (0: nothing). -/
def readF (ask : List UInt8 → Nat) : Nat → List UInt8 → List Nat → List UInt8 × Nat × Nat
  | k, acc, [] => if k < 2 then ([], k, 2) else (acc, k, 0)
  | k, acc, r :: t => if k < 2 then (if r = ox k then readF ask (k + 1) acc t else ([], k, 2)) else match hexV r with
    | none => ([], k, 2)
    | some v => if ask acc = 0 then readF ask (k + 1) (acc ++ [UInt8.ofNat v]) t else ([], k, ask acc)
variable {ask : List UInt8 → Nat} {k r : Nat} {acc : List UInt8} {t : List Nat}
theorem readF_end0 (h : k < 2) : readF ask k acc [] = ([], k, 2) := if_pos h
theorem readF_end1 (h : ¬ k < 2) : readF ask k acc [] = (acc, k, 0) := if_neg h
theorem readF_ox (h : k < 2) (hr : r = ox k) : readF ask k acc (r :: t) = readF ask (k + 1) acc t := by rw [readF, if_pos h, if_pos hr]
theorem readF_no (h : k < 2) (hr : ¬ r = ox k) : readF ask k acc (r :: t) = ([], k, 2) := by rw [readF, if_pos h, if_neg hr]
theorem readF_none (h : ¬ k < 2) (hr : hexV r = none) : readF ask k acc (r :: t) = ([], k, 2) := by rw [readF, if_neg h, hr]
theorem readF_some {v : Nat} (h : ¬ k < 2) (hr : hexV r = some v) (ha : ask acc = 0) : readF ask k acc (r :: t) = readF ask (k + 1) (acc ++ [UInt8.ofNat v]) t := by rw [readF, if_neg h, hr]; exact if_pos ha
theorem readF_ask {v : Nat} (h : ¬ k < 2) (hr : hexV r = some v) (ha : ask acc ≠ 0) : readF ask k acc (r :: t) = ([], k, ask acc) := by rw [readF, if_neg h, hr]; exact if_neg ha
end Go.Proofs.YtlkjfbfenpkmhaaDoor
/- The engine, what strings.Builder needs: pointers compared and turned, a string appended, bytes handed over as a string. For whatever program. No condition. -/
namespace Go.Proofs.YtlkjfbfenpkmhaaDoor
set_option linter.unusedVariables false
set_option linter.unusedSimpArgs false
open Go Go.RowKit
section
variable {P : Program} {n : Nat} {l : List (Nat × Value)} {E : World} {L L1 Ls : List Heaplet} {X Y : Act → World → Prop} {d : Nat} {t t' ty : TypeId} {x y : Operand} {N : Heaplet}
theorem eqGuard_ptr {op : BinOp} {p q : Option Addr} (w : World) : (eqGuard op t x y (.pointer p) (.pointer q)).run P w = .ok () w := by
  unfold eqGuard
  by_cases h : (!(op matches .eql | .neq)) = true <;> simp [h]
theorem op_eqPN {te : TypeId} {p : Option Addr} {pos : _} {aft : _} {g : _} (s : NxF P n l E L Ls ⟨some d, .binOp .eql t x y t', ty, pos, aft, g⟩ X Y) (ht : P.underlying t = some (.pointer te)) (hx : ev l x = some (.pointer p)) (hy : ev l y = some (.pointer none)) (hn : Nat.ble (d + 1) n = true) (h : At n ((d, .bool p.isNone) :: l) E L Y) : At n l E L X :=
  op_bin s hx hy (fun w => eqGuard_ptr w) (fun w => by
    have h : ∀ d : Nat, (Op.equalIn (d + 1) t (.pointer p) (.pointer none)).run P w = .ok p.isNone w := fun d => by
      cases p <;> simp [Op.equalIn, run_underlying ht]
    simp only [binOp]
    simp [Op.equal, Op.maxDepth, h 9999]) hn h
theorem op_nePS {te : TypeId} {j : TypeInfo} {q : Addr} {pos : _} {aft : _} {g : _} (s : NxF P n l E L Ls ⟨some d, .binOp .neq t x y t', ty, pos, aft, g⟩ X Y) (ht : P.underlying t = some (.pointer te)) (hj : P.info? te = some j) (hx : ev l x = some (.pointer (some q))) (hy : ev l y = some (.pointer (some q))) (hn : Nat.ble (d + 1) n = true) (h : At n ((d, .bool false) :: l) E L Y) : At n l E L X :=
  op_bin s hx hy (fun w => eqGuard_ptr w) (fun w => Lib.run_neq_ptr_same w q ht hj) hn h
theorem shape_of {b : Nat} {e : TypeId} {cs : List Value} {w : World} (hN : N.le (whole w)) (hb : Blk N b e cs) : w.shape? b = some (e, cs.length) := by
  have h1 : w.heap[b]? = some (.cells cs.toArray e (0, 0)) := hN _ _ hb
  simp [World.shape?, h1]
theorem op_toU {b off : Nat} {e tt : TypeId} {cs : List Value} {j : TypeInfo} {pos : _} {aft : _} {g : _} (s : NxF P n l E L Ls ⟨some d, .convert t t' x, ty, pos, aft, g⟩ X Y) (ht : P.underlying t = some (.pointer tt)) (ht' : P.underlying t' = some .unsafePointer) (hj : P.info? tt = some j) (hz : j.size ≠ 0)
    (hx : ev l x = some (.pointer (some ⟨b, off, none⟩))) (hb : Blk N b e cs) (ho : off < cs.length) (hN : N ∈ Ls) (hn : Nat.ble (d + 1) n = true) (h : At n ((d, .pointer (some ⟨b, off, none⟩)) :: l) E L Y) : At n l E L X :=
  op_val s (fun a w hf hw => by
    have e1 : (execOp a.eval ⟨some d, .convert t t' x, ty, pos, aft, g⟩) = (do let v ← convert t t' (a.eval x); pure (.value v) : Sem Next) := rfl
    rw [e1, hf.eval hx, Sem.run_bind, Lib.run_to_unsafe w ⟨b, off, none⟩ ht ht' hj hz (shape_of (hw.sub N hN) hb) ho]
    rfl) rfl hn h
theorem op_fromU {b off : Nat} {e u : TypeId} {cs : List Value} {j : TypeInfo} {pos : _} {aft : _} {g : _} (s : NxF P n l E L Ls ⟨some d, .convert t t' x, ty, pos, aft, g⟩ X Y) (ht : P.underlying t = some .unsafePointer) (ht' : P.underlying t' = some (.pointer u)) (hj : P.info? u = some j)
    (hx : ev l x = some (.pointer (some ⟨b, off, none⟩))) (hb : Blk N b e cs) (hl : liesAt P P.depth e (cs.length / P.cellsOf e) off u 1 = true) (hN : N ∈ Ls) (hn : Nat.ble (d + 1) n = true) (h : At n ((d, .pointer (some ⟨b, off, none⟩)) :: l) E L Y) : At n l E L X :=
  op_val s (fun a w hf hw => by
    have e1 : (execOp a.eval ⟨some d, .convert t t' x, ty, pos, aft, g⟩) = (do let v ← convert t t' (a.eval x); pure (.value v) : Sem Next) := rfl
    rw [e1, hf.eval hx, Sem.run_bind, Lib.run_from_unsafe w ⟨b, off, none⟩ ht ht' hj (shape_of (hw.sub N hN) hb) hl]
    rfl) rfl hn h
theorem strCells_u8s (s : List UInt8) : Lib.strCells ⟨s.toArray⟩ = u8s s := by
  rw [Lib.strCells_eq]
  simp [Lib.byteCells, u8s, vb]
theorem owns_slice {w : World} {base : Nat} {e : TypeId} {size m : Nat} {v : Value} {ys : List Value} (h : w.ownsRow base e size v m ys) : ∃ ao cap, v = .slice ao m cap := by
  obtain ⟨_, ⟨rfl, rfl⟩ | ⟨g, cap, cur, rfl, _⟩⟩ := h
  · exact ⟨none, 0, rfl⟩
  · exact ⟨_, cap, rfl⟩
/-- append of a string's bytes. -/
theorem op_appendS {e : TypeId} {i : TypeInfo} {u : TypeId} {ao : Option Addr} {len cap : Nat} {xs : List Value} {bs : List UInt8} {pos : _} {aft : _} {g : _} (s : Nx P n l E L ⟨some d, .call ⟨.builtin .append, #[x, y], #[t, u]⟩, ty, pos, aft, g⟩ X Y) (ht : P.underlying t = some (.slice e)) (hu : P.underlying u = some .string)
    (hi : P.info? e = some i) (hz : i.zero = some (.int .u8 0)) (hs : i.size = 1) (hby : i.bytes = 1)
    (hx : ev l x = some (.slice ao len cap)) (hy : ev l y = some (str bs)) (hr : Row N e 1 ao len cap xs) (hb : len + bs.length ≤ 140737488355328) (sel : L.Perm (N :: L1)) (hn : Nat.ble (d + 1) n = true)
    (h : ∀ N ao cap, Row N e 1 ao (len + bs.length) cap (xs ++ u8s bs) → At n ((d, .slice ao (len + bs.length) cap) :: l) E (N :: L1) Y) : At n l E L X := by
  refine op_upd s (fun v L' => ∃ N ao cap, v = .slice ao (len + bs.length) cap ∧ L' = N :: L1 ∧ Row N e 1 ao (len + bs.length) cap (xs ++ u8s bs)) (fun a w hf hw => ?_) rfl hn (fun v L' ⟨N, ao, cap, hv, hL, hB⟩ => by subst hv; subst hL; exact h N ao cap hB)
  have hw2 := hw.perm sel
  obtain ⟨v', w', h4, h5, h6, h7⟩ := Lib.run_append_own_string (P := P) w 0 t u ty e i ht hu hi hz hs hby (.slice ao len cap) len xs (hr.owns (hw2.sub N (List.mem_cons_self ..))) ⟨bs.toArray⟩ (by show len + bs.length ≤ maxLen; unfold maxLen; omega) hb (Nat.zero_le _)
  rw [strCells_u8s] at h5
  have h5 : w'.ownsRow 0 e 1 v' (len + bs.length) (xs ++ u8s bs) := h5
  obtain ⟨ao2, cap2, rfl⟩ := owns_slice h5
  have hbk : Value.ownBlock (.slice ao2 (len + bs.length) cap2) = Value.ownBlock (.slice ao len cap) ∨ Value.ownBlock (.slice ao2 (len + bs.length) cap2) = some w.heap.size := by
    have hsz2 : (⟨bs.toArray⟩ : ByteArray).size = bs.length := rfl
    have hxl : xs.length = len := by have := hr.1; omega
    obtain ⟨_, ⟨hv, hz0⟩ | ⟨gg, cap', cur, hv, _, hg, hnc, hcm, hcs, htake⟩⟩ := hr.owns (hw2.sub N (List.mem_cons_self ..))
    · injection hv with e1 e2 e3
      subst e1; subst e2; subst e3
      by_cases hm : bs.length = 0
      · have := h7.2 ⟨rfl, hm⟩
        injection this with e1 e2 e3
        subst e1
        exact .inl rfl
      · have hrn := run_append_nil_string (P := P) w t u ty e i (.int .u8 0) ht hu hi hz ⟨bs.toArray⟩ (by rw [hsz2]; omega) (by rw [hsz2]; omega) (by rw [hby, hsz2]; omega)
        rw [hrn] at h4
        injection h4 with e1 e2
        injection e1 with e3
        exact .inr (by rw [← e3]; rfl)
    · injection hv with e1 e2 e3
      subst e1; subst e3
      by_cases hroom : len + bs.length ≤ cap
      · have hrn := Lib.run_append_room_string (P := P) w t u ty e i ht hu hi hs gg len cap cur hg ⟨bs.toArray⟩ hroom (by rw [hsz2]; omega)
        rw [hrn] at h4
        injection h4 with e1 e2
        injection e1 with e3
        exact .inl (by rw [← e3]; rfl)
      · have hown := hr.owns (hw2.sub N (List.mem_cons_self ..))
        have holds : ∀ j u, xs[j]? = some u → w.cell? ((⟨gg, 0, none⟩ : Addr).add j) = some u := hown.cells (g := gg) rfl
        have hrn := Lib.run_append_grow_string (P := P) w t u ty e i (.int .u8 0) ht hu hi hz ⟨gg, 0, none⟩ len cap xs (by rw [hs]; omega) holds ⟨bs.toArray⟩ (by rw [hsz2]; omega) (by rw [hsz2]; omega) (by rw [hby]; exact growslice_fits (by rw [hsz2]; omega) (by rw [hsz2]; omega))
        rw [hrn] at h4
        injection h4 with e1 e2
        injection e1 with e3
        exact .inr (by rw [← e3]; rfl)
  obtain ⟨N', h8, h9⟩ := hp_append hw2 hr h5 h6 hbk
  refine ⟨_, w', _, ?_, h9, N', ao2, cap2, rfl, rfl, h8⟩
  simp only [execOp, resolve, invoke, builtin, Sem.run_bind, Sem.run_pure, Result.andThen_ok, List.map_toArray, List.map_cons, List.map_nil, hf.eval hx, hf.eval hy, str, h4]
theorem op_sliceData {ad : Addr} {len cap : Nat} {ats : Array TypeId} {pos : _} {aft : _} {g : _} (s : NxA P n l E L ⟨some d, .call ⟨.builtin .unsafeSliceData, #[x], ats⟩, ty, pos, aft, g⟩ X Y) (hx : ev l x = some (.slice (some ad) len cap)) (hc : cap ≠ 0) (hn : Nat.ble (d + 1) n = true) (h : At n ((d, .pointer (some ad)) :: l) E L Y) : At n l E L X := fun a w hf hw => by
  refine s a w hf hw ?_
  unfold Oper.wp
  have hrun : (execOp a.eval ⟨some d, .call ⟨.builtin .unsafeSliceData, #[x], ats⟩, ty, pos, aft, g⟩).run P w = .ok (.value (.pointer (some ad))) w := by
    simp only [execOp, resolve, invoke, builtin, Sem.run_bind, Sem.run_pure, Result.andThen_ok, List.map_toArray, List.map_cons, List.map_nil, hf.eval hx, Lib.run_unsafeSliceData_row w ats ty ad len cap hc]
  rw [hrun]
  exact ⟨fun _ _ => rfl, h _ _ (hf.put (Nat.le_of_ble_eq_true hn)) hw⟩
/-- Bytes handed over as a string: they turn no more. -/
theorem op_unsafeStr {e : TypeId} {u : TypeId} {b len cap : Nat} {bs : List UInt8} {pos : _} {aft : _} {g : _} (s : Nx P n l E L ⟨some d, .call ⟨.builtin .unsafeString, #[x, y], #[t, u]⟩, ty, pos, aft, g⟩ X Y) (ht : P.underlying t = some (.pointer e)) (hc : P.cellsOf e = 1)
    (hx : ev l x = some (.pointer (some ⟨b, 0, none⟩))) (hy : ev l y = some (.int .i64 (len : Int))) (hr : Row N e 1 (some ⟨b, 0, none⟩) len cap (u8s bs)) (h0 : 0 < len) (hl : len ≤ 9223372036854775807) (sel : L.Perm (N :: L1)) (hn : Nat.ble (d + 1) n = true)
    (h : At n ((d, str bs) :: l) E L1 Y) : At n l E L X := by
  refine op_upd s (fun v L' => v = str bs ∧ L' = L1) (fun a w hf hw => ?_) rfl hn (fun v L' ⟨hv, hL⟩ => by subst hv; subst hL; exact h)
  have hw2 := hw.perm sel
  have hlen : bs.length = len := hr.rsl.len8
  obtain ⟨_, hlc, hcm, ⟨h1, _⟩ | ⟨b', cur, hb', hbk, hsz, htk⟩⟩ := hr
  · cases h1
  · obtain rfl : b = b' := by injection hb' with e1; injection e1
    have hheap : w.heap[b]? = some (.cells cur e (0, 0)) := hw2.sub N (List.mem_cons_self ..) _ _ hbk
    have hsh : w.shape? b = some (e, cur.size) := by simp [World.shape?, hheap]
    have hcell : ∀ j z, bs[j]? = some z → w.cell? ((⟨b, 0, none⟩ : Addr).add j) = some (.int .u8 z.toNat) := fun j z hz => by
      obtain ⟨hj, rfl⟩ := List.getElem?_eq_some_iff.1 hz
      have hs := (show Row N e 1 (some ⟨b, 0, none⟩) len cap (u8s bs) from ⟨by rw [u8s, List.length_map, Nat.mul_one, hlen], hlc, hcm, .inr ⟨b, cur, rfl, hbk, hsz, htk⟩⟩).rsl.sl (hw2.sub N (List.mem_cons_self ..))
      obtain ⟨b2, off2, e2, hc2⟩ := hs.cell (x := .int .u8 (bs[j].toNat : Int)) (i := j) (by simp [u8s, vb, hj])
      injection e2 with e3
      injection e3 with e4 e5
      subst e4; subst e5
      rw [addr_add]
      exact hc2
    have hrun := Lib.run_unsafeString_row (P := P) w t u ty e ht hc b cur.size hsh bs (by intro e; subst e; simp at hlen; omega) (by rw [hsz, hlen]; omega) (by omega) hcell
    rw [hlen] at hrun
    refine ⟨str bs, w.freeze ⟨b, 0, none⟩ len, L1, ?_, ?_, rfl, rfl⟩
    · simp only [execOp, resolve, invoke, builtin, Sem.run_bind, Sem.run_pure, Result.andThen_ok, List.map_toArray, List.map_cons, List.map_nil, hf.eval hx, hf.eval hy, hrun]; rfl
    · have hne : ¬ len = 0 := by omega
      have := hw2.put (o' := .cells cur e (0, 0 + len)) (w' := w.freeze ⟨b, 0, none⟩ len) hbk (by simp [World.freeze, hne]) (by simp [World.freeze, hne]) (by simp [World.freeze, hne]) (by
        simp [World.freeze, hne, Array.getElem?_modify, hheap]) (fun k hk _ => by
        simp [World.freeze, hne, Array.getElem?_modify, Ne.symm hk])
      exact this.drop (List.sublist_cons_self ..)
end
end Go.Proofs.YtlkjfbfenpkmhaaDoor
/- strings.Builder: its methods at a builder of the caller's own. No condition but the room that Go gives. -/
namespace Go.Proofs.YtlkjfbfenpkmhaaDoor
set_option linter.unusedVariables false
set_option linter.unusedSimpArgs false
open Go Go.RowKit
theorem info_of_siz {P : Program} {t : TypeId} {k : Nat} (h : siz P t = some k) : ∃ j, P.info? t = some j ∧ j.size = k := by
  unfold siz at h
  cases e : P.info? t with
  | none => rw [e] at h; cases h
  | some j => rw [e] at h; exact ⟨j, rfl, by injection h⟩
section
variable {Nx Nr : Heaplet} {b n c : Nat} {a : Option Addr} {p : Option Addr} {sl q : Value} {l : List UInt8}
theorem FCopy_n (Bx : Blk Nx b 66 [.pointer none, sl]) : Fn Tryd.prog 60 #[.pointer (some ⟨b, 0, none⟩)] [Nx] [] (fun v L => v = .tuple #[] ∧ ∃ M, L = [M] ∧ Blk M b 66 [.pointer (some ⟨b, 0, none⟩), sl]) := by
  obtain ⟨j, hj, hjs⟩ := info_of_siz sz66
  have hE : ∀ w, (callFunc 79 #[.pointer (some ⟨b, 0, none⟩)]).run Tryd.prog w = .ok (.value (.pointer (some ⟨b, 0, none⟩))) w := fun w => by
    rw [run_callFunc_extern Tryd.func79 (by kernel_rfl) (by kernel_rfl) (by kernel_rfl) (e := Extern.AbiNoEscape.same) (by kernel_rfl)]
    rfl
  refine Fn.enter (vs := [.pointer (some ⟨b, 0, none⟩)]) Tryd.func60 rfl rfl rfl ?_
  intro E R hR
  change At _ _ E [Nx, R] _
  refine At.seq fun K1 hk_1 => ?_
  refine At.region ?_
  refine op_move (nxlf rfl) rfl rfl ?_
  refine op_nilChk (nxlf rfl) rfl rfl ?_
  refine op_fieldAddr (nxlf rfl) fl66_0 rfl rfl ?_
  refine op_loadB (nxlf rfl) sc64 rfl Bx (by first | rfl) mem0 rfl ?_
  refine op_eqPN (nxlf rfl) Tryd.underlying64 rfl rfl rfl ?_
  refine At.opsNil ?_
  refine At.norm (hk_1 ?_)
  refine At.condT rfl ?_
  refine At.region ?_
  refine op_move (nxlf rfl) rfl rfl ?_
  refine op_move (nxlf rfl) rfl rfl ?_
  refine op_toU (nxlf rfl) Tryd.underlying64 Tryd.underlying130 hj (by rw [hjs]; decide) rfl Bx (by simp) mem0 rfl ?_
  refine op_ext (nxla rfl) (.cons rfl .nil) (hE) rfl ?_
  refine op_fromU (nxlf rfl) Tryd.underlying130 Tryd.underlying64 hj rfl Bx (by kernel_rfl) mem0 rfl ?_
  refine op_nilChk (nxlf rfl) rfl rfl ?_
  refine op_fieldAddr (nxlf rfl) fl66_0 rfl rfl ?_
  refine op_store (nxl rfl) sz64 rfl rfl rfl rfl rfl Bx (by simp) sel0 (fun Nx Bx => ?_)
  simp only [setL, List.set] at Bx
  refine At.opsNil ?_
  refine At.retNE (L1 := [Nx]) rfl .nil rfl (.refl _) (.refl _) ?_
  exact ⟨rfl, Nx, rfl, Bx⟩
theorem FCopy_s (Bx : Blk Nx b 66 [.pointer (some ⟨b, 0, none⟩), sl]) : Fn Tryd.prog 60 #[.pointer (some ⟨b, 0, none⟩)] [Nx] [] (fun v L => v = .tuple #[] ∧ ∃ M, L = [M] ∧ Blk M b 66 [.pointer (some ⟨b, 0, none⟩), sl]) := by
  obtain ⟨j, hj, hjs⟩ := info_of_siz sz66
  refine Fn.enter (vs := [.pointer (some ⟨b, 0, none⟩)]) Tryd.func60 rfl rfl rfl ?_
  intro E R hR
  change At _ _ E [Nx, R] _
  refine At.seq fun K1 hk_1 => ?_
  refine At.region ?_
  refine op_move (nxlf rfl) rfl rfl ?_
  refine op_nilChk (nxlf rfl) rfl rfl ?_
  refine op_fieldAddr (nxlf rfl) fl66_0 rfl rfl ?_
  refine op_loadB (nxlf rfl) sc64 rfl Bx (by first | rfl) mem0 rfl ?_
  refine op_eqPN (nxlf rfl) Tryd.underlying64 rfl rfl rfl ?_
  refine At.opsNil ?_
  refine At.norm (hk_1 ?_)
  refine At.condF rfl ?_
  refine At.seq fun K2 hk_2 => ?_
  refine At.region ?_
  refine op_move (nxlf rfl) rfl rfl ?_
  refine op_nilChk (nxlf rfl) rfl rfl ?_
  refine op_fieldAddr (nxlf rfl) fl66_0 rfl rfl ?_
  refine op_loadB (nxlf rfl) sc64 rfl Bx (by first | rfl) mem0 rfl ?_
  refine op_move (nxlf rfl) rfl rfl ?_
  refine op_nePS (nxlf rfl) Tryd.underlying64 hj rfl rfl rfl ?_
  refine At.opsNil ?_
  refine At.norm (hk_2 ?_)
  refine At.condF rfl ?_
  refine At.skip ?_
  refine At.retNE (L1 := [Nx]) rfl .nil rfl (.refl _) (.refl _) ?_
  exact ⟨rfl, Nx, rfl, Bx⟩
theorem FCopy_f (hp : p = none ∨ p = some ⟨b, 0, none⟩) (Bx : Blk Nx b 66 [.pointer p, sl]) : Fn Tryd.prog 60 #[.pointer (some ⟨b, 0, none⟩)] [Nx] [] (fun v L => v = .tuple #[] ∧ ∃ M, L = [M] ∧ Blk M b 66 [.pointer (some ⟨b, 0, none⟩), sl]) := by
  rcases hp with rfl | rfl
  · exact FCopy_n Bx
  · exact FCopy_s Bx
/-- What a writing method leaves: the builder, and its bytes. -/
def BldP (b m : Nat) (l : List UInt8) (L : List Heaplet) : Prop := ∃ M K a c, L = [M, K] ∧ Blk M b 66 [.pointer (some ⟨b, 0, none⟩), .slice a m c] ∧ Row K 5 1 a m c (u8s l)
theorem FWByte_f (hp : p = none ∨ p = some ⟨b, 0, none⟩) (Bx : Blk Nx b 66 [.pointer p, .slice a n c]) (hr : Row Nr 5 1 a n c (u8s l)) (hn : n ≤ 35184372088832) (x : UInt8) : Fn Tryd.prog 30 #[.pointer (some ⟨b, 0, none⟩), .int .u8 (x.toNat : Int)] [Nx, Nr] [] (fun v L => v = .nilIface ∧ BldP b (n + 1) (l ++ [x]) L) := by
  refine Fn.enter (vs := [.pointer (some ⟨b, 0, none⟩), .int .u8 (x.toNat : Int)]) Tryd.func30 rfl rfl rfl ?_
  intro E R hR
  change At _ _ E [Nx, Nr, R] _
  refine At.seq fun K1 hk_1 => ?_
  refine At.region ?_
  refine op_assign (nxlf rfl) rfl rfl ?_
  refine At.opsNil ?_
  refine At.norm (hk_1 ?_)
  refine At.seq fun K2 hk_2 => ?_
  refine At.region ?_
  refine op_move (nxlf rfl) rfl rfl ?_
  refine op_call (nxl rfl) (.cons rfl .nil) (FCopy_f hp Bx) (F := [Nr, R]) Tryd.func60 rfl rfl (.refl _) (by simp) rfl ?_
  rintro v6 L6 ⟨rfl, Nx, rfl, Bx⟩
  change At _ _ _ [Nx, Nr, R] _
  refine At.opsNil ?_
  refine At.norm (hk_2 ?_)
  refine At.seq fun K3 hk_3 => ?_
  refine At.region ?_
  refine op_move (nxlf rfl) rfl rfl ?_
  refine op_move (nxlf rfl) rfl rfl ?_
  refine op_nilChk (nxlf rfl) rfl rfl ?_
  refine op_fieldAddr (nxlf rfl) fl66_1 rfl rfl ?_
  refine op_loadB (nxlf rfl) sc22 rfl Bx (by first | rfl) mem0 rfl ?_
  refine op_move (nxlf rfl) rfl rfl ?_
  refine op_lit (nxla rfl) Tryd.underlying22 ze5 sz5 (.cons rfl .nil) rfl rfl (by simp [Value.cells]) rfl rfl rfl (fun N13 a13 r13 => ?_)
  simp only [flatV, List.flatMap_cons, List.flatMap_nil, Value.cells, List.append_nil, List.cons_append, List.nil_append] at r13
  have s13 := r13.rsl
  change Row N13 _ 1 a13 1 1 (u8s [x]) at r13
  have s13 := r13.rsl
  refine op_append (nxl rfl) Tryd.underlying22 Tryd.underlying22 te5 rfl rfl hr s13 (by first | exact mem0 | exact mem1 | exact mem2 | exact mem3 | exact mem4 | exact mem5 | exact mem6 | exact mem7 | exact mem8 | exact mem9) (by first | exact one_u8s _ | exact one_u64s _ | exact one_u32s _ | (intro u hu; simp at hu; subst hu; rfl)) (by omega) (by omega) sel2 rfl (fun N14 a14 p14 r14 => ?_)
  have s14 := r14.rsl
  refine op_nilChk (nxlf rfl) rfl rfl ?_
  refine op_fieldAddr (nxlf rfl) fl66_1 rfl rfl ?_
  refine op_store (nxl rfl) sz22 rfl rfl rfl rfl rfl Bx (by simp) sel2 (fun Nx Bx => ?_)
  simp only [setL, List.set] at Bx
  refine At.opsNil ?_
  refine At.norm (hk_3 ?_)
  refine At.seq fun K4 hk_4 => ?_
  refine At.region ?_
  refine op_assign (nxlf rfl) rfl rfl ?_
  refine At.opsNil ?_
  refine At.norm (hk_4 ?_)
  refine At.ret (?_)
  refine At.sub (L' := [Nx, N14, R]) (.cons_cons _ (.cons_cons _ (.cons _ (.cons_cons _ (.slnil))))) ?_
  refine At.ret1 (L1 := [Nx, N14]) rfl (.tmp rfl .nil) (.refl _) (.refl _) ?_
  exact ⟨rfl, Nx, N14, a14, p14, rfl, Bx, by rw [show u8s (l ++ [x]) = u8s l ++ u8s [x] by simp [u8s]]; exact r14⟩
theorem FWStr_f (hp : p = none ∨ p = some ⟨b, 0, none⟩) (Bx : Blk Nx b 66 [.pointer p, .slice a n c]) (hr : Row Nr 5 1 a n c (u8s l)) (xs : List UInt8) (hn : n + xs.length ≤ 35184372088832) : Fn Tryd.prog 29 #[.pointer (some ⟨b, 0, none⟩), str xs] [Nx, Nr] [] (fun v L => v = .tuple #[.int .i64 (xs.length : Int), .nilIface] ∧ BldP b (n + xs.length) (l ++ xs) L) := by
  obtain ⟨i, hi, hz, hsz, hby, _, _⟩ := te5
  refine Fn.enter (vs := [.pointer (some ⟨b, 0, none⟩), str xs]) Tryd.func29 rfl rfl rfl ?_
  intro E R hR
  change At _ _ E [Nx, Nr, R] _
  refine At.seq fun K1 hk_1 => ?_
  refine At.region ?_
  refine op_assign (nxlf rfl) rfl rfl ?_
  refine op_assign (nxlf rfl) rfl rfl ?_
  refine At.opsNil ?_
  refine At.norm (hk_1 ?_)
  refine At.seq fun K2 hk_2 => ?_
  refine At.region ?_
  refine op_move (nxlf rfl) rfl rfl ?_
  refine op_call (nxl rfl) (.cons rfl .nil) (FCopy_f hp Bx) (F := [Nr, R]) Tryd.func60 rfl rfl (.refl _) (by simp) rfl ?_
  rintro v7 L7 ⟨rfl, Nx, rfl, Bx⟩
  change At _ _ _ [Nx, Nr, R] _
  refine At.opsNil ?_
  refine At.norm (hk_2 ?_)
  refine At.seq fun K3 hk_3 => ?_
  refine At.region ?_
  refine op_move (nxlf rfl) rfl rfl ?_
  refine op_move (nxlf rfl) rfl rfl ?_
  refine op_nilChk (nxlf rfl) rfl rfl ?_
  refine op_fieldAddr (nxlf rfl) fl66_1 rfl rfl ?_
  refine op_loadB (nxlf rfl) sc22 rfl Bx (by first | rfl) mem0 rfl ?_
  refine op_move (nxlf rfl) rfl rfl ?_
  refine op_appendS (nxl rfl) Tryd.underlying22 Tryd.underlying9 hi hz hsz hby rfl rfl hr (by omega) sel1 rfl (fun N14 a14 p14 r14 => ?_)
  refine op_nilChk (nxlf rfl) rfl rfl ?_
  refine op_fieldAddr (nxlf rfl) fl66_1 rfl rfl ?_
  refine op_store (nxl rfl) sz22 rfl rfl rfl rfl rfl Bx (by simp) sel1 (fun Nx Bx => ?_)
  simp only [setL, List.set] at Bx
  refine At.opsNil ?_
  refine At.norm (hk_3 ?_)
  refine At.seq fun K4 hk_4 => ?_
  refine At.region ?_
  refine op_move (nxlf rfl) rfl rfl ?_
  refine op_lenStr (nxlf rfl) Tryd.underlying9 rfl rfl ?_
  refine op_assign (nxlf rfl) rfl rfl ?_
  refine op_assign (nxlf rfl) rfl rfl ?_
  refine At.opsNil ?_
  refine At.norm (hk_4 ?_)
  refine At.ret (?_)
  refine At.retN (L1 := [Nx, N14]) rfl (.tmp rfl (.tmp rfl .nil)) rfl (.refl _) (.refl _) ?_
  exact ⟨rfl, Nx, N14, a14, p14, rfl, Bx, by rw [show u8s (l ++ xs) = u8s l ++ u8s xs by simp [u8s]]; exact r14⟩
theorem FString_f (Bx : Blk Nx b 66 [q, .slice a n c]) (hr : Row Nr 5 1 a n c (u8s l)) (h0 : 0 < n) : Fn Tryd.prog 31 #[.pointer (some ⟨b, 0, none⟩)] [Nx, Nr] [] (fun v L => v = str l ∧ L = []) := by
  have hc1 := hr.2.1
  have hc2 : c ≤ 9223372036854775807 := hr.2.2.1
  obtain ⟨g, rfl⟩ : ∃ g, a = some ⟨g, 0, none⟩ := by
    rcases hr.2.2.2 with ⟨_, h, _⟩ | ⟨g, _, h, _⟩
    · omega
    · exact ⟨g, h⟩
  refine Fn.enter (vs := [.pointer (some ⟨b, 0, none⟩)]) Tryd.func31 rfl rfl rfl ?_
  intro E R hR
  change At _ _ E [Nx, Nr, R] _
  refine At.seq fun K1 hk_1 => ?_
  refine At.region ?_
  refine op_assign (nxlf rfl) rfl rfl ?_
  refine At.opsNil ?_
  refine At.norm (hk_1 ?_)
  refine At.seq fun K2 hk_2 => ?_
  refine At.drawn [10] [0,1,2,3,5,6,7,8,9,4,10,11] (by kernel_rfl) (by kernel_rfl) ?_
  refine op_move (nxof rfl rfl rfl (by kernel_rfl)) rfl rfl ?_
  refine op_nilChk (nxof rfl rfl rfl (by kernel_rfl)) rfl rfl ?_
  refine op_fieldAddr (nxof rfl rfl rfl (by kernel_rfl)) fl66_1 rfl rfl ?_
  refine op_loadB (nxof rfl rfl rfl (by kernel_rfl)) sc22 rfl Bx (by first | rfl) mem0 rfl ?_
  refine op_move (nxof rfl rfl rfl (by kernel_rfl)) rfl rfl ?_
  refine op_nilChk (nxof rfl rfl rfl (by kernel_rfl)) rfl rfl ?_
  refine op_fieldAddr (nxof rfl rfl rfl (by kernel_rfl)) fl66_1 rfl rfl ?_
  refine op_loadB (nxof rfl rfl rfl (by kernel_rfl)) sc22 rfl Bx (by first | rfl) mem0 rfl ?_
  refine op_lenS (nxof rfl rfl rfl (by kernel_rfl)) se22 rfl rfl ?_
  -- an operation that writes, not last
  refine op_sliceData (nxoa rfl rfl rfl) rfl (by omega) rfl ?_
  refine op_unsafeStr (nxos rfl rfl rfl rfl) Tryd.underlying100 (by kernel_rfl) rfl rfl hr h0 (by omega) sel1 rfl ?_
  refine op_assign (nxof rfl rfl rfl (by kernel_rfl)) rfl rfl ?_
  refine At.oneNil ?_
  refine At.norm (hk_2 ?_)
  refine At.ret (?_)
  refine At.sub (L' := [R]) (.cons _ (.cons_cons _ (.slnil))) ?_
  refine At.ret1 (L1 := []) rfl (.tmp rfl .nil) (.refl _) (.refl _) ?_
  exact ⟨rfl, rfl⟩
end
end Go.Proofs.YtlkjfbfenpkmhaaDoor
/- Helps: contracts out of the kit's form, strings joined, quarrykeep.Twin. No condition. -/
namespace Go.Proofs.YtlkjfbfenpkmhaaDoor
set_option linter.unusedVariables false
set_option linter.unusedSimpArgs false
open Go Go.RowKit
theorem Fn.of_val {P : Program} {f : FuncId} {args : Array Value} {Lr : List Heaplet} {X : Value} (h : ∀ w, (∀ N ∈ Lr, N.le (whole w)) → Calls P f args w (Ret w fun v _ => v = X)) : Fn P f args [] Lr (fun v L => v = X ∧ L = []) :=
  Fn.of_ret h fun _ _ _ hv _ => ⟨[], ⟨hv, rfl⟩, fun N hN => absurd hN List.not_mem_nil, .nil⟩
theorem Fn.of_same0 {P : Program} {f : FuncId} {args : Array Value} {X : Value} (h : ∀ w, Calls P f args w fun e w' => e = .returned X ∧ w' = w) : Fn P f args [] [] (fun v L => v = X ∧ L = []) :=
  Fn.of_val fun w _ => (h w).mono fun e w' ⟨he, hw⟩ => by subst he; subst hw; exact ⟨_, rfl, rfl, Below.refl _ _⟩
theorem Fn.of_alloc {P : Program} {f : FuncId} {args : Array Value} {Lr : List Heaplet} {X : Value} {o : Obj} (h : ∀ w, (∀ N ∈ Lr, N.le (whole w)) → Calls P f args w fun e w' => e = .returned X ∧ w' = w.alloc o) : Fn P f args [] Lr (fun v L => v = X ∧ L = []) :=
  Fn.of_val fun w hr => (h w hr).mono fun e w' ⟨he, hw⟩ => by subst he; subst hw; exact ⟨_, rfl, rfl, (Below.refl _ _).alloc (Nat.le_refl _) _⟩
section
variable {P : Program} {n : Nat} {l : List (Nat × Value)} {E : World} {L Ls : List Heaplet} {X Y : Act → World → Prop} {d : Nat} {t t' ty : TypeId} {x y : Operand}
theorem bytes_join (a b : List UInt8) : (⟨a.toArray⟩ ++ ⟨b.toArray⟩ : ByteArray) = ⟨(a ++ b).toArray⟩ := by
  apply ByteArray.ext
  simp
theorem op_addS {a b : List UInt8} {pos : _} {aft : _} {g : _} (s : NxF P n l E L Ls ⟨some d, .binOp .add t x y t', ty, pos, aft, g⟩ X Y) (hx : ev l x = some (str a)) (hy : ev l y = some (str b)) (hl : a.length + b.length ≤ 9223372036854775807) (hn : Nat.ble (d + 1) n = true) (h : At n ((d, str (a ++ b)) :: l) E L Y) : At n l E L X :=
  op_bin s hx hy (fun w => eqGuard_string w) (fun w => by
    have e : ¬ (((⟨a.toArray⟩ : ByteArray).size + (⟨b.toArray⟩ : ByteArray).size : Nat) : Int) > IntKind.i64.max := by
      have e1 : (⟨a.toArray⟩ : ByteArray).size = a.length := rfl
      have e2 : (⟨b.toArray⟩ : ByteArray).size = b.length := rfl
      have e3 : IntKind.i64.max = 9223372036854775807 := rfl
      rw [e1, e2, e3]; omega
    simp only [str, binOp, Op.stringOp]
    rw [if_neg e, bytes_join]; rfl) hn h
end
theorem KTwin_f {N : Heaplet} {ao : Option Addr} {n cap : Nat} {l : List UInt8} (h : RSl N 1 ao n cap (u8s l)) (m : Nat) (q : Int) (hq : q = (m : Int)) (hm : m ≤ 140737488351232) :
    Fn Tryd.prog 8 #[.slice ao n cap, .int .i64 q] [] [N] (fun v L => ∃ M a c, v = .slice a (l.take m).length c ∧ L = [M] ∧ Row M 5 1 a (l.take m).length c (u8s (l.take m))) := by
  have hlen := h.len8
  have hcap := h.cap63
  refine Fn.enter (vs := [.slice ao n cap, .int .i64 q]) Tryd.func8 rfl rfl rfl ?_
  intro E R hR
  have h := h.le (hR N (by simp))
  change At _ _ E [R] _
  refine At.seq fun K1 hk_1 => ?_
  refine At.region ?_
  refine op_assign (nxlf rfl) rfl rfl ?_
  refine At.opsNil ?_
  refine At.norm (hk_1 ?_)
  refine At.seq fun K2 hk_2 => ?_
  refine At.seq fun K3 hk_3 => ?_
  refine At.region ?_
  refine op_move (nxlf rfl) rfl rfl ?_
  refine op_lenS (nxlf rfl) se22 rfl rfl ?_
  refine op_move (nxlf rfl) rfl rfl ?_
  refine op_gtr (nxlf rfl) rfl rfl rfl ?_
  refine At.opsNil ?_
  refine At.norm (hk_3 ?_)
  refine At.condP rfl (fun c8 => ?_) (fun c8 => ?_)
  · refine At.region ?_
    refine op_move (nxlf rfl) rfl rfl ?_
    refine op_move (nxlf rfl) rfl rfl ?_
    refine op_slice0 (nxlf rfl) se22 rfl (.some rfl (show _ = (((m : Nat)) : Int) from by omega)) .none (by omega) (by omega) (by simp) rfl ?_
    have s11 := h.take8 (hi := m) (m := cap) (by omega) (by omega) (by omega)
    refine op_assign (nxlf rfl) rfl rfl ?_
    refine At.opsNil ?_
    refine At.norm (hk_2 ?_)
    refine At.seq fun K4 hk_4 => ?_
    refine At.region ?_
    refine op_lit (nxla rfl) Tryd.underlying22 ze5 sz5 .nil rfl rfl (by simp [Value.cells]) rfl rfl rfl (fun N12 a12 r12 => ?_)
    simp only [flatV, List.flatMap_cons, List.flatMap_nil, Value.cells, List.append_nil, List.cons_append, List.nil_append] at r12
    have s12 := r12.rsl
    refine op_move (nxlf rfl) rfl rfl ?_
    refine op_append (nxl rfl) Tryd.underlying22 Tryd.underlying22 te5 rfl rfl r12 (by assumption) (by first | exact mem0 | exact mem1 | exact mem2 | exact mem3 | exact mem4 | exact mem5 | exact mem6 | exact mem7 | exact mem8 | exact mem9) (by first | exact one_u8s _ | exact one_u64s _ | exact one_u32s _ | (intro u hu; simp at hu; subst hu; rfl)) (by omega) (by omega) sel0 rfl (fun N14 a14 p14 r14 => ?_)
    have s14 := r14.rsl
    refine op_assign (nxlf rfl) rfl rfl ?_
    refine At.opsNil ?_
    refine At.norm (hk_4 ?_)
    refine At.ret (?_)
    refine At.ret1 (L1 := [N14]) rfl (.tmp rfl .nil) (.refl _) (.refl _) ?_
    rw [List.nil_append, Nat.zero_add] at r14
    exact ⟨N14, a14, p14, by rw [List.length_take, hlen, Nat.min_eq_left (by omega), Nat.zero_add], rfl, by rw [List.length_take, hlen, Nat.min_eq_left (by omega)]; exact r14⟩
  · refine At.skip ?_
    refine At.norm (hk_2 ?_)
    refine At.seq fun K5 hk_5 => ?_
    refine At.region ?_
    refine op_lit (nxla rfl) Tryd.underlying22 ze5 sz5 .nil rfl rfl (by simp [Value.cells]) rfl rfl rfl (fun N12 a12 r12 => ?_)
    simp only [flatV, List.flatMap_cons, List.flatMap_nil, Value.cells, List.append_nil, List.cons_append, List.nil_append] at r12
    have s12 := r12.rsl
    refine op_move (nxlf rfl) rfl rfl ?_
    refine op_append (nxl rfl) Tryd.underlying22 Tryd.underlying22 te5 rfl rfl r12 (by assumption) (by first | exact mem0 | exact mem1 | exact mem2 | exact mem3 | exact mem4 | exact mem5 | exact mem6 | exact mem7 | exact mem8 | exact mem9) (by first | exact one_u8s _ | exact one_u64s _ | exact one_u32s _ | (intro u hu; simp at hu; subst hu; rfl)) (by omega) (by omega) sel0 rfl (fun N14 a14 p14 r14 => ?_)
    have s14 := r14.rsl
    refine op_assign (nxlf rfl) rfl rfl ?_
    refine At.opsNil ?_
    refine At.norm (hk_5 ?_)
    refine At.ret (?_)
    refine At.ret1 (L1 := [N14]) rfl (.tmp rfl .nil) (.refl _) (.refl _) ?_
    rw [List.nil_append, Nat.zero_add] at r14
    have e : l.take m = l := List.take_of_length_le (by omega)
    exact ⟨N14, a14, p14, by rw [e, hlen, Nat.zero_add], rfl, by rw [e, hlen]; exact r14⟩
end Go.Proofs.YtlkjfbfenpkmhaaDoor
/- hexa.Text and the reference's: bytes as hex digits. Condition: at most 2^40 bytes. -/
namespace Go.Proofs.YtlkjfbfenpkmhaaDoor
set_option linter.unusedVariables false
set_option linter.unusedSimpArgs false
open Go Go.RowKit
def hexD : List UInt8 := [48, 49, 50, 51, 52, 53, 54, 55, 56, 57, 97, 98, 99, 100, 101, 102]
/-- The two digits of a byte. -/
def hexB (b : UInt8) : List UInt8 := [hexD.getD (b.toNat / 16) 0, hexD.getD (b.toNat % 16) 0]
def hexL (l : List UInt8) : List UInt8 := l.flatMap hexB
def hexT (l : List UInt8) : List UInt8 := 48 :: 120 :: hexL l
theorem hexL_len (l : List UInt8) : (hexL l).length = 2 * l.length := by
  induction l with
  | nil => rfl
  | cons b t ih => rw [hexL, List.flatMap_cons, List.length_append]; change 2 + (hexL t).length = _; rw [ih, List.length_cons]; omega
theorem hexT_len (l : List UInt8) : (hexT l).length = 2 * l.length + 2 := by rw [hexT, List.length_cons, List.length_cons, hexL_len]
theorem hexL_take {l : List UInt8} {k : Nat} (h : k < l.length) : hexL (l.take (k + 1)) = hexL (l.take k) ++ hexB (l.getD k 0) := by
  have e : l.take (k + 1) = l.take k ++ [l.getD k 0] := by
    rw [List.take_add_one, List.getD_eq_getElem?_getD, List.getElem?_eq_getElem h]; rfl
  rw [e]
  simp [hexL, List.flatMap_append]
theorem shr4 : ∀ n : Nat, n < 256 → (n : Int) / 2 ^ (min (4 : Int).toNat IntKind.u8.bits) = ((n / 16 : Nat) : Int) := by
  intro n h
  show (n : Int) / 2 ^ 4 = _
  omega
theorem and15 : ∀ n : Nat, n < 256 → bits .and .u8 (n : Int) 15 = ((n % 16 : Nat) : Int) := by decide +kernel
theorem hexD_len : hexD.length = 16 := rfl
section
variable {N : Heaplet} {ao : Option Addr} {n cap : Nat} {l : List UInt8}
set_option maxRecDepth 100000 in
theorem FText_f (h : RSl N 1 ao n cap (u8s l)) (hn : n ≤ 1099511627776) : Fn Tryd.prog 9 #[.slice ao n cap] [] [N] (fun v L => v = str (hexT l) ∧ L = []) := by
  have hlen := h.len8
  refine Fn.enter (vs := [.slice ao n cap]) Tryd.func9 rfl rfl rfl ?_
  intro E R hR
  have h := h.le (hR N (by simp))
  change At _ _ E [R] _
  refine At.seq fun K1 hk_1 => ?_
  refine At.region ?_
  refine op_assign (nxlf rfl) rfl rfl ?_
  refine At.opsNil ?_
  refine At.norm (hk_1 ?_)
  refine At.seq fun K2 hk_2 => ?_
  refine At.region ?_
  refine op_alloc (nxla rfl) ze66 rfl (fun N3 b3 B3 => ?_)
  change Blk N3 b3 _ [.pointer none, .slice none 0 0] at B3
  refine At.opsNil ?_
  refine At.norm (hk_2 ?_)
  refine At.seq fun K3 hk_3 => ?_
  refine At.region ?_
  refine At.empty ?_
  refine At.perm sel2 ?_
  refine At.perm sel1 ?_
  refine At.perm sel2 ?_
  refine op_call (nxl rfl) (.cons rfl (.cons rfl .nil)) (FWStr_f (.inl rfl) B3 (show Row nilH 5 1 none 0 0 (u8s []) from Row.nil _ _ _) [48, 120] (by decide)) (F := [R]) Tryd.func29 rfl rfl (.refl _) (by simp) rfl ?_
  rintro v6 L6 ⟨rfl, N3, M6, a6, c6, rfl, B3, r6⟩
  change At _ _ _ [N3, M6, R] _
  refine At.opsNil ?_
  refine At.norm (hk_3 ?_)
  refine At.seq fun K4 hk_4 => ?_
  refine At.seq fun K5 hk_5 => ?_
  refine At.region ?_
  refine op_move (nxlf rfl) rfl rfl ?_
  refine op_lenS (nxlf rfl) se22 rfl rfl ?_
  refine op_move (nxlf rfl) rfl rfl ?_
  refine At.opsNil ?_
  refine At.norm (hk_5 ?_)
  refine At.block ?_
  refine At.loop (fun fr_ hp_ ms_ => ∃ (k m : Nat) (a : Option Addr) (c : Nat) (Na N3 : Heaplet), fr_ = [(3, .pointer (some ⟨b3, 0, none⟩)), (7, .slice ao n cap), (8, .int .i64 (n : Int)), (9, .int .i64 (k : Int))] ∧ hp_ = [N3, Na, R] ∧ n - k = ms_ ∧ (k ≤ n) ∧ (m = 2 * k + 2) ∧ (Blk N3 b3 66 [.pointer (some ⟨b3, 0, none⟩), .slice a m c]) ∧ (Row Na 5 1 a m c (u8s (hexT (l.take k))))) ?_ (.refl _) ⟨0, _, a6, c6, M6, N3, rfl, rfl, rfl, Nat.zero_le _, rfl, B3, r6⟩ ?_
  · exact .cons (by first | exact lkI rfl (by omega) | rfl) (.cons (by first | exact lkI rfl (by omega) | rfl) (.cons (by first | exact lkI rfl (by omega) | rfl) (.cons (by first | exact lkI rfl (by omega) | rfl) .nil)))
  rintro _ _ _ ⟨k, m, a, c, Na, N3, rfl, rfl, rfl, hk, hm, B3, ra⟩
  refine At.seq fun K6 hk_6 => ?_
  refine At.region ?_
  refine op_lss (nxlf rfl) rfl rfl rfl ?_
  refine At.opsNil ?_
  refine At.norm (hk_6 ?_)
  refine At.seq fun K7 hk_7 => ?_
  refine At.condP rfl (fun c10 => ?_) (fun c10 => ?_)
  · refine At.skip ?_
    refine At.norm (hk_7 ?_)
    refine At.seq fun K8 hk_8 => ?_
    refine At.block ?_
    refine At.seq fun K9 hk_9 => ?_
    refine At.region ?_
    refine op_idx1 (nxlf rfl) se22 rfl rfl h (show _ = (((k : Nat)) : Int) from by omega) (by omega) rfl ?_
    refine op_loadE (nxlf rfl) sc5 rfl h (by first | exact get8 (by omega) | exact get64 (by omega) | exact get32 (by omega)) (by first | exact mem0 | exact mem1 | exact mem2 | exact mem3 | exact mem4 | exact mem5 | exact mem6 | exact mem7 | exact mem8 | exact mem9) rfl ?_
    have hx := (l.getD k 0).toNat_lt
    refine op_assign (nxlf rfl) rfl rfl ?_
    refine At.opsNil ?_
    refine At.norm (hk_9 ?_)
    refine At.seq fun K10 hk_10 => ?_
    refine At.region ?_
    refine op_move (nxlf rfl) rfl rfl ?_
    refine op_shrW (nxlf rfl) rfl rfl (by omega) (by omega) rfl ?_
    rw [shr4 _ hx]
    refine op_idxS (bs := hexD) (nxlf rfl) Tryd.underlying9 rfl rfl (show _ = ((((l.getD k 0).toNat / 16 : Nat)) : Int) from by omega) (by rw [hexD_len]; omega) rfl ?_
    refine op_call (nxl rfl) (.cons rfl (.cons rfl .nil)) (FWByte_f (.inr rfl) B3 ra (by omega) (hexD.getD ((l.getD k 0).toNat / 16) 0)) (F := [R]) Tryd.func30 rfl rfl (.refl _) (by simp) rfl ?_
    rintro v16 L16 ⟨rfl, N3, N16, a16, c16, rfl, B3, r16⟩
    change At _ _ _ [N3, N16, R] _
    refine At.opsNil ?_
    refine At.norm (hk_10 ?_)
    refine At.region ?_
    refine op_move (nxlf rfl) rfl rfl ?_
    refine op_bits (by simp) (nxlf rfl) rfl rfl rfl ?_
    rw [and15 _ hx]
    refine op_idxS (bs := hexD) (nxlf rfl) Tryd.underlying9 rfl rfl (show _ = ((((l.getD k 0).toNat % 16 : Nat)) : Int) from by omega) (by rw [hexD_len]; omega) rfl ?_
    refine op_call (nxl rfl) (.cons rfl (.cons rfl .nil)) (FWByte_f (.inr rfl) B3 r16 (by omega) (hexD.getD ((l.getD k 0).toNat % 16) 0)) (F := [R]) Tryd.func30 rfl rfl (.refl _) (by simp) rfl ?_
    rintro v20 L20 ⟨rfl, N3, N20, a20, c20, rfl, B3, r20⟩
    change At _ _ _ [N3, N20, R] _
    refine At.opsNil ?_
    refine At.inNorm ?_
    refine At.norm (hk_8 ?_)
    refine At.region ?_
    refine op_addI (nxlf rfl) rfl rfl (by omega) (by omega) rfl ?_
    refine op_move (nxlf rfl) rfl rfl ?_
    refine At.opsNil ?_
    refine At.norm ?_
    refine At.back ?_ (.refl _) ⟨k + 1, m + 1 + 1, a20, c20, N20, N3, rfl, rfl, rfl, by omega, by omega, B3, by rw [hexT, hexL_take (by omega)]; have e := r20; simp only [hexT, List.cons_append, List.append_assoc] at e; exact e⟩ ?_
    · exact .cons (by first | exact lkI rfl (by omega) | rfl) (.cons (by first | exact lkI rfl (by omega) | rfl) (.cons (by first | exact lkI rfl (by omega) | rfl) (.cons (by first | exact lkI rfl (by omega) | rfl) .nil)))
    · omega
  · refine At.exit (At.thenExit (At.thenExit (At.inHit ?_)))
    refine At.norm (hk_4 ?_)
    refine At.seq fun K11 hk_11 => ?_
    refine At.region ?_
    refine op_call (nxl rfl) (.cons rfl .nil) (FString_f B3 ra (by omega)) (F := [R]) Tryd.func31 rfl rfl (.refl _) (by simp) rfl ?_
    rintro v22 L22 ⟨rfl, rfl⟩
    change At _ _ _ [R] _
    refine op_assign (nxlf rfl) rfl rfl ?_
    refine At.opsNil ?_
    refine At.norm (hk_11 ?_)
    refine At.ret (?_)
    refine At.ret1 (L1 := []) rfl (.tmp rfl .nil) (.refl _) (.refl _) ?_
    exact ⟨by rw [List.take_of_length_le (by omega)], rfl⟩
end
end Go.Proofs.YtlkjfbfenpkmhaaDoor
/- Contracts of Go's library at this program, in plain words (written by the kit's tool lay-plain). No condition. -/
namespace Go.Proofs
set_option linter.unusedVariables false
set_option linter.unusedSimpArgs false
open Go.Shelf
def Tryd.lays137_ren : Go.Shelf.Ren := ⟨fun | 137 => 90 | 217 => 102 | 266 => 108 | n => n, fun | 9 => 9 | 5 => 5 | 3 => 3 | n => n, fun | n => n⟩
theorem Tryd.lays137 : Go.Proofs.Lays.n137 Tryd.prog Tryd.lays137_ren := {
  mixed := by kernel_rfl
  f137 := Tryd.func90.trans (congrArg some (by kernel_rfl))
  f217 := Tryd.func102.trans (congrArg some (by kernel_rfl))
  f266 := Tryd.func108.trans (congrArg some (by kernel_rfl))
  t3 := Tryd.underlying3
  a3 := Tryd.isAgg3
  z3 := Tryd.sizeOf3
  v3 := Tryd.zeroValue3
  t5 := Tryd.underlying5
  a5 := Tryd.isAgg5
  z5 := Tryd.sizeOf5
  v5 := Tryd.zeroValue5
  t9 := Tryd.underlying9
  a9 := Tryd.isAgg9
  z9 := Tryd.sizeOf9
  v9 := Tryd.zeroValue9 }
open Go.RowKit in
theorem Tryd.strings_IndexByte (s : ByteArray) (c : Int) (w : World) :
    Calls Tryd.prog 90 #[.string s, .int .u8 c] w fun e w' => e = .returned (.int .i64 (Lib.indexByte s.data.toList c.toNat.toUInt8)) ∧ w' = w := Any.strings_IndexByte Tryd.lays137 s c w
def Tryd.lays203_ren : Go.Shelf.Ren := ⟨fun | 203 => 56 | 262 => 77 | 313 => 88 | 274 => 99 | 275 => 100 | n => n, fun | 21 => 21 | 4 => 4 | 3 => 3 | 162 => 143 | 203 => 141 | 160 => 151 | 46 => 72 | 0 => 0 | 208 => 165 | 51 => 107 | 206 => 163 | n => n, fun | 13 => 0 | n => n⟩
theorem Tryd.lays203 : Go.Proofs.Lays.n203 Tryd.prog Tryd.lays203_ren := {
  mixed := by kernel_rfl
  f203 := Tryd.func56.trans (congrArg some (by kernel_rfl))
  f262 := Tryd.func77.trans (congrArg some (by kernel_rfl))
  f274 := Tryd.func99.trans (congrArg some (by kernel_rfl))
  f275 := Tryd.func100.trans (congrArg some (by kernel_rfl))
  f313 := Tryd.func88.trans (congrArg some (by kernel_rfl))
  t0 := Tryd.underlying0
  a0 := Tryd.isAgg0
  z0 := Tryd.sizeOf0
  v0 := Tryd.zeroValue0
  t3 := Tryd.underlying3
  a3 := Tryd.isAgg3
  z3 := Tryd.sizeOf3
  v3 := Tryd.zeroValue3
  t4 := Tryd.underlying4
  a4 := Tryd.isAgg4
  z4 := Tryd.sizeOf4
  v4 := Tryd.zeroValue4
  t21 := Tryd.underlying21
  a21 := Tryd.isAgg21
  z21 := Tryd.sizeOf21
  v21 := Tryd.zeroValue21
  t46 := Tryd.underlying72
  a46 := Tryd.isAgg72
  z46 := Tryd.sizeOf72
  v46 := Tryd.zeroValue72
  t51 := Tryd.underlying107
  a51 := Tryd.isAgg107
  z51 := Tryd.sizeOf107
  v51 := Tryd.zeroValue107
  t160 := Tryd.underlying151
  a160 := Tryd.isAgg151
  z160 := Tryd.sizeOf151
  v160 := Tryd.zeroValue151
  t162 := Tryd.underlying143
  a162 := Tryd.isAgg143
  z162 := Tryd.sizeOf143
  v162 := Tryd.zeroValue143
  t203 := Tryd.underlying141
  a203 := Tryd.isAgg141
  z203 := Tryd.sizeOf141
  v203 := Tryd.zeroValue141
  t206 := Tryd.underlying163
  a206 := Tryd.isAgg163
  z206 := Tryd.sizeOf163
  v206 := Tryd.zeroValue163
  t208 := Tryd.underlying165
  a208 := Tryd.isAgg165
  z208 := Tryd.sizeOf165
  v208 := Tryd.zeroValue165
  g13 := by kernel_rfl }
open Go.RowKit Go.Lib in
theorem Tryd.unicode_ToUpper (r : Int) (w : World) (h : r ≤ 127) :
    Calls Tryd.prog 56 #[.int .i32 r] w fun e w' => e = .returned (.int .i32 (Lib.toUpperR r)) ∧ w' = w := Any.unicode_ToUpper Tryd.lays203 r w h
def Tryd.lays204_ren : Go.Shelf.Ren := ⟨fun | 204 => 80 | 262 => 77 | 313 => 88 | 274 => 99 | 275 => 100 | n => n, fun | 21 => 21 | 4 => 4 | 3 => 3 | 162 => 143 | 203 => 141 | 160 => 151 | 46 => 72 | 0 => 0 | 208 => 165 | 51 => 107 | 206 => 163 | n => n, fun | 13 => 0 | n => n⟩
theorem Tryd.lays204 : Go.Proofs.Lays.n204 Tryd.prog Tryd.lays204_ren := {
  mixed := by kernel_rfl
  f204 := Tryd.func80.trans (congrArg some (by kernel_rfl))
  f262 := Tryd.func77.trans (congrArg some (by kernel_rfl))
  f274 := Tryd.func99.trans (congrArg some (by kernel_rfl))
  f275 := Tryd.func100.trans (congrArg some (by kernel_rfl))
  f313 := Tryd.func88.trans (congrArg some (by kernel_rfl))
  t0 := Tryd.underlying0
  a0 := Tryd.isAgg0
  z0 := Tryd.sizeOf0
  v0 := Tryd.zeroValue0
  t3 := Tryd.underlying3
  a3 := Tryd.isAgg3
  z3 := Tryd.sizeOf3
  v3 := Tryd.zeroValue3
  t4 := Tryd.underlying4
  a4 := Tryd.isAgg4
  z4 := Tryd.sizeOf4
  v4 := Tryd.zeroValue4
  t21 := Tryd.underlying21
  a21 := Tryd.isAgg21
  z21 := Tryd.sizeOf21
  v21 := Tryd.zeroValue21
  t46 := Tryd.underlying72
  a46 := Tryd.isAgg72
  z46 := Tryd.sizeOf72
  v46 := Tryd.zeroValue72
  t51 := Tryd.underlying107
  a51 := Tryd.isAgg107
  z51 := Tryd.sizeOf107
  v51 := Tryd.zeroValue107
  t160 := Tryd.underlying151
  a160 := Tryd.isAgg151
  z160 := Tryd.sizeOf151
  v160 := Tryd.zeroValue151
  t162 := Tryd.underlying143
  a162 := Tryd.isAgg143
  z162 := Tryd.sizeOf143
  v162 := Tryd.zeroValue143
  t203 := Tryd.underlying141
  a203 := Tryd.isAgg141
  z203 := Tryd.sizeOf141
  v203 := Tryd.zeroValue141
  t206 := Tryd.underlying163
  a206 := Tryd.isAgg163
  z206 := Tryd.sizeOf163
  v206 := Tryd.zeroValue163
  t208 := Tryd.underlying165
  a208 := Tryd.isAgg165
  z208 := Tryd.sizeOf165
  v208 := Tryd.zeroValue165
  g13 := by kernel_rfl }
open Go.RowKit Go.Lib in
theorem Tryd.unicode_ToLower (r : Int) (w : World) (h : r ≤ 127) :
    Calls Tryd.prog 80 #[.int .i32 r] w fun e w' => e = .returned (.int .i32 (Lib.toLowerR r)) ∧ w' = w := Any.unicode_ToLower Tryd.lays204 r w h
def Tryd.lays152_ren : Go.Shelf.Ren := ⟨fun | 152 => 81 | 137 => 90 | 119 => 91 | 224 => 92 | 225 => 93 | 217 => 102 | 266 => 108 | n => n, fun | 9 => 9 | 21 => 21 | 3 => 3 | 4 => 4 | 5 => 5 | 0 => 0 | 46 => 72 | n => n, fun | n => n⟩
theorem Tryd.lays152 : Go.Proofs.Lays.n152 Tryd.prog Tryd.lays152_ren := {
  mixed := by kernel_rfl
  f119 := Tryd.func91.trans (congrArg some (by kernel_rfl))
  f137 := Tryd.func90.trans (congrArg some (by kernel_rfl))
  f152 := Tryd.func81.trans (congrArg some (by kernel_rfl))
  f217 := Tryd.func102.trans (congrArg some (by kernel_rfl))
  f224 := Tryd.func92.trans (congrArg some (by kernel_rfl))
  f225 := Tryd.func93.trans (congrArg some (by kernel_rfl))
  f266 := Tryd.func108.trans (congrArg some (by kernel_rfl))
  t0 := Tryd.underlying0
  a0 := Tryd.isAgg0
  z0 := Tryd.sizeOf0
  v0 := Tryd.zeroValue0
  t3 := Tryd.underlying3
  a3 := Tryd.isAgg3
  z3 := Tryd.sizeOf3
  v3 := Tryd.zeroValue3
  t4 := Tryd.underlying4
  a4 := Tryd.isAgg4
  z4 := Tryd.sizeOf4
  v4 := Tryd.zeroValue4
  t5 := Tryd.underlying5
  a5 := Tryd.isAgg5
  z5 := Tryd.sizeOf5
  v5 := Tryd.zeroValue5
  t9 := Tryd.underlying9
  a9 := Tryd.isAgg9
  z9 := Tryd.sizeOf9
  v9 := Tryd.zeroValue9
  t21 := Tryd.underlying21
  a21 := Tryd.isAgg21
  z21 := Tryd.sizeOf21
  v21 := Tryd.zeroValue21
  t46 := Tryd.underlying72
  a46 := Tryd.isAgg72
  z46 := Tryd.sizeOf72
  v46 := Tryd.zeroValue72 }
open Go.RowKit Go.Lib in
theorem Tryd.strings_IndexRune_ascii (s : ByteArray) (r : Int) (w : World) (h0 : 0 ≤ r) (h1 : r < 128) :
    Calls Tryd.prog 81 #[.string s, .int .i32 r] w fun e w' => e = .returned (.int .i64 (Lib.indexByte s.data.toList r.toNat.toUInt8)) ∧ w' = w := Any.strings_IndexRune_ascii Tryd.lays152 s r w h0 h1
end Go.Proofs
