/- quarrykeep.Loan and quarrykeep.Book: their contracts, with what they hold as two parts of the memory. Condition: lists of at most 2^40 bytes, at most 2^30 that are lent. -/
import Derived.Test.YtohmmgggaegbbaaYOe
namespace Go.Proofs.Ytohmmgggaegbbaa
set_option linter.unusedVariables false
set_option linter.unusedSimpArgs false
open Go Go.RowKit
set_option maxRecDepth 100000 in
theorem BookClose_o {b0 : Nat} {N0 NF NW NK NI : Heaplet} {xs : List (List UInt8)} (h : BookO b0 N0 NF NW NK NI xs) :
    Fn Try.prog 30 #[.pointer (some ⟨b0, 0, none⟩)] [N0, NF, NW, NK, NI] [] (fun v L => v = .bool true ∧ L = []) := by
  obtain ⟨e0, pf, cf, pw, cw, vf, vw, q, B0, rF, rW, hI, hK, hq1, hq2, hb⟩ := h
  refine Fn.enter (vs := [.pointer (some ⟨b0, 0, none⟩)]) Try.func30 rfl rfl rfl ?_
  intro E R hR
  change At _ _ E [N0, NF, NW, NK, NI, R] _
  refine At.seq fun K1 hk_1 => ?_
  refine At.region ?_
  refine op_assign (nxlf rfl) rfl rfl ?_
  refine At.opsNil ?_
  refine At.norm (hk_1 ?_)
  refine At.seq fun K2 hk_2 => ?_
  refine At.region ?_
  refine op_move (nxlf rfl) rfl rfl ?_
  refine op_call (nxl rfl) (.cons rfl .nil) (BookStands_o B0 rF rW hI hK) (F := [R]) Try.func46 rfl rfl (.refl _) (by simp) rfl ?_
  rintro v4 L4 ⟨rfl, rfl⟩
  change At _ _ _ [N0, NF, NW, NK, NI, R] _
  skip
  refine op_move (nxlf rfl) rfl rfl ?_
  refine op_move (nxgf rfl rfl rfl rfl) rfl rfl ?_
  refine At.perm sel5 ?_
  refine At.perm sel4 ?_
  refine At.perm sel4 ?_
  refine At.perm sel5 ?_
  refine At.perm sel5 ?_
  refine At.perm sel5 ?_
  refine op_call (nxg rfl rfl rfl rfl) (.cons rfl .nil) (closeBytes_o B0 rF hI (by omega) hb) (F := [NW, NK, R]) Try.func47 rfl rfl (.refl _) (by simp) rfl ?_
  rintro v7 L7 ⟨rfl, rfl⟩
  change At _ _ _ [NW, NK, R] _
  skip
  refine op_pickT (nxlf rfl) rfl rfl rfl ?_
  refine op_assign (nxlf rfl) rfl rfl ?_
  refine At.opsNil ?_
  refine At.norm (hk_2 ?_)
  refine At.ret (?_)
  refine At.sub (L' := [R]) (.cons _ (.cons _ (.cons_cons _ (.slnil)))) ?_
  refine At.ret1 (L1 := []) rfl (.tmp rfl .nil) (.refl _) (.refl _) ?_
  exact ⟨rfl, rfl⟩
/-- A loan: its own memory, and what is lent. -/
def Loan (b0 : Nat) (NO NI : Heaplet) (k : Nat) : Prop := ∃ N0 NF NW NK fs, [N0, NF, NW, NK].Pairwise Apart ∧ NO = joinL [N0, NF, NW, NK] ∧ LoanO b0 N0 NF NW NK NI fs ∧ fs.length ≤ k
/-- A book: its own memory, and what it has taken in. -/
def Book (b0 : Nat) (NO NI : Heaplet) : Prop := ∃ N0 NF NW NK xs, [N0, NF, NW, NK].Pairwise Apart ∧ NO = joinL [N0, NF, NW, NK] ∧ BookO b0 N0 NF NW NK NI xs
theorem Loan.mono {b0 k k' : Nat} {NO NI : Heaplet} (h : Loan b0 NO NI k) (hk : k ≤ k') : Loan b0 NO NI k' := by
  obtain ⟨N0, NF, NW, NK, fs, h1, h2, h3, h4⟩ := h
  exact ⟨N0, NF, NW, NK, fs, h1, h2, h3, Nat.le_trans h4 hk⟩
theorem alone (N : Heaplet) : [N, nilH, nilH, nilH].Pairwise Apart ∧ N = joinL [N, nilH, nilH, nilH] := by
  refine ⟨?_, ?_⟩
  · simp only [List.pairwise_cons, List.mem_cons, List.not_mem_nil, or_false]
    refine ⟨fun M hM k => ?_, fun M hM k => .inl rfl, fun M hM k => .inl rfl, ?_⟩
    · rcases hM with rfl | rfl | rfl <;> exact .inr rfl
    · exact ⟨fun M hM => hM.elim, .nil⟩
  · funext k
    simp only [joinL, join2]
    cases N k <;> rfl
theorem Loan.start {b0 : Nat} {N : Heaplet} {e : TypeId} (h : Blk N b0 e [.slice none 0 0, .slice none 0 0]) : Loan b0 N nilH 0 := by
  obtain ⟨h1, h2⟩ := alone N
  exact ⟨N, nilH, nilH, nilH, [], h1, h2, ⟨e, none, 0, none, 0, [], [], h, Row.nil _ _ _, Row.nil _ _ _, Bag.nil _ _, Bags.nil _⟩, Nat.le_refl _⟩
theorem Book.start {b0 : Nat} {N : Heaplet} {e : TypeId} (h : Blk N b0 e [.slice none 0 0, .slice none 0 0, .slice none 0 0, .slice none 0 0, .int .i64 0]) : Book b0 N nilH := by
  obtain ⟨h1, h2⟩ := alone N
  exact ⟨N, nilH, nilH, nilH, [], h1, h2, ⟨e, none, 0, none, 0, [], [], 0, h, Row.nil _ _ _, Row.nil _ _ _, Bag.nil _ _, Bags.nil _, Nat.zero_le _, Nat.zero_le _, fun j x hx => by simp at hx⟩⟩
theorem Fn.drop1 {P : Program} {f : FuncId} {args : Array Value} {L0 Lr : List Heaplet} {x : Value} {A : Heaplet} (h : Fn P f args L0 Lr (fun v L => v = x ∧ L = [A])) : Fn P f args L0 Lr (fun v L => v = x ∧ L = []) := fun E w R hw hr =>
  (h E w R hw hr).mono fun _ _ ⟨v, L1, he, ⟨hv, hL⟩, hh⟩ => ⟨v, [], he, ⟨hv, rfl⟩, by subst hL; exact hh.drop (List.sublist_cons_self ..)⟩
theorem LoanBytes_f {b0 k : Nat} {NO NI N : Heaplet} {ao : Option Addr} {n cap : Nat} {l : List UInt8} (h : Loan b0 NO NI k) (hs : RSl N 1 ao n cap (u8s l)) (hn : n ≤ 1099511627776) (hk : k ≤ 1073741824) :
    Fn Try.prog 26 #[.pointer (some ⟨b0, 0, none⟩), .slice ao n cap] [NO, NI] [N] (fun v L => ∃ NO' NI' p c, v = .slice p n c ∧ L = [NO', NI'] ∧ Loan b0 NO' NI' (k + 1) ∧ NI.le NI' ∧ RSl NI' 1 p n c (u8s l)) := by
  obtain ⟨N0, NF, NW, NK, fs, h1, rfl, h3, h4⟩ := h
  refine Fn.pack (As := [N0, NF, NW, NK]) (L0 := [NI]) h1 (LoanBytes_o h3 hs hn (by omega)) ?_
  rintro v L ⟨N0', NF', NW', M1, M2, p, c, rfl, rfl, ha, hL, hr⟩
  exact ⟨[N0', NF', NW', join2 M2 NK], [join2 M1 NI], rfl, fun hp => ⟨_, _, p, c, rfl, rfl, ⟨N0', NF', NW', _, _, hp, rfl, hL, by simp; omega⟩, join2_right ha, hr.le join2_left⟩⟩
theorem LoanBack_f {b0 k : Nat} {NO NI : Heaplet} (h : Loan b0 NO NI k) : Fn Try.prog 29 #[.pointer (some ⟨b0, 0, none⟩)] [NO, NI] [] (fun v L => v = .bool true ∧ L = []) := by
  obtain ⟨N0, NF, NW, NK, fs, h1, rfl, h3, h4⟩ := h
  refine Fn.drop1 (A := nilH) (Fn.pack (As := [N0, NF, NW, NK]) (L0 := [NI]) h1 (LoanBack_o h3) ?_)
  rintro v L ⟨rfl, rfl⟩
  exact ⟨[], [], rfl, fun _ => ⟨rfl, rfl⟩⟩
theorem BookBytes_f {b0 : Nat} {NO NI M : Heaplet} {ao : Option Addr} {n cap : Nat} {l : List UInt8} (h : Book b0 NO NI) (hr : Row M 5 1 ao n cap (u8s l)) (hn : n ≤ 1099511627776) :
    Fn Try.prog 27 #[.pointer (some ⟨b0, 0, none⟩), .slice ao n cap] [NO, NI, M] [] (fun v L => v = .tuple #[] ∧ ∃ NO' NI', L = [NO', NI'] ∧ Book b0 NO' NI') := by
  obtain ⟨N0, NF, NW, NK, fs, h1, rfl, h3⟩ := h
  refine Fn.pack (As := [N0, NF, NW, NK]) (L0 := [NI, M]) h1 (BookBytes_o h3 hr hn) ?_
  rintro v L ⟨rfl, N0', NF', NW', NK', NI', xs', rfl, hL⟩
  exact ⟨[N0', NF', NW', NK'], [NI'], rfl, fun hp => ⟨rfl, _, _, rfl, N0', NF', NW', NK', xs', hp, rfl, hL⟩⟩
theorem BookClose_f {b0 : Nat} {NO NI : Heaplet} (h : Book b0 NO NI) : Fn Try.prog 30 #[.pointer (some ⟨b0, 0, none⟩)] [NO, NI] [] (fun v L => v = .bool true ∧ L = []) := by
  obtain ⟨N0, NF, NW, NK, fs, h1, rfl, h3⟩ := h
  refine Fn.drop1 (A := nilH) (Fn.pack (As := [N0, NF, NW, NK]) (L0 := [NI]) h1 (BookClose_o h3) ?_)
  rintro v L ⟨rfl, rfl⟩
  exact ⟨[], [], rfl, fun _ => ⟨rfl, rfl⟩⟩
end Go.Proofs.Ytohmmgggaegbbaa
