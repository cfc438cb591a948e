/- rlp.decode, rlp.Decode: what they give is the caller's own. No condition but that bytes are not longer than a machine holds. -/
import Derived.Test.YtohmmgggaegbbaaYW1
import Derived.Test.YtohmmgggaegbbaaYA9
namespace Go.Proofs.Ytohmmgggaegbbaa
set_option linter.unusedVariables false
set_option linter.unusedSimpArgs false
open Go Go.RowKit
theorem Hp.nilP {E w : World} {L : List Heaplet} (h : Hp E L w) : Hp E (nilH :: L) w := ⟨h.os, h.tape, h.output, fun N hN => by
  rcases List.mem_cons.1 hN with rfl | hN
  · intro k o hk; cases hk
  · exact h.sub N hN, by rw [List.pairwise_cons]; exact ⟨fun _ _ _ => .inl rfl, h.sep⟩⟩
def It.bytes : It → List UInt8
  | .mk _ bs _ => bs
def It.items : It → List It
  | .mk _ _ its => its
def slB (x : IV) : Value := .slice x.ab x.nb x.cb
/-- The item's bytes, its list, its items' bytes lie in blocks of their own. -/
def OwnTop (M : Heaplet) (t : It) (x : IV) : Prop := ∃ NB NR NS xs, [NB, NR, NS].Pairwise Apart ∧ M = joinL [NB, NR, NS] ∧ Row NB 5 1 x.ab x.nb x.cb (u8s t.bytes) ∧ Row NR 25 3 x.ai x.ni x.ci (cellsI xs) ∧ xs.length = x.ni ∧ Bag 5 NS (xs.map slB) (t.items.map It.bytes)
/-- No bytes in it are longer. -/
def Small (t : It) (n : Nat) : Prop := t.bytes.length ≤ n ∧ ∀ u ∈ t.items, u.bytes.length ≤ n
theorem join_nil (N : Heaplet) : join2 N nilH = N := by
  funext k
  simp only [join2]
  cases N k <;> rfl
theorem nil_join (N : Heaplet) : join2 nilH N = N := by
  funext k
  simp only [join2]
  rfl
theorem apart_nil (N : Heaplet) : Apart N nilH := fun _ => .inr rfl
theorem nil_apart (N : Heaplet) : Apart nilH N := fun _ => .inl rfl
theorem own_text {N : Heaplet} {p : List UInt8} {x : IV} (h : Row N 5 1 x.ab x.nb x.cb (u8s p)) (h0 : x.ni = 0) (h1 : x.ai = none) (h2 : x.ci = 0) (l : Bool) : OwnTop N (.mk l p []) x := by
  refine ⟨N, nilH, nilH, [], ?_, ?_, h, ?_, by rw [h0]; rfl, Bag.nil _ _⟩
  · simp only [List.pairwise_cons, List.mem_cons, List.not_mem_nil, or_false]
    exact ⟨fun M hM => by rcases hM with rfl | rfl <;> exact apart_nil _, fun M hM => nil_apart _, fun M hM => hM.elim, .nil⟩
  · simp only [joinL, join_nil, nil_join]
  · rw [h0, h1, h2]; exact Row.nil _ _ _
theorem own_list {Nr Ns : Heaplet} {done : List It} {xs : List IV} {ai : Option Addr} {ni ci : Nat} (ha : Apart Nr Ns) (hr : Row Nr 25 3 ai ni ci (cellsI xs)) (hn : xs.length = ni) (hb : Bag 5 Ns (xs.map slB) (done.map It.bytes)) : OwnTop (join2 Nr Ns) (.mk true [] done) ⟨true, none, 0, 0, ai, ni, ci⟩ := by
  refine ⟨nilH, Nr, Ns, xs, ?_, ?_, Row.nil _ _ _, hr, hn, hb⟩
  · simp only [List.pairwise_cons, List.mem_cons, List.not_mem_nil, or_false]
    exact ⟨fun M hM => nil_apart _, fun M hM => by subst hM; exact ha, fun M hM => hM.elim, .nil⟩
  · simp only [joinL, join_nil, nil_join]
theorem OwnTop.row {M : Heaplet} {t : It} {x : IV} (h : OwnTop M t x) : Row M 5 1 x.ab x.nb x.cb (u8s t.bytes) := by
  obtain ⟨NB, NR, NS, xs, h1, rfl, h3, _⟩ := h
  exact h3.le (le_joinL h1 (by simp))
theorem small_more {done : List It} {t : It} {n : Nat} (h : ∀ u ∈ done, u.bytes.length ≤ n) (ht : t.bytes.length ≤ n) : ∀ u ∈ done ++ [t], u.bytes.length ≤ n := by
  intro u hu
  rcases List.mem_append.1 hu with hu | hu
  · exact h u hu
  · rw [List.mem_singleton.1 hu]; exact ht
theorem Bag.more {Ns M : Heaplet} {done : List It} {xs : List IV} {t : It} {x : IV} (h : Bag 5 Ns (xs.map slB) (done.map It.bytes)) (hr : Row M 5 1 x.ab x.nb x.cb (u8s t.bytes)) (ha : Apart Ns M) : Bag 5 (join2 Ns M) ((xs ++ [x]).map slB) ((done ++ [t]).map It.bytes) := by
  have hl : t.bytes.length = x.nb := by have := hr.1; simpa using this
  have h2 : Row M 5 1 x.ab t.bytes.length x.cb (u8s t.bytes) := by rw [hl]; exact hr
  have := h.snoc h2 ha.symm
  rw [List.map_append, List.map_append]
  show Bag _ _ (xs.map slB ++ [slB x]) (done.map It.bytes ++ [t.bytes])
  rw [slB, ← hl]
  refine this.le ?_
  intro k o hk
  simp only [join2] at hk ⊢
  rcases ha k with h0 | h0
  · rw [h0]; rw [h0] at hk
    cases hm : M k with
    | none => rw [hm] at hk; cases hk
    | some o' => rw [hm] at hk; simpa using hk
  · rw [h0] at hk
    cases hn : Ns k with
    | none => rw [hn] at hk; cases hk
    | some o' => rw [hn] at hk; simpa using hk
/-- What decode tells. -/
def DecO (ao : Option Addr) (n cap : Nat) (b : List UInt8) (r : Except Nat (It × List UInt8)) (v : Value) (L : List Heaplet) : Prop :=
  (∃ t q M, ∃ x : IV, ∃ aq cq, r = .ok (t, q) ∧ v = .tuple #[.agg #[.bool x.l, .slice x.ab x.nb x.cb, .slice x.ai x.ni x.ci], .slice aq q.length cq, .int .i64 0] ∧ L = [M] ∧ ItN M t x ∧ OwnTop M t x ∧ Small t b.length ∧ ∀ N, RSl N 1 ao n cap (u8s b) → RSl N 1 aq q.length cq (u8s q)) ∨
  (∃ e : Nat, r = .error e ∧ v = .tuple #[.agg #[.bool false, .slice none 0 0, .slice none 0 0], .slice none 0 0, .int .i64 (e : Int)] ∧ L = [] ∧ e ≠ 0)
theorem decode_noneO {N : Heaplet} {ao : Option Addr} {n cap : Nat} {b : List UInt8} (h : RSl N 1 ao n cap (u8s b)) (hn : n ≤ 1099511627776) (hc : cutF b = none) (k : Nat) (q : Int) :
    Fn Try.prog 37 #[.slice ao n cap, .int .i64 q] [] [N] (DecO ao n cap b (decF k b)) := by
  have hd : decF k b = .error 2 := by cases k <;> simp [decF, hc]
  refine Fn.enter (vs := [.slice ao n cap, .int .i64 q]) Try.func37 rfl rfl rfl ?_
  intro E R hR
  have h := h.le (hR N (by simp))
  change At _ _ E [R] _
  refine At.seq fun K1 hk_1 => ?_
  refine At.region ?_
  refine op_alloc (nxla rfl) ze25 rfl (fun N4 b4 B4 => ?_)
  change Blk N4 b4 _ [.bool false, .slice none 0 0, .slice none 0 0] at B4
  refine op_assign (nxlf rfl) rfl rfl ?_
  refine op_assign (nxlf rfl) rfl rfl ?_
  refine At.opsNil ?_
  refine At.norm (hk_1 ?_)
  refine At.seq fun K2 hk_2 => ?_
  refine At.region ?_
  refine op_move (nxlf rfl) rfl rfl ?_
  refine op_callA (nxla rfl) (.cons rfl .nil) (cut_none h hn hc) Try.func39 rfl rfl (by simp) rfl ?_
  rintro v18 L18 ⟨rfl, rfl⟩
  change At _ _ _ [N4, R] _
  refine op_move (nxlf rfl) rfl rfl ?_
  refine op_extract (nxlf rfl) rfl rfl rfl ?_
  refine op_extract (nxlf rfl) rfl rfl rfl ?_
  refine op_assign (nxlf rfl) rfl rfl ?_
  refine op_assign (nxlf rfl) rfl rfl ?_
  refine At.opsNil ?_
  refine At.norm (hk_2 ?_)
  refine At.seq fun K3 hk_3 => ?_
  refine At.seq fun K4 hk_4 => ?_
  refine At.region ?_
  refine op_move (nxlf rfl) rfl rfl ?_
  refine op_eqNilT (nxlf rfl) (by kernel_rfl) rfl rfl ?_
  refine At.opsNil ?_
  refine At.norm (hk_4 ?_)
  refine At.condT rfl ?_
  refine At.seq fun K5 hk_5 => ?_
  refine At.region ?_
  refine op_build (out := [.bool false, .slice none 0 0, .slice none 0 0]) (nxlf rfl) ze25 pl25 .nil rfl rfl ?_
  refine op_store (nxl rfl) sz25 rfl rfl rfl rfl rfl B4 (by simp) sel0 (fun N4 B4 => ?_)
  simp only [setL, List.set] at B4
  refine op_assign (nxlf rfl) rfl rfl ?_
  refine op_assign (nxlf rfl) rfl rfl ?_
  refine At.opsNil ?_
  refine At.norm (hk_5 ?_)
  refine At.ret (At.thenRet (?_))
  refine At.retN (L1 := []) rfl (.cell rfl (res_agg (ds := [_, _, _]) ag25 B4 rfl rfl mem0) (.tmp rfl (.tmp rfl .nil))) rfl (.cons _ (.refl _)) (.refl _) ?_
  exact .inr ⟨2, hd, rfl, rfl, by decide⟩
theorem decode_textO {N : Heaplet} {ao : Option Addr} {n cap : Nat} {b p r : List UInt8} (h : RSl N 1 ao n cap (u8s b)) (hn : n ≤ 1099511627776) (hc : cutF b = some (false, p, r)) (k : Nat) (q : Int) :
    Fn Try.prog 37 #[.slice ao n cap, .int .i64 q] [] [N] (DecO ao n cap b (decF k b)) := by
  have hd : decF k b = .ok (.mk false p [], r) := by cases k <;> simp [decF, hc]
  have hlen := h.len8
  have hcl := (cutF_len hc).1
  refine Fn.enter (vs := [.slice ao n cap, .int .i64 q]) Try.func37 rfl rfl rfl ?_
  intro E R hR
  have h := h.le (hR N (by simp))
  change At _ _ E [R] _
  refine At.seq fun K1 hk_1 => ?_
  refine At.region ?_
  refine op_alloc (nxla rfl) ze25 rfl (fun N4 b4 B4 => ?_)
  change Blk N4 b4 _ [.bool false, .slice none 0 0, .slice none 0 0] at B4
  refine op_assign (nxlf rfl) rfl rfl ?_
  refine op_assign (nxlf rfl) rfl rfl ?_
  refine At.opsNil ?_
  refine At.norm (hk_1 ?_)
  refine At.seq fun K2 hk_2 => ?_
  refine At.region ?_
  refine op_move (nxlf rfl) rfl rfl ?_
  refine op_callA (nxla rfl) (.cons rfl .nil) (cut_some h hn hc) Try.func39 rfl rfl (by simp) rfl ?_
  rintro v18 L18 ⟨a1, c1, a2, c2, rfl, rfl, h1, h2⟩
  change At _ _ _ [N4, R] _
  refine op_move (nxlf rfl) rfl rfl ?_
  refine op_extract (nxlf rfl) rfl rfl rfl ?_
  refine op_extract (nxlf rfl) rfl rfl rfl ?_
  refine op_assign (nxlf rfl) rfl rfl ?_
  refine op_assign (nxlf rfl) rfl rfl ?_
  refine At.opsNil ?_
  refine At.norm (hk_2 ?_)
  refine At.seq fun K3 hk_3 => ?_
  refine At.seq fun K4 hk_4 => ?_
  refine At.region ?_
  refine op_move (nxlf rfl) rfl rfl ?_
  refine op_eqNilF (nxlf rfl) (by kernel_rfl) rfl rfl ?_
  refine At.opsNil ?_
  refine At.norm (hk_4 ?_)
  refine At.condF rfl ?_
  refine At.skip ?_
  refine At.norm (hk_3 ?_)
  refine At.seq fun K5 hk_5 => ?_
  refine At.seq fun K6 hk_6 => ?_
  refine At.region ?_
  refine op_move (nxlf rfl) rfl rfl ?_
  refine op_assertY (nxlf rfl) (by kernel_rfl) rfl rfl ?_
  refine op_move (nxlf rfl) rfl rfl ?_
  refine op_extract (nxlf rfl) rfl rfl rfl ?_
  refine op_extract (nxlf rfl) rfl rfl rfl ?_
  refine op_assign (nxlf rfl) rfl rfl ?_
  refine op_assign (nxlf rfl) rfl rfl ?_
  refine At.opsNil ?_
  refine At.norm (hk_6 ?_)
  refine At.seq fun K7 hk_7 => ?_
  refine At.region ?_
  refine op_move (nxlf rfl) rfl rfl ?_
  refine At.opsNil ?_
  refine At.norm (hk_7 ?_)
  refine At.condT rfl ?_
  refine At.seq fun K8 hk_8 => ?_
  refine At.region ?_
  refine op_move (nxlf rfl) rfl rfl ?_
  refine op_append0 (nxla rfl) Try.underlying22 Try.underlying82 te5 rfl rfl (by assumption) (by first | exact mem0 | exact mem1 | exact mem2 | exact mem3 | exact mem4 | exact mem5 | exact mem6 | exact mem7 | exact mem8 | exact mem9) (by first | exact one_u8s _ | exact one_u64s _ | exact one_u32s _ | (intro u hu; simp at hu; subst hu; rfl)) (by omega) (by omega) rfl (fun N31 a31 p31 r31 => ?_)
  have s31 := r31.rsl
  refine op_build (out := [.bool false, _, .slice none 0 0]) (nxlf rfl) ze25 pl25 (.cons rfl .nil) rfl rfl ?_
  refine op_move (nxlf rfl) rfl rfl ?_
  refine op_store (nxl rfl) sz25 rfl rfl rfl rfl rfl B4 (by simp) sel1 (fun N4 B4 => ?_)
  simp only [setL, List.set] at B4
  refine op_assign (nxlf rfl) rfl rfl ?_
  refine op_assign (nxlf rfl) rfl rfl ?_
  refine At.opsNil ?_
  refine At.norm (hk_8 ?_)
  refine At.ret (At.thenRet (?_))
  refine At.retN (L1 := [N31]) rfl (.cell rfl (res_agg (ds := [_, _, _]) ag25 B4 rfl rfl mem0) (.tmp rfl (.tmp rfl .nil))) rfl (.cons _ (.refl _)) (.refl _) ?_
  exact .inl ⟨_, _, N31, ⟨false, a31, p.length, p31, none, 0, 0⟩, a2, c2, hd, rfl, rfl, ItN.mk s31 (xs := []) (RSl.nil _ _) rfl, own_text r31 rfl rfl rfl _, ⟨by show p.length ≤ b.length; omega, fun u hu => absurd hu List.not_mem_nil⟩, h2⟩
theorem decode_deepO {N : Heaplet} {ao : Option Addr} {n cap : Nat} {b p r : List UInt8} (h : RSl N 1 ao n cap (u8s b)) (hn : n ≤ 1099511627776) (hc : cutF b = some (true, p, r)) :
    Fn Try.prog 37 #[.slice ao n cap, .int .i64 1024] [] [N] (DecO ao n cap b (decF 0 b)) := by
  have hd : decF 0 b = .error 7 := by simp [decF, hc]
  refine Fn.enter (vs := [.slice ao n cap, .int .i64 1024]) Try.func37 rfl rfl rfl ?_
  intro E R hR
  have h := h.le (hR N (by simp))
  change At _ _ E [R] _
  refine At.seq fun K1 hk_1 => ?_
  refine At.region ?_
  refine op_alloc (nxla rfl) ze25 rfl (fun N4 b4 B4 => ?_)
  change Blk N4 b4 _ [.bool false, .slice none 0 0, .slice none 0 0] at B4
  refine op_assign (nxlf rfl) rfl rfl ?_
  refine op_assign (nxlf rfl) rfl rfl ?_
  refine At.opsNil ?_
  refine At.norm (hk_1 ?_)
  refine At.seq fun K2 hk_2 => ?_
  refine At.region ?_
  refine op_move (nxlf rfl) rfl rfl ?_
  refine op_callA (nxla rfl) (.cons rfl .nil) (cut_some h hn hc) Try.func39 rfl rfl (by simp) rfl ?_
  rintro v18 L18 ⟨a1, c1, a2, c2, rfl, rfl, h1, h2⟩
  change At _ _ _ [N4, R] _
  refine op_move (nxlf rfl) rfl rfl ?_
  refine op_extract (nxlf rfl) rfl rfl rfl ?_
  refine op_extract (nxlf rfl) rfl rfl rfl ?_
  refine op_assign (nxlf rfl) rfl rfl ?_
  refine op_assign (nxlf rfl) rfl rfl ?_
  refine At.opsNil ?_
  refine At.norm (hk_2 ?_)
  refine At.seq fun K3 hk_3 => ?_
  refine At.seq fun K4 hk_4 => ?_
  refine At.region ?_
  refine op_move (nxlf rfl) rfl rfl ?_
  refine op_eqNilF (nxlf rfl) (by kernel_rfl) rfl rfl ?_
  refine At.opsNil ?_
  refine At.norm (hk_4 ?_)
  refine At.condF rfl ?_
  refine At.skip ?_
  refine At.norm (hk_3 ?_)
  refine At.seq fun K5 hk_5 => ?_
  refine At.seq fun K6 hk_6 => ?_
  refine At.region ?_
  refine op_move (nxlf rfl) rfl rfl ?_
  refine op_assertN (nxlf rfl) (by kernel_rfl) ze82 rfl rfl rfl ?_
  refine op_move (nxlf rfl) rfl rfl ?_
  refine op_extract (nxlf rfl) rfl rfl rfl ?_
  refine op_extract (nxlf rfl) rfl rfl rfl ?_
  refine op_assign (nxlf rfl) rfl rfl ?_
  refine op_assign (nxlf rfl) rfl rfl ?_
  refine At.opsNil ?_
  refine At.norm (hk_6 ?_)
  refine At.seq fun K7 hk_7 => ?_
  refine At.region ?_
  refine op_move (nxlf rfl) rfl rfl ?_
  refine At.opsNil ?_
  refine At.norm (hk_7 ?_)
  refine At.condF rfl ?_
  refine At.skip ?_
  refine At.norm (hk_5 ?_)
  refine At.seq fun K8 hk_8 => ?_
  refine At.seq fun K9 hk_9 => ?_
  refine At.region ?_
  refine op_move (nxlf rfl) rfl rfl ?_
  refine op_eql (nxlf rfl) rfl rfl rfl ?_
  refine At.opsNil ?_
  refine At.norm (hk_9 ?_)
  refine At.condP rfl (fun c35 => ?_) (fun c35 => ?_)
  · refine At.seq fun K10 hk_10 => ?_
    refine At.region ?_
    refine op_build (out := [.bool false, .slice none 0 0, .slice none 0 0]) (nxlf rfl) ze25 pl25 .nil rfl rfl ?_
    refine op_store (nxl rfl) sz25 rfl rfl rfl rfl rfl B4 (by simp) sel0 (fun N4 B4 => ?_)
    simp only [setL, List.set] at B4
    refine op_assign (nxlf rfl) rfl rfl ?_
    refine op_assign (nxlf rfl) rfl rfl ?_
    refine At.opsNil ?_
    refine At.norm (hk_10 ?_)
    refine At.ret (At.thenRet (?_))
    refine At.retN (L1 := []) rfl (.cell rfl (res_agg (ds := [_, _, _]) ag25 B4 rfl rfl mem0) (.tmp rfl (.tmp rfl .nil))) rfl (.cons _ (.refl _)) (.refl _) ?_
    exact .inr ⟨7, hd, rfl, rfl, by decide⟩
  · exact absurd rfl c35
theorem decode_itsO {N : Heaplet} {ao : Option Addr} {n cap : Nat} {b p r : List UInt8} (h : RSl N 1 ao n cap (u8s b)) (hn : n ≤ 1099511627776) (hc : cutF b = some (true, p, r)) (k : Nat) (q : Int) (hq : q + k + 1 = 1024) (hk0 : 0 ≤ q)
    (ih : ∀ (N : Heaplet) (ao : Option Addr) (n cap : Nat) (b : List UInt8) (q : Int), RSl N 1 ao n cap (u8s b) → n ≤ 1099511627776 → q + k = 1024 → 0 ≤ q → Fn Try.prog 37 #[.slice ao n cap, .int .i64 q] [] [N] (DecO ao n cap b (decF k b))) :
    Fn Try.prog 37 #[.slice ao n cap, .int .i64 q] [] [N] (DecO ao n cap b (decF (k + 1) b)) := by
  have hlen := h.len8
  have hcl := (cutF_len hc).1
  refine Fn.enter (vs := [.slice ao n cap, .int .i64 q]) Try.func37 rfl rfl rfl ?_
  intro E R hR
  have h := h.le (hR N (by simp))
  change At _ _ E [R] _
  refine At.seq fun K1 hk_1 => ?_
  refine At.region ?_
  refine op_alloc (nxla rfl) ze25 rfl (fun N4 b4 B4 => ?_)
  change Blk N4 b4 _ [.bool false, .slice none 0 0, .slice none 0 0] at B4
  refine op_assign (nxlf rfl) rfl rfl ?_
  refine op_assign (nxlf rfl) rfl rfl ?_
  refine At.opsNil ?_
  refine At.norm (hk_1 ?_)
  refine At.seq fun K2 hk_2 => ?_
  refine At.region ?_
  refine op_move (nxlf rfl) rfl rfl ?_
  refine op_callA (nxla rfl) (.cons rfl .nil) (cut_some h hn hc) Try.func39 rfl rfl (by simp) rfl ?_
  rintro v18 L18 ⟨a1, c1, a2, c2, rfl, rfl, h1, h2⟩
  change At _ _ _ [N4, R] _
  refine op_move (nxlf rfl) rfl rfl ?_
  refine op_extract (nxlf rfl) rfl rfl rfl ?_
  refine op_extract (nxlf rfl) rfl rfl rfl ?_
  refine op_assign (nxlf rfl) rfl rfl ?_
  refine op_assign (nxlf rfl) rfl rfl ?_
  refine At.opsNil ?_
  refine At.norm (hk_2 ?_)
  refine At.seq fun K3 hk_3 => ?_
  refine At.seq fun K4 hk_4 => ?_
  refine At.region ?_
  refine op_move (nxlf rfl) rfl rfl ?_
  refine op_eqNilF (nxlf rfl) (by kernel_rfl) rfl rfl ?_
  refine At.opsNil ?_
  refine At.norm (hk_4 ?_)
  refine At.condF rfl ?_
  refine At.skip ?_
  refine At.norm (hk_3 ?_)
  refine At.seq fun K5 hk_5 => ?_
  refine At.seq fun K6 hk_6 => ?_
  refine At.region ?_
  refine op_move (nxlf rfl) rfl rfl ?_
  refine op_assertN (nxlf rfl) (by kernel_rfl) ze82 rfl rfl rfl ?_
  refine op_move (nxlf rfl) rfl rfl ?_
  refine op_extract (nxlf rfl) rfl rfl rfl ?_
  refine op_extract (nxlf rfl) rfl rfl rfl ?_
  refine op_assign (nxlf rfl) rfl rfl ?_
  refine op_assign (nxlf rfl) rfl rfl ?_
  refine At.opsNil ?_
  refine At.norm (hk_6 ?_)
  refine At.seq fun K7 hk_7 => ?_
  refine At.region ?_
  refine op_move (nxlf rfl) rfl rfl ?_
  refine At.opsNil ?_
  refine At.norm (hk_7 ?_)
  refine At.condF rfl ?_
  refine At.skip ?_
  refine At.norm (hk_5 ?_)
  refine At.seq fun K8 hk_8 => ?_
  refine At.seq fun K9 hk_9 => ?_
  refine At.region ?_
  refine op_move (nxlf rfl) rfl rfl ?_
  refine op_eql (nxlf rfl) rfl rfl rfl ?_
  refine At.opsNil ?_
  refine At.norm (hk_9 ?_)
  refine At.condP rfl (fun c35 => ?_) (fun c35 => ?_)
  · exfalso; omega
  · refine At.skip ?_
    refine At.norm (hk_8 ?_)
    refine At.seq fun K10 hk_10 => ?_
    refine At.region ?_
    refine op_build (out := [_, .slice none 0 0, .slice none 0 0]) (nxlf rfl) ze25 pl25 (.cons rfl .nil) rfl rfl ?_
    refine op_alloc (nxla rfl) ze25 rfl (fun N11 b11 B11 => ?_)
    change Blk N11 b11 _ [.bool false, .slice none 0 0, .slice none 0 0] at B11
    refine op_store (nxl rfl) sz25 rfl rfl rfl rfl rfl B11 (by simp) sel0 (fun N11 B11 => ?_)
    simp only [setL, List.set] at B11
    refine At.opsNil ?_
    refine At.norm (hk_10 ?_)
    refine At.seq fun K11 hk_11 => ?_
    refine At.seq fun K12 hk_12 => ?_
    refine At.region ?_
    refine op_move (nxlf rfl) rfl rfl ?_
    refine op_assert1 (nxlf rfl) (by kernel_rfl) rfl rfl ?_
    refine op_assign (nxlf rfl) rfl rfl ?_
    refine At.opsNil ?_
    refine At.norm (hk_12 ?_)
    refine At.block ?_
    refine At.empty ?_
    refine At.empty ?_
    refine At.perm sel4 ?_
    refine At.perm sel1 ?_
    refine At.perm sel2 ?_
    refine At.perm sel3 ?_
    refine At.perm sel4 ?_
    refine At.loop (fun fr_ hp_ ms_ => ∃ (p' : List UInt8) (ac : Option Addr) (m cc : Nat) (done : List It) (xs : List IV) (ai : Option Addr) (ni ci : Nat) (N11 Nr Ns : Heaplet), fr_ = [(0, .slice ao n cap), (1, .int .i64 q), (4, .pointer (some ⟨b4, 0, none⟩)), (8, .slice a2 r.length c2), (11, .pointer (some ⟨b11, 0, none⟩)), (12, .slice ac m cc)] ∧ hp_ = [N4, N11, Nr, Ns, R] ∧ m = ms_ ∧ (RSl R 1 ac m cc (u8s p')) ∧ (Blk N11 b11 25 [.bool true, .slice none 0 0, .slice ai ni ci]) ∧ (Row Nr 25 3 ai ni ci (cellsI xs)) ∧ (xs.length = ni) ∧ (ItsN Ns done xs) ∧ (Bag 5 Ns (xs.map slB) (done.map It.bytes)) ∧ (∀ u ∈ done, u.bytes.length ≤ p.length) ∧ (itF (decF k) p = exMap (done ++ ·) (itF (decF k) p')) ∧ (ni + m ≤ p.length)) ?_ (.refl _) ⟨p, a1, p.length, c1, [], [], none, 0, 0, N11, nilH, nilH, rfl, rfl, rfl, h1, B11, Row.nil _ _ _, rfl, rfl, Bag.nil _ _, fun u hu => absurd hu List.not_mem_nil, by cases itF (decF k) p <;> rfl, by omega⟩ ?_
    · exact .cons (by first | exact lkI rfl (by omega) | rfl) (.cons (by first | exact lkI rfl (by omega) | rfl) (.cons (by first | exact lkI rfl (by omega) | rfl) (.cons (by first | exact lkI rfl (by omega) | rfl) (.cons (by first | exact lkI rfl (by omega) | rfl) (.cons (by first | exact lkI rfl (by omega) | rfl) .nil)))))
    rintro _ _ _ ⟨p', ac, m, cc, done, xs, ai, ni, ci, N11, Nr, Ns, rfl, rfl, rfl, sc, B11, rr, hni, hs, hbag, hsm, H, hcnt⟩
    have hlp := sc.len8
    have sr := rr.rsl
    refine At.seq fun K13 hk_13 => ?_
    refine At.seq fun K14 hk_14 => ?_
    refine At.region ?_
    refine op_move (nxlf rfl) rfl rfl ?_
    refine op_lenS (nxlf rfl) se22 rfl rfl ?_
    refine op_gtr (nxlf rfl) rfl rfl rfl ?_
    refine At.opsNil ?_
    refine At.norm (hk_14 ?_)
    refine At.condP rfl (fun c42 => ?_) (fun c42 => ?_)
    · refine At.skip ?_
      refine At.norm (hk_13 ?_)
      refine At.block ?_
      refine At.seq fun K15 hk_15 => ?_
      refine At.region ?_
      refine op_move (nxlf rfl) rfl rfl ?_
      refine op_move (nxlf rfl) rfl rfl ?_
      refine op_addI (nxlf rfl) rfl rfl (by omega) (by omega) rfl ?_
      refine op_callA (nxla rfl) (.cons rfl (.cons rfl .nil)) (ih R ac m cc p' (q + 1) sc (by omega) (by omega) (by omega)) Try.func37 rfl rfl (by simp) rfl ?_
      rintro v47 L47 (⟨t, q', M47, x, aq, cq, he, rfl, rfl, hi, ho, hsz, hqq⟩ | ⟨e, he, rfl, rfl, hne⟩)
      · change At _ _ _ [M47, N4, N11, Nr, Ns, R] _
        refine op_move (nxlf rfl) rfl rfl ?_
        refine op_extract (nxlf rfl) rfl rfl rfl ?_
        refine op_extract (nxlf rfl) rfl rfl rfl ?_
        refine op_extract (nxlf rfl) rfl rfl rfl ?_
        refine op_alloc (nxla rfl) ze25 rfl (fun N13 b13 B13 => ?_)
        change Blk N13 b13 _ [.bool false, .slice none 0 0, .slice none 0 0] at B13
        refine op_store (nxl rfl) sz25 rfl rfl rfl rfl rfl B13 (by simp) sel0 (fun N13 B13 => ?_)
        simp only [setL, List.set] at B13
        refine op_assign (nxlf rfl) rfl rfl ?_
        refine op_assign (nxlf rfl) rfl rfl ?_
        refine At.opsNil ?_
        refine At.norm (hk_15 ?_)
        refine At.seq fun K16 hk_16 => ?_
        refine At.seq fun K17 hk_17 => ?_
        refine At.region ?_
        refine op_move (nxlf rfl) rfl rfl ?_
        refine op_neq (nxlf rfl) rfl rfl rfl ?_
        refine At.opsNil ?_
        refine At.norm (hk_17 ?_)
        refine At.condF rfl ?_
        refine At.skip ?_
        refine At.norm (hk_16 ?_)
        refine At.seq fun K18 hk_18 => ?_
        refine At.region ?_
        refine op_fieldAddr (nxlf rfl) fl25_2 rfl rfl ?_
        refine op_loadB (nxlf rfl) sc23 rfl B11 (by first | rfl) mem3 rfl ?_
        refine op_loadAggB (ds := [_, _, _]) (nxlf rfl) ag25 rfl B13 rfl rfl mem0 rfl ?_
        refine op_lit (nxla rfl) Try.underlying23 ze25 sz25 (.cons rfl .nil) rfl rfl (by simp [Value.cells]) rfl rfl rfl (fun N58 a58 r58 => ?_)
        simp only [flatV, List.flatMap_cons, List.flatMap_nil, Value.cells, List.append_nil, List.cons_append, List.nil_append] at r58
        have s58 := r58.rsl
        refine op_append (nxl rfl) Try.underlying23 Try.underlying23 te25 rfl rfl rr (by assumption) (by first | exact mem0 | exact mem1 | exact mem2 | exact mem3 | exact mem4 | exact mem5 | exact mem6 | exact mem7 | exact mem8 | exact mem9) (by intro u hu; simp at hu; rcases hu with rfl | rfl | rfl <;> rfl) (by omega) (by omega) sel5 rfl (fun N59 a59 p59 r59 => ?_)
        have s59 := r59.rsl
        refine op_fieldAddr (nxlf rfl) fl25_2 rfl rfl ?_
        refine op_store (nxl rfl) sz23 rfl rfl rfl rfl rfl B11 (by simp) sel5 (fun N11 B11 => ?_)
        simp only [setL, List.set] at B11
        refine At.opsNil ?_
        refine At.norm (hk_18 ?_)
        refine At.region ?_
        refine op_move (nxlf rfl) rfl rfl ?_
        refine op_assign (nxlf rfl) rfl rfl ?_
        refine At.opsNil ?_
        refine At.inNorm ?_
        refine At.norm ?_
        refine At.perm sel7 ?_
        refine At.perm sel6 ?_
        refine At.perm sel5 ?_
        refine At.perm sel5 ?_
        refine At.perm sel5 ?_
        refine At.perm sel5 ?_
        refine At.perm sel6 ?_
        refine At.perm sel7 ?_
        refine At.merge (fun hap => ?_)
        refine At.sub (L' := [(join2 Ns M47), N11, N59, N4, R]) (.cons_cons _ (.cons_cons _ (.cons_cons _ (.cons _ (.cons _ (.cons_cons _ (.cons_cons _ (.slnil)))))))) ?_
        refine At.perm sel4 ?_
        refine At.perm sel1 ?_
        refine At.perm sel3 ?_
        refine At.perm sel3 ?_
        refine At.perm sel4 ?_
        refine At.back ?_ (.refl _) ⟨q', aq, q'.length, cq, done ++ [t], xs ++ [x], a59, ni + 1, p59, N11, N59, join2 Ns M47, rfl, rfl, rfl, hqq R sc, B11, by rw [cellsI, List.flatMap_append]; exact r59, by simp [hni], (hs.le join2_left).snoc (hi.le (join2_right hap)), hbag.more ho.row hap, small_more hsm (by have := hsz.1; omega), by rw [H, itF_ok (fun b t q h => decF_lt h) (by omega) he, exMap_map]; congr 1; funext l; simp, by have := decF_lt he; omega⟩ ?_
        · exact .cons (by first | exact lkI rfl (by omega) | rfl) (.cons (by first | exact lkI rfl (by omega) | rfl) (.cons (by first | exact lkI rfl (by omega) | rfl) (.cons (by first | exact lkI rfl (by omega) | rfl) (.cons (by first | exact lkI rfl (by omega) | rfl) (.cons (by first | exact lkI rfl (by omega) | rfl) .nil)))))
        · exact (by have := decF_lt he; omega)
      · change At _ _ _ [N4, N11, Nr, Ns, R] _
        refine op_move (nxlf rfl) rfl rfl ?_
        refine op_extract (nxlf rfl) rfl rfl rfl ?_
        refine op_extract (nxlf rfl) rfl rfl rfl ?_
        refine op_extract (nxlf rfl) rfl rfl rfl ?_
        refine op_alloc (nxla rfl) ze25 rfl (fun N13 b13 B13 => ?_)
        change Blk N13 b13 _ [.bool false, .slice none 0 0, .slice none 0 0] at B13
        refine op_store (nxl rfl) sz25 rfl rfl rfl rfl rfl B13 (by simp) sel0 (fun N13 B13 => ?_)
        simp only [setL, List.set] at B13
        refine op_assign (nxlf rfl) rfl rfl ?_
        refine op_assign (nxlf rfl) rfl rfl ?_
        refine At.opsNil ?_
        refine At.norm (hk_15 ?_)
        refine At.seq fun K19 hk_19 => ?_
        refine At.seq fun K20 hk_20 => ?_
        refine At.region ?_
        refine op_move (nxlf rfl) rfl rfl ?_
        refine op_neq (nxlf rfl) rfl rfl rfl ?_
        refine At.opsNil ?_
        refine At.norm (hk_20 ?_)
        refine At.condP rfl (fun c52 => ?_) (fun c52 => ?_)
        · refine At.seq fun K21 hk_21 => ?_
          refine At.region ?_
          refine op_build (out := [.bool false, .slice none 0 0, .slice none 0 0]) (nxlf rfl) ze25 pl25 .nil rfl rfl ?_
          refine op_move (nxlf rfl) rfl rfl ?_
          refine op_store (nxl rfl) sz25 rfl rfl rfl rfl rfl B4 (by simp) sel1 (fun N4 B4 => ?_)
          simp only [setL, List.set] at B4
          refine op_assign (nxlf rfl) rfl rfl ?_
          refine op_assign (nxlf rfl) rfl rfl ?_
          refine At.opsNil ?_
          refine At.norm (hk_21 ?_)
          refine At.ret (At.thenRet (At.inRet (At.thenRet (At.inRet (At.thenRet (?_))))))
          refine At.sub (L' := [N4, R]) (.cons_cons _ (.cons _ (.cons _ (.cons _ (.cons _ (.cons_cons _ (.slnil))))))) ?_
          refine At.retN (L1 := []) rfl (.cell rfl (res_agg (ds := [_, _, _]) ag25 B4 rfl rfl mem0) (.tmp rfl (.tmp rfl .nil))) rfl (.cons _ (.refl _)) (.refl _) ?_
          exact .inr ⟨e, by simp [decF, hc, H, itF_error (show 0 < p'.length by omega) he, exMap], rfl, rfl, hne⟩
        · exfalso; omega
    · refine At.exit (At.thenExit (At.thenExit (At.inHit ?_)))
      refine At.norm (hk_11 ?_)
      refine At.seq fun K22 hk_22 => ?_
      refine At.region ?_
      refine op_loadAggB (ds := [_, _, _]) (nxlf rfl) ag25 rfl B11 rfl rfl mem1 rfl ?_
      refine op_move (nxlf rfl) rfl rfl ?_
      refine op_store (nxl rfl) sz25 rfl rfl rfl rfl rfl B4 (by simp) sel0 (fun N4 B4 => ?_)
      simp only [setL, List.set] at B4
      refine op_assign (nxlf rfl) rfl rfl ?_
      refine op_assign (nxlf rfl) rfl rfl ?_
      refine At.opsNil ?_
      refine At.norm (hk_22 ?_)
      refine At.ret (?_)
      refine At.perm sel4 ?_
      refine At.perm sel2 ?_
      refine At.perm sel2 ?_
      refine At.perm sel4 ?_
      refine At.perm sel4 ?_
      refine At.merge (fun hap => ?_)
      refine At.sub (L' := [(join2 Nr Ns), N4, R]) (.cons_cons _ (.cons_cons _ (.cons _ (.cons_cons _ (.slnil))))) ?_
      refine At.perm sel2 ?_
      refine At.perm sel1 ?_
      refine At.perm sel2 ?_
      refine At.retN (L1 := [(join2 Nr Ns)]) rfl (.cell rfl (res_agg (ds := [_, _, _]) ag25 B4 rfl rfl mem0) (.tmp rfl (.tmp rfl .nil))) rfl (.cons _ (.refl _)) (.refl _) ?_
      have hp0 : p' = [] := List.eq_nil_of_length_eq_zero (by omega)
      subst hp0
      refine .inl ⟨.mk true [] done, r, join2 Nr Ns, ⟨true, none, 0, 0, ai, ni, ci⟩, a2, c2, ?_, rfl, rfl, ItN.mk (RSl.nil _ _) (sr.le join2_left) (hs.le (join2_right hap)), own_list hap rr hni hbag, ⟨Nat.zero_le _, fun u hu => by have := hsm u hu; omega⟩, h2⟩
      simp [decF, hc, H, itF_nil, exMap]
theorem decode_o (k : Nat) : ∀ (N : Heaplet) (ao : Option Addr) (n cap : Nat) (b : List UInt8) (q : Int), RSl N 1 ao n cap (u8s b) → n ≤ 1099511627776 → q + k = 1024 → 0 ≤ q → Fn Try.prog 37 #[.slice ao n cap, .int .i64 q] [] [N] (DecO ao n cap b (decF k b)) := by
  induction k with
  | zero =>
    intro N ao n cap b q h hn hq h0
    obtain rfl : q = 1024 := by omega
    match hc : cutF b with
    | none => exact decode_noneO h hn hc 0 _
    | some (false, p, r) => exact decode_textO h hn hc 0 _
    | some (true, p, r) => exact decode_deepO h hn hc
  | succ k ih =>
    intro N ao n cap b q h hn hq h0
    match hc : cutF b with
    | none => exact decode_noneO h hn hc _ _
    | some (false, p, r) => exact decode_textO h hn hc _ _
    | some (true, p, r) => exact decode_itsO h hn hc k q (by omega) h0 ih
def DecodeO (nb : Nat) (r : Except Nat It) (v : Value) (L : List Heaplet) : Prop :=
  (∃ t M, ∃ x : IV, r = .ok t ∧ v = .tuple #[.agg #[.bool x.l, .slice x.ab x.nb x.cb, .slice x.ai x.ni x.ci], .int .i64 0] ∧ L = [M] ∧ ItN M t x ∧ OwnTop M t x ∧ Small t nb) ∨
  (∃ e : Nat, r = .error e ∧ v = .tuple #[.agg #[.bool false, .slice none 0 0, .slice none 0 0], .int .i64 (e : Int)] ∧ L = [] ∧ e ≠ 0)
theorem Decode_o {N : Heaplet} {ao : Option Addr} {n cap : Nat} {b : List UInt8} (h : RSl N 1 ao n cap (u8s b)) (hn : n ≤ 1099511627776) :
    Fn Try.prog 17 #[.slice ao n cap] [] [N] (DecodeO b.length (decodeF b)) := by
  refine Fn.enter (vs := [.slice ao n cap]) Try.func17 rfl rfl rfl ?_
  intro E R hR
  have h := h.le (hR N (by simp))
  change At _ _ E [R] _
  refine At.seq fun K1 hk_1 => ?_
  refine At.region ?_
  refine op_alloc (nxla rfl) ze25 rfl (fun N2 b2 B2 => ?_)
  change Blk N2 b2 _ [.bool false, .slice none 0 0, .slice none 0 0] at B2
  refine op_assign (nxlf rfl) rfl rfl ?_
  refine At.opsNil ?_
  refine At.norm (hk_1 ?_)
  refine At.seq fun K2 hk_2 => ?_
  refine At.region ?_
  refine op_move (nxlf rfl) rfl rfl ?_
  refine op_callA (nxla rfl) (.cons rfl (.cons rfl .nil)) (decode_o 1024 R ao n cap b 0 h hn (by omega) (by omega)) Try.func37 rfl rfl (by simp) rfl ?_
  rintro v9 L9 (⟨t, q, M9, x, aq, cq, he, rfl, rfl, hi, ho, hsz, hq⟩ | ⟨e, he, rfl, rfl, hne⟩)
  · change At _ _ _ [M9, N2, R] _
    refine op_move (nxlf rfl) rfl rfl ?_
    refine op_extract (nxlf rfl) rfl rfl rfl ?_
    refine op_extract (nxlf rfl) rfl rfl rfl ?_
    refine op_extract (nxlf rfl) rfl rfl rfl ?_
    refine op_alloc (nxla rfl) ze25 rfl (fun N4 b4 B4 => ?_)
    change Blk N4 b4 _ [.bool false, .slice none 0 0, .slice none 0 0] at B4
    refine op_store (nxl rfl) sz25 rfl rfl rfl rfl rfl B4 (by simp) sel0 (fun N4 B4 => ?_)
    simp only [setL, List.set] at B4
    refine op_assign (nxlf rfl) rfl rfl ?_
    refine op_assign (nxlf rfl) rfl rfl ?_
    refine At.opsNil ?_
    refine At.norm (hk_2 ?_)
    refine At.seq fun K3 hk_3 => ?_
    refine At.seq fun K4 hk_4 => ?_
    refine At.region ?_
    refine op_move (nxlf rfl) rfl rfl ?_
    refine op_eql (nxlf rfl) rfl rfl rfl ?_
    refine op_move (nxlf rfl) rfl rfl ?_
    refine At.partP (d := 15) rfl (fun g15 => ?_) (fun g15 => ?_)
    · refine op_move (nxgf rfl rfl rfl rfl) rfl rfl ?_
      refine op_lenS (nxgf rfl rfl rfl rfl) se22 rfl rfl ?_
      refine op_gtr (nxgf rfl rfl rfl rfl) rfl rfl rfl ?_
      refine op_pickT (nxlf rfl) rfl rfl rfl ?_
      refine At.opsNil ?_
      refine At.norm (hk_4 ?_)
      refine At.condP rfl (fun c19 => ?_) (fun c19 => ?_)
      · refine At.seq fun K5 hk_5 => ?_
        refine At.region ?_
        refine op_build (out := [.bool false, .slice none 0 0, .slice none 0 0]) (nxlf rfl) ze25 pl25 .nil rfl rfl ?_
        refine op_store (nxl rfl) sz25 rfl rfl rfl rfl rfl B2 (by simp) sel2 (fun N2 B2 => ?_)
        simp only [setL, List.set] at B2
        refine op_assign (nxlf rfl) rfl rfl ?_
        refine At.opsNil ?_
        refine At.norm (hk_5 ?_)
        refine At.ret (At.thenRet (?_))
        refine At.sub (L' := [N2, R]) (.cons_cons _ (.cons _ (.cons _ (.cons_cons _ (.slnil))))) ?_
        refine At.retN (L1 := []) rfl (.cell rfl (res_agg (ds := [_, _, _]) ag25 B2 rfl rfl mem0) (.tmp rfl .nil)) rfl (.cons _ (.refl _)) (.refl _) ?_
        exact .inr ⟨2, by rw [decodeF, he]; simp only; rw [if_neg (by omega)], rfl, rfl, by decide⟩
      · refine At.skip ?_
        refine At.norm (hk_3 ?_)
        refine At.seq fun K6 hk_6 => ?_
        refine At.region ?_
        refine op_loadAggB (ds := [_, _, _]) (nxlf rfl) ag25 rfl B4 rfl rfl mem0 rfl ?_
        refine op_move (nxlf rfl) rfl rfl ?_
        refine op_store (nxl rfl) sz25 rfl rfl rfl rfl rfl B2 (by simp) sel2 (fun N2 B2 => ?_)
        simp only [setL, List.set] at B2
        refine op_assign (nxlf rfl) rfl rfl ?_
        refine At.opsNil ?_
        refine At.norm (hk_6 ?_)
        refine At.ret (?_)
        refine At.sub (L' := [N2, M9, R]) (.cons_cons _ (.cons _ (.cons_cons _ (.cons_cons _ (.slnil))))) ?_
        refine At.retN (L1 := [M9]) rfl (.cell rfl (res_agg (ds := [_, _, _]) ag25 B2 rfl rfl mem0) (.tmp rfl .nil)) rfl (.cons _ (.refl _)) (.refl _) ?_
        exact .inl ⟨t, M9, x, by rw [decodeF, he]; simp only; rw [if_pos (by omega)], rfl, rfl, hi, ho, hsz⟩
    · exact absurd rfl g15
  · change At _ _ _ [N2, R] _
    refine op_move (nxlf rfl) rfl rfl ?_
    refine op_extract (nxlf rfl) rfl rfl rfl ?_
    refine op_extract (nxlf rfl) rfl rfl rfl ?_
    refine op_extract (nxlf rfl) rfl rfl rfl ?_
    refine op_alloc (nxla rfl) ze25 rfl (fun N4 b4 B4 => ?_)
    change Blk N4 b4 _ [.bool false, .slice none 0 0, .slice none 0 0] at B4
    refine op_store (nxl rfl) sz25 rfl rfl rfl rfl rfl B4 (by simp) sel0 (fun N4 B4 => ?_)
    simp only [setL, List.set] at B4
    refine op_assign (nxlf rfl) rfl rfl ?_
    refine op_assign (nxlf rfl) rfl rfl ?_
    refine At.opsNil ?_
    refine At.norm (hk_2 ?_)
    refine At.seq fun K7 hk_7 => ?_
    refine At.seq fun K8 hk_8 => ?_
    refine At.region ?_
    refine op_move (nxlf rfl) rfl rfl ?_
    refine op_eql (nxlf rfl) rfl rfl rfl ?_
    refine op_move (nxlf rfl) rfl rfl ?_
    refine At.partP (d := 15) rfl (fun g15 => ?_) (fun g15 => ?_)
    · exfalso; omega
    · refine op_skip rfl rfl rfl rfl rfl rfl rfl ?_
      refine op_skip rfl rfl rfl rfl rfl rfl rfl ?_
      refine op_skip rfl rfl rfl rfl rfl rfl rfl ?_
      refine op_pickF (nxlf rfl) rfl rfl rfl ?_
      refine At.opsNil ?_
      refine At.norm (hk_8 ?_)
      refine At.condF rfl ?_
      refine At.skip ?_
      refine At.norm (hk_7 ?_)
      refine At.seq fun K9 hk_9 => ?_
      refine At.region ?_
      refine op_loadAggB (ds := [_, _, _]) (nxlf rfl) ag25 rfl B4 rfl rfl mem0 rfl ?_
      refine op_move (nxlf rfl) rfl rfl ?_
      refine op_store (nxl rfl) sz25 rfl rfl rfl rfl rfl B2 (by simp) sel1 (fun N2 B2 => ?_)
      simp only [setL, List.set] at B2
      refine op_assign (nxlf rfl) rfl rfl ?_
      refine At.opsNil ?_
      refine At.norm (hk_9 ?_)
      refine At.ret (?_)
      refine At.sub (L' := [N2, R]) (.cons_cons _ (.cons _ (.cons_cons _ (.slnil)))) ?_
      refine At.retN (L1 := []) rfl (.cell rfl (res_agg (ds := [_, _, _]) ag25 B2 rfl rfl mem0) (.tmp rfl .nil)) rfl (.cons _ (.refl _)) (.refl _) ?_
      exact .inr ⟨e, by rw [decodeF, he], rfl, rfl, hne⟩
/-- What Decode gives, parts of the memory one by one: the caller's own. -/
def DecW (nb : Nat) (v : Value) (L : List Heaplet) : Prop := ∃ x : IV, ∃ e : Int, ∃ NB NR NS bb xs bbs, v = .tuple #[.agg #[.bool x.l, .slice x.ab x.nb x.cb, .slice x.ai x.ni x.ci], .int .i64 e] ∧ L = [NB, NR, NS] ∧ Row NB 5 1 x.ab x.nb x.cb (u8s bb) ∧ Row NR 25 3 x.ai x.ni x.ci (cellsI xs) ∧ xs.length = x.ni ∧ Bag 5 NS (xs.map slB) bbs ∧ bb.length ≤ nb ∧ ∀ u ∈ bbs, u.length ≤ nb
theorem Decode_w {N : Heaplet} {ao : Option Addr} {n cap : Nat} {b : List UInt8} (h : RSl N 1 ao n cap (u8s b)) (hn : n ≤ 1099511627776) : Fn Try.prog 17 #[.slice ao n cap] [] [N] (DecW b.length) := by
  intro E w R hw hr
  refine (Decode_o h hn E w R hw hr).mono ?_
  rintro e w' ⟨v, L, rfl, hP, hh⟩
  rcases hP with ⟨t, M, x, _, rfl, rfl, hi, ho, hs⟩ | ⟨e, _, rfl, rfl, _⟩
  · obtain ⟨NB, NR, NS, xs, h1, rfl, h3, h4, h5, h6⟩ := ho
    refine ⟨_, [NB, NR, NS], rfl, ⟨x, 0, NB, NR, NS, t.bytes, xs, t.items.map It.bytes, rfl, rfl, h3, h4, h5, h6, hs.1, fun u hu => ?_⟩, Hp.unpackL (L := [R]) h1 hh⟩
    obtain ⟨z, hz, rfl⟩ := List.mem_map.1 hu
    exact hs.2 z hz
  · exact ⟨_, [nilH, nilH, nilH], rfl, ⟨⟨false, none, 0, 0, none, 0, 0⟩, e, nilH, nilH, nilH, [], [], [], rfl, rfl, Row.nil _ _ _, Row.nil _ _ _, rfl, Bag.nil _ _, Nat.zero_le _, fun u hu => absurd hu List.not_mem_nil⟩, hh.nilP.nilP.nilP⟩
end Go.Proofs.Ytohmmgggaegbbaa
