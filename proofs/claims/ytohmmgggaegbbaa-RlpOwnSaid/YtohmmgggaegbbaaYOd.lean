/- quarrykeep.Book: what was taken in is written full, grown, looked at again: plain laws, and the look. No condition. -/
import Derived.Test.YtohmmgggaegbbaaYOc
namespace Go.Proofs.Ytohmmgggaegbbaa
set_option linter.unusedVariables false
set_option linter.unusedSimpArgs false
open Go Go.RowKit
def mk1 (i m : Nat) : List UInt8 := List.replicate m (UInt8.ofNat (i % 125))
def mk2 (i k : Nat) : List UInt8 := List.replicate k (UInt8.ofNat (125 + i % 125))
theorem length_mk1 (i m : Nat) : (mk1 i m).length = m := List.length_replicate
theorem length_mk2 (i m : Nat) : (mk2 i m).length = m := List.length_replicate
theorem getD_rep {n k : Nat} {x z : UInt8} (h : k < n) : (List.replicate n x).getD k z = x := by
  rw [List.getD_eq_getElem?_getD, List.getElem?_replicate_of_lt h]; rfl
theorem look1 {i m K k : Nat} (h : k < m) : (mk1 i m ++ mk2 i K).getD k 0 = UInt8.ofNat (i % 125) := by
  rw [List.getD_eq_getElem?_getD, List.getElem?_append_left (by rw [length_mk1]; exact h), ← List.getD_eq_getElem?_getD]
  exact getD_rep h
theorem look2 {i m K k : Nat} (h : m ≤ k) (hk : k < m + K) : (mk1 i m ++ mk2 i K).getD k 0 = UInt8.ofNat (125 + i % 125) := by
  rw [List.getD_eq_getElem?_getD, List.getElem?_append_right (by rw [length_mk1]; exact h), length_mk1, ← List.getD_eq_getElem?_getD]
  exact getD_rep (by omega)
theorem look0 {i m k : Nat} (h : k < m) : (mk1 i m).getD k 0 = UInt8.ofNat (i % 125) := getD_rep h
theorem mk2_succ (i k : Nat) : mk2 i (k + 1) = mk2 i k ++ [UInt8.ofNat (125 + i % 125)] := List.replicate_succ'
theorem take_mk {i m K k : Nat} (h : k ≤ K) : (mk1 i m ++ mk2 i K).take (m + k) = mk1 i m ++ mk2 i k := by
  rw [List.take_append, length_mk1, List.take_of_length_le (by rw [length_mk1]; omega), Nat.add_sub_cancel_left]
  congr 1
  rw [mk2, List.take_replicate, Nat.min_eq_left h]; rfl
theorem take_mk1 {i m K : Nat} : (mk1 i m ++ mk2 i K).take m = mk1 i m := by
  rw [List.take_append, length_mk1, List.take_of_length_le (by rw [length_mk1]; omega), Nat.sub_self, List.take_zero, List.append_nil]
theorem mark_set {y : List UInt8} {i k : Nat} (hk : k < y.length) (h : y.take k = mk1 i k) : (y.set k (UInt8.ofNat (i % 125))).take (k + 1) = mk1 i (k + 1) := by
  rw [List.take_succ_eq_append_getElem (by rw [List.length_set]; exact hk), List.take_set_of_le (Nat.le_refl _), h, List.getElem_set_self]
  exact List.replicate_succ'.symm
/-- Grown slices, each in the block of its elder or in one of its own. -/
def Ones (K : Nat) (NI : Heaplet) (vf vo : List Value) (i : Nat) : Prop := ∀ j, j < i → ∃ p m c q d, vf[j]? = some (Value.slice p m c) ∧ vo[j]? = some (Value.slice q (m + K) d) ∧ Row NI 5 1 q (m + K) d (u8s (mk1 j m ++ mk2 j K)) ∧ ((q = p ∧ d = c) ∨ q ≠ p) ∧
  ∀ (j' : Nat) (p' : Option Addr) (m' c' : Nat), j' ≠ j → vf[j']? = some (Value.slice p' m' c') → p' = none ∨ p' ≠ q
/-- One of them grows. -/
structure One (gs : List (List UInt8)) (vf vo : List Value) (i m : Nat) (p : Option Addr) (c K : Nat) (NI : Heaplet) (q : Option Addr) (d k : Nat) : Prop where
  hg : Bag 5 NI vf gs
  ho : Ones K NI vf vo i
  hq : Row NI 5 1 q (m + k) d (u8s (mk1 i m ++ mk2 i k))
  hqp : (q = p ∧ d = c) ∨ q ≠ p
  hqa : ∀ (j' : Nat) (p' : Option Addr) (m' c' : Nat), j' ≠ i → vf[j']? = some (Value.slice p' m' c') → p' = none ∨ p' ≠ q
  hqo : ∀ j, j < i → ∀ (q' : Option Addr) (m' d' : Nat), vo[j]? = some (Value.slice q' m' d') → q' ≠ q
theorem Row.some_of_pos {N : Heaplet} {e : TypeId} {size : Nat} {ao : Option Addr} {n cap : Nat} {xs : List Value} (h : Row N e size ao n cap xs) (hn : 0 < n) : ∃ b o, ao = some ⟨b, 0, none⟩ ∧ N b = some o := by
  rcases h.block with ⟨_, h0, _⟩ | h
  · omega
  · exact h
theorem u8s_take1 {l : List UInt8} {m : Nat} : (u8s l).take (m * 1) = u8s (l.take m) := by rw [Nat.mul_one, u8s_take]
/-- The bag behind an append at one of its blocks, or in a new one. -/
theorem bag_app {gs : List (List UInt8)} {vf : List Value} {i m c d d' n' K : Nat} {p q q' : Option Addr} {NI NJ : Heaplet} (hg : Bag 5 NI vf gs) (hx : gs[i]? = some (mk1 i m)) (hv : vf[i]? = some (Value.slice p m c)) (hqp : (q = p ∧ d = c) ∨ q ≠ p)
    (hqa : ∀ (j' : Nat) (p' : Option Addr) (m' c' : Nat), j' ≠ i → vf[j']? = some (Value.slice p' m' c') → p' = none ∨ p' ≠ q) (rJ : Row NJ 5 1 q' (m + K) d' (u8s (mk1 i m ++ mk2 i K))) (oJ : App NI NJ q d q' d' n') : Bag 5 NJ vf gs := by
  rcases oJ with ⟨rfl, rfl, _, ho⟩ | ⟨hle, _⟩
  · refine ⟨hg.len, fun j x hj => ?_, hg.apart⟩
    obtain ⟨p', c', h1, h2⟩ := hg.row j x hj
    refine ⟨p', c', h1, ?_⟩
    by_cases hji : j = i
    · subst hji
      rw [hx] at hj; cases hj
      rw [length_mk1] at h1 h2 ⊢
      rw [hv] at h1
      simp only [Option.some.injEq, Value.slice.injEq, true_and] at h1
      obtain ⟨rfl, rfl⟩ := h1
      rcases hqp with ⟨rfl, rfl⟩ | hne
      · obtain ⟨b, hb, _⟩ := ho
        exact rJ.first (Nat.le_add_right ..) (by rw [u8s_take1, take_mk1]) (by rw [hb]; simp)
      · exact h2.off ho (.inr fun e => hne e.symm)
    · exact h2.off ho (hqa j p' _ _ hji h1)
  · exact hg.le hle
theorem ones_app {K d d' n' n : Nat} {vf vo : List Value} {q q' : Option Addr} {NI NJ : Heaplet} (ho : Ones K NI vf vo n) (hne : ∀ j, j < n → ∀ (q0 : Option Addr) (m0 d0 : Nat), vo[j]? = some (Value.slice q0 m0 d0) → q0 ≠ q) (oJ : App NI NJ q d q' d' n') : Ones K NJ vf vo n := by
  intro j hj
  obtain ⟨p, m, c, q0, d0, h1, h2, h3, h4, h5⟩ := ho j hj
  refine ⟨p, m, c, q0, d0, h1, h2, ?_, h4, h5⟩
  rcases oJ with ⟨_, _, _, hoff⟩ | ⟨hle, _⟩
  · exact h3.off hoff (.inr (hne j hj _ _ _ h2))
  · exact h3.le hle
theorem fresh_ne {N : Heaplet} {e : TypeId} {size : Nat} {ao q' : Option Addr} {n cap b : Nat} {xs : List Value} (h : Row N e size ao n cap xs) (hq : q' = some ⟨b, 0, none⟩) (hb : N b = none) : ao = none ∨ ao ≠ q' := by
  rcases h.block with ⟨h0, _⟩ | ⟨b', o, hb', ho⟩
  · exact .inl h0
  · refine .inr fun e => ?_
    rw [hb', hq] at e
    cases e
    rw [hb] at ho; cases ho
theorem One.step {gs : List (List UInt8)} {vf vo : List Value} {i m c K d d' k : Nat} {p q q' : Option Addr} {NI NJ : Heaplet} (h : One gs vf vo i m p c K NI q d k) (hx : gs[i]? = some (mk1 i m)) (hv : vf[i]? = some (Value.slice p m c)) (rJ : Row NJ 5 1 q' (m + (k + 1)) d' (u8s (mk1 i m ++ mk2 i (k + 1)))) (oJ : App NI NJ q d q' d' (m + k + 1)) :
    One gs vf vo i m p c K NJ q' d' (k + 1) := by
  refine ⟨bag_app h.hg hx hv h.hqp h.hqa rJ oJ, ones_app h.ho h.hqo oJ, rJ, ?_, ?_, ?_⟩
  · rcases oJ with ⟨rfl, rfl, _, _⟩ | ⟨_, b, hb, hN⟩
    · exact h.hqp
    · obtain ⟨p0, c0, h1, h2⟩ := h.hg.row i _ hx
      rw [length_mk1, hv] at h1
      simp only [Option.some.injEq, Value.slice.injEq, true_and] at h1
      obtain ⟨rfl, rfl⟩ := h1
      refine .inr fun e => ?_
      rcases fresh_ne h2 hb hN with h0 | h0
      · rw [h0] at e; rw [e] at hb; cases hb
      · exact h0 e.symm
  · rcases oJ with ⟨rfl, rfl, _, _⟩ | ⟨_, b, hb, hN⟩
    · exact h.hqa
    · intro j' p' m' c' hj hv'
      obtain ⟨y, hy⟩ : ∃ y, gs[j']? = some y := ⟨_, List.getElem?_eq_getElem (by rw [← h.hg.len]; exact (List.getElem?_eq_some_iff.1 hv').1)⟩
      obtain ⟨p0, c0, h1, h2⟩ := h.hg.row j' y hy
      rw [hv'] at h1
      simp only [Option.some.injEq, Value.slice.injEq] at h1
      obtain ⟨rfl, rfl, rfl⟩ := h1
      exact fresh_ne h2 hb hN
  · rcases oJ with ⟨rfl, rfl, _, _⟩ | ⟨_, b, hb, hN⟩
    · exact h.hqo
    · intro j hj q0 m0 d0 hv0
      obtain ⟨p1, m1, c1, q1, d1, h1, h2, h3, h4, h5⟩ := h.ho j hj
      rw [hv0] at h2
      simp only [Option.some.injEq, Value.slice.injEq] at h2
      obtain ⟨rfl, rfl, rfl⟩ := h2
      intro e
      rcases fresh_ne h3 hb hN with h0 | h0
      · rw [h0] at e; rw [← e] at hb; cases hb
      · exact h0 e
theorem One.start {gs : List (List UInt8)} {vf vo : List Value} {i m c K : Nat} {p : Option Addr} {NI : Heaplet} (hK : 0 < K) (hg : Bag 5 NI vf gs) (ho : Ones K NI vf vo i) (hx : gs[i]? = some (mk1 i m)) (hv : vf[i]? = some (Value.slice p m c)) : One gs vf vo i m p c K NI p c 0 := by
  refine ⟨hg, ho, ?_, .inl ⟨rfl, rfl⟩, fun j' p' m' c' hj hv' => hg.apart j' i p' p _ _ _ _ hj hv' hv, fun j hj q0 m0 d0 hv0 e => ?_⟩
  · obtain ⟨p0, c0, h1, h2⟩ := hg.row i _ hx
    rw [length_mk1, hv] at h1
    simp only [Option.some.injEq, Value.slice.injEq, true_and] at h1
    obtain ⟨rfl, rfl⟩ := h1
    rw [length_mk1] at h2
    rw [Nat.add_zero, show mk2 i 0 = [] from rfl, List.append_nil]
    exact h2
  · obtain ⟨p1, m1, c1, q1, d1, h1, h2, h3, h4, h5⟩ := ho j hj
    rw [hv0] at h2
    simp only [Option.some.injEq, Value.slice.injEq] at h2
    obtain ⟨rfl, rfl, rfl⟩ := h2
    obtain ⟨b, o, hb, _⟩ := h3.some_of_pos (by omega)
    rcases h5 i p m c (by omega) hv with h0 | h0
    · rw [hb, h0] at e; cases e
    · exact h0 e.symm
theorem One.ones {gs : List (List UInt8)} {vf vo : List Value} {i m c K d : Nat} {p q : Option Addr} {NI : Heaplet} (h : One gs vf vo i m p c K NI q d K) (hv : vf[i]? = some (Value.slice p m c)) (hl : vo.length = i) : Ones K NI vf (vo ++ [Value.slice q (m + K) d]) (i + 1) := by
  intro j hj
  rcases Nat.lt_or_ge j i with hji | hji
  · obtain ⟨p1, m1, c1, q1, d1, h1, h2, h3, h4, h5⟩ := h.ho j hji
    exact ⟨p1, m1, c1, q1, d1, h1, get_snoc_l h2, h3, h4, h5⟩
  · obtain rfl : j = i := by omega
    exact ⟨p, m, c, q, d, hv, get_snoc_r hl.symm, h.hq, h.hqp, h.hqa⟩
/-- The longer growth. -/
theorem many_step {gs : List (List UInt8)} {vf vo vm : List Value} {i m c d' n K1 K2 : Nat} {p q' : Option Addr} {NI NJ : Heaplet} (hK : K1 ≤ K2) (h1 : 0 < K1) (hi : i < n) (hg : Bag 5 NI vf gs) (ho : Ones K1 NI vf vo n) (hm : Ones K2 NI vf vm i) (hl : vm.length = i) (hx : gs[i]? = some (mk1 i m)) (hv : vf[i]? = some (Value.slice p m c))
    (rJ : Row NJ 5 1 q' (m + K2) d' (u8s (mk1 i m ++ mk2 i K2))) (oJ : App NI NJ p c q' d' (m + K2)) : Bag 5 NJ vf gs ∧ Ones K1 NJ vf vo n ∧ Ones K2 NJ vf (vm ++ [Value.slice q' (m + K2) d']) (i + 1) := by
  have hs := One.start (Nat.lt_of_lt_of_le h1 hK) hg hm hx hv
  have hB := bag_app hg hx hv hs.hqp hs.hqa rJ oJ
  refine ⟨hB, ?_, ?_⟩
  · intro j hj
    obtain ⟨p1, m1, c1, q1, d1, e1, e2, e3, e4, e5⟩ := ho j hj
    refine ⟨p1, m1, c1, q1, d1, e1, e2, ?_, e4, e5⟩
    rcases oJ with ⟨rfl, rfl, _, hoff⟩ | ⟨hle, _⟩
    · by_cases hji : j = i
      · subst hji
        rw [hv] at e1
        simp only [Option.some.injEq, Value.slice.injEq] at e1
        obtain ⟨rfl, rfl, rfl⟩ := e1
        rcases e4 with ⟨rfl, rfl⟩ | hne
        · obtain ⟨b, hb, _⟩ := hoff
          exact rJ.first (by omega) (by rw [u8s_take1, take_mk hK]) (by rw [hb]; simp)
        · exact e3.off hoff (.inr hne)
      · obtain ⟨b, o, hb, _⟩ := e3.some_of_pos (by omega)
        refine e3.off hoff (.inr fun e => ?_)
        rcases e5 i _ m _ (fun e => hji e.symm) hv with h0 | h0
        · rw [hb, h0] at e; cases e
        · exact h0 e.symm
    · exact e3.le hle
  · intro j hj
    rcases Nat.lt_or_ge j i with hji | hji
    · obtain ⟨p1, m1, c1, q1, d1, e1, e2, e3, e4, e5⟩ := ones_app hm hs.hqo oJ j hji
      exact ⟨p1, m1, c1, q1, d1, e1, get_snoc_l e2, e3, e4, e5⟩
    · obtain rfl : j = i := by omega
      refine ⟨p, m, c, q', d', hv, get_snoc_r hl.symm, rJ, ?_, ?_⟩
      · rcases oJ with ⟨rfl, rfl, _, _⟩ | ⟨_, b, hb, hN⟩
        · exact .inl ⟨rfl, rfl⟩
        · refine .inr fun e => ?_
          have h2 := hs.hq
          rcases fresh_ne h2 hb hN with h0 | h0
          · rw [h0] at e; rw [e] at hb; cases hb
          · exact h0 e.symm
      · rcases oJ with ⟨rfl, rfl, _, _⟩ | ⟨_, b, hb, hN⟩
        · exact hs.hqa
        · intro j' p' m' c' hj' hv'
          obtain ⟨y, hy⟩ : ∃ y, gs[j']? = some y := ⟨_, List.getElem?_eq_getElem (by rw [← hg.len]; exact (List.getElem?_eq_some_iff.1 hv').1)⟩
          obtain ⟨p0, c0, h1, h2⟩ := hg.row j' y hy
          rw [hv'] at h1
          simp only [Option.some.injEq, Value.slice.injEq] at h1
          obtain ⟨rfl, rfl, rfl⟩ := h1
          exact fresh_ne h2 hb hN
set_option maxRecDepth 100000 in
theorem BookLook_o {K b0 nn cf co : Nat} {N0 NF NI NO : Heaplet} {e0 : TypeId} {pf po : Option Addr} {v1 v2 v3 v4 : Value} {vf vo : List Value} (B0 : Blk N0 b0 e0 [.slice pf nn cf, v1, v2, v3, v4]) (sF : RSl NF 1 pf nn cf vf) (sO : RSl NO 1 po nn co vo)
    (hb : ∀ i, i < nn → ∃ m p c q d, vf[i]? = some (Value.slice p m c) ∧ RSl NI 1 p m c (u8s (mk1 i m)) ∧ vo[i]? = some (Value.slice q (m + K) d) ∧ RSl NI 1 q (m + K) d (u8s (mk1 i m ++ mk2 i K))) :
    Fn Try.prog 56 #[.pointer (some ⟨b0, 0, none⟩), .slice po nn co] [N0, NF, NI] [NO] (fun v L => v = .bool true ∧ L = [N0, NF, NI]) := by
  have hcf := sF.cap63
  refine Fn.enter (vs := [.pointer (some ⟨b0, 0, none⟩), .slice po nn co]) Try.func56 rfl rfl rfl ?_
  intro E R hR
  have sO := sO.le (hR NO (by simp))
  change At _ _ E [N0, NF, NI, R] _
  refine At.seq fun K1 hk_1 => ?_
  refine At.region ?_
  refine op_assign (nxlf rfl) rfl rfl ?_
  refine At.opsNil ?_
  refine At.norm (hk_1 ?_)
  refine At.seq fun K2 hk_2 => ?_
  refine At.seq fun K3 hk_3 => ?_
  refine At.region ?_
  refine op_assign (nxlf rfl) rfl rfl ?_
  refine At.opsNil ?_
  refine At.norm (hk_3 ?_)
  refine At.block ?_
  refine At.loop (fun fr_ hp_ ms_ => ∃ (i : Nat), fr_ = [(0, .pointer (some ⟨b0, 0, none⟩)), (1, .slice po nn co), (5, .int .i64 (i : Int))] ∧ hp_ = [N0, NF, NI, R] ∧ nn - i = ms_ ∧ (i ≤ nn)) ?_ (.refl _) ⟨0, rfl, rfl, rfl, by omega⟩ ?_
  · exact .cons (by first | exact lkI rfl (by omega) | rfl) (.cons (by first | exact lkI rfl (by omega) | rfl) (.cons (by first | exact lkI rfl (by omega) | rfl) .nil))
  rintro _ _ _ ⟨i, rfl, rfl, rfl, hi⟩
  refine At.seq fun K4 hk_4 => ?_
  refine At.seq fun K5 hk_5 => ?_
  refine At.region ?_
  refine op_move (nxlf rfl) rfl rfl ?_
  refine op_move (nxlf rfl) rfl rfl ?_
  refine op_lenS (nxlf rfl) se55 rfl rfl ?_
  refine op_lss (nxlf rfl) rfl rfl rfl ?_
  refine At.opsNil ?_
  refine At.norm (hk_5 ?_)
  refine At.condP rfl (fun c11 => ?_) (fun c11 => ?_)
  · obtain ⟨m, p, c, q, d, hv, hr, hv2, hr2⟩ := hb i (by omega)
    have hcap := hr2.cap63
    have hl1 := length_mk1 i m
    have hl2 : (mk1 i m ++ mk2 i K).length = m + K := by rw [List.length_append, length_mk1, length_mk2]
    refine At.skip ?_
    refine At.norm (hk_4 ?_)
    refine At.seq fun K6 hk_6 => ?_
    refine At.block ?_
    refine At.seq fun K7 hk_7 => ?_
    refine At.region ?_
    refine op_move (nxlf rfl) rfl rfl ?_
    refine op_nilChk (nxlf rfl) rfl rfl ?_
    refine op_fieldAddr (nxlf rfl) fl60_0 rfl rfl ?_
    refine op_loadB (nxlf rfl) sc55 rfl B0 (by first | rfl) mem0 rfl ?_
    refine op_move (nxlf rfl) rfl rfl ?_
    refine op_idx1 (nxlf rfl) se55 rfl rfl sF (show _ = (((i : Nat)) : Int) from by omega) (by omega) rfl ?_
    refine op_loadE (nxlf rfl) sc22 rfl sF (by first | exact get8 (by omega) | exact get64 (by omega) | exact get32 (by omega) | exact hv) (by first | exact mem0 | exact mem1 | exact mem2 | exact mem3 | exact mem4 | exact mem5 | exact mem6 | exact mem7 | exact mem8 | exact mem9) rfl ?_
    refine op_lenS (nxlf rfl) se22 rfl rfl ?_
    refine op_assign (nxlf rfl) rfl rfl ?_
    refine At.opsNil ?_
    refine At.norm (hk_7 ?_)
    refine At.seq fun K8 hk_8 => ?_
    refine At.region ?_
    refine op_assign (nxlf rfl) rfl rfl ?_
    refine At.opsNil ?_
    refine At.norm (hk_8 ?_)
    refine At.block ?_
    refine At.loop (fun fr_ hp_ ms_ => ∃ (k : Nat), fr_ = [(0, .pointer (some ⟨b0, 0, none⟩)), (1, .slice po nn co), (5, .int .i64 (i : Int)), (6, .int .i64 (m : Int)), (7, .int .i64 (k : Int))] ∧ hp_ = [N0, NF, NI, R] ∧ m + K - k = ms_ ∧ (k ≤ m + K)) ?_ (.refl _) ⟨0, rfl, rfl, rfl, by omega⟩ ?_
    · exact .cons (by first | exact lkI rfl (by omega) | rfl) (.cons (by first | exact lkI rfl (by omega) | rfl) (.cons (by first | exact lkI rfl (by omega) | rfl) (.cons (by first | exact lkI rfl (by omega) | rfl) (.cons (by first | exact lkI rfl (by omega) | rfl) .nil))))
    rintro _ _ _ ⟨k, rfl, rfl, rfl, hk⟩
    refine At.seq fun K9 hk_9 => ?_
    refine At.seq fun K10 hk_10 => ?_
    refine At.region ?_
    refine op_move (nxlf rfl) rfl rfl ?_
    refine op_move (nxlf rfl) rfl rfl ?_
    refine op_move (nxlf rfl) rfl rfl ?_
    refine op_idx1 (nxlf rfl) se55 rfl rfl sO (show _ = (((i : Nat)) : Int) from by omega) (by omega) rfl ?_
    refine op_loadE (nxlf rfl) sc22 rfl sO (by first | exact get8 (by omega) | exact get64 (by omega) | exact get32 (by omega) | exact hv2) (by first | exact mem0 | exact mem1 | exact mem2 | exact mem3 | exact mem4 | exact mem5 | exact mem6 | exact mem7 | exact mem8 | exact mem9) rfl ?_
    refine op_lenS (nxlf rfl) se22 rfl rfl ?_
    refine op_lss (nxlf rfl) rfl rfl rfl ?_
    refine At.opsNil ?_
    refine At.norm (hk_10 ?_)
    refine At.condP rfl (fun c28 => ?_) (fun c28 => ?_)
    · refine At.skip ?_
      refine At.norm (hk_9 ?_)
      refine At.seq fun K11 hk_11 => ?_
      refine At.block ?_
      refine At.seq fun K12 hk_12 => ?_
      refine At.region ?_
      refine op_move (nxlf rfl) rfl rfl ?_
      refine op_move (nxlf rfl) rfl rfl ?_
      refine op_lss (nxlf rfl) rfl rfl rfl ?_
      refine op_move (nxlf rfl) rfl rfl ?_
      refine At.partP (d := 34) rfl (fun g34 => ?_) (fun g34 => ?_)
      · refine op_move (nxgf rfl rfl rfl rfl) rfl rfl ?_
        refine op_move (nxgf rfl rfl rfl rfl) rfl rfl ?_
        refine op_idx1 (nxgf rfl rfl rfl rfl) se55 rfl rfl sO (show _ = (((i : Nat)) : Int) from by omega) (by omega) rfl ?_
        refine op_loadE (nxgf rfl rfl rfl rfl) sc22 rfl sO (by first | exact get8 (by omega) | exact get64 (by omega) | exact get32 (by omega) | exact hv2) (by first | exact mem0 | exact mem1 | exact mem2 | exact mem3 | exact mem4 | exact mem5 | exact mem6 | exact mem7 | exact mem8 | exact mem9) rfl ?_
        refine op_move (nxgf rfl rfl rfl rfl) rfl rfl ?_
        refine op_idx1 (nxgf rfl rfl rfl rfl) se22 rfl rfl hr2 (show _ = (((k : Nat)) : Int) from by omega) (by omega) rfl ?_
        refine op_loadE (nxgf rfl rfl rfl rfl) sc5 rfl hr2 (by first | exact get8 (by omega) | exact get64 (by omega) | exact get32 (by omega)) (by first | exact mem0 | exact mem1 | exact mem2 | exact mem3 | exact mem4 | exact mem5 | exact mem6 | exact mem7 | exact mem8 | exact mem9) rfl ?_
        refine op_move (nxgf rfl rfl rfl rfl) rfl rfl ?_
        refine op_rem (nxgf rfl rfl rfl rfl) rfl rfl (by omega) (by omega) rfl ?_
        refine op_conv8 (nxgf rfl rfl rfl rfl) (und_some Try.underlying3) Try.underlying5 rfl (show _ = (((i % 125 : Nat)) : Int) from by omega) rfl ?_
        refine op_neq (nxgf rfl rfl rfl rfl) rfl rfl rfl ?_
        refine op_move (nxgf rfl rfl rfl rfl) rfl rfl ?_
        refine At.partP (d := 46) rfl (fun g46 => ?_) (fun g46 => ?_)
        · exact absurd (by rw [look1 (by omega)]) g46
        · refine op_move (nxgf rfl rfl rfl rfl) rfl rfl ?_
          refine op_nilChk (nxgf rfl rfl rfl rfl) rfl rfl ?_
          refine op_fieldAddr (nxgf rfl rfl rfl rfl) fl60_0 rfl rfl ?_
          refine op_loadB (nxgf rfl rfl rfl rfl) sc55 rfl B0 (by first | rfl) mem0 rfl ?_
          refine op_move (nxgf rfl rfl rfl rfl) rfl rfl ?_
          refine op_idx1 (nxgf rfl rfl rfl rfl) se55 rfl rfl sF (show _ = (((i : Nat)) : Int) from by omega) (by omega) rfl ?_
          refine op_loadE (nxgf rfl rfl rfl rfl) sc22 rfl sF (by first | exact get8 (by omega) | exact get64 (by omega) | exact get32 (by omega) | exact hv) (by first | exact mem0 | exact mem1 | exact mem2 | exact mem3 | exact mem4 | exact mem5 | exact mem6 | exact mem7 | exact mem8 | exact mem9) rfl ?_
          refine op_move (nxgf rfl rfl rfl rfl) rfl rfl ?_
          refine op_idx1 (nxgf rfl rfl rfl rfl) se22 rfl rfl hr (show _ = (((k : Nat)) : Int) from by omega) (by omega) rfl ?_
          refine op_loadE (nxgf rfl rfl rfl rfl) sc5 rfl hr (by first | exact get8 (by omega) | exact get64 (by omega) | exact get32 (by omega)) (by first | exact mem0 | exact mem1 | exact mem2 | exact mem3 | exact mem4 | exact mem5 | exact mem6 | exact mem7 | exact mem8 | exact mem9) rfl ?_
          refine op_move (nxgf rfl rfl rfl rfl) rfl rfl ?_
          refine op_rem (nxgf rfl rfl rfl rfl) rfl rfl (by omega) (by omega) rfl ?_
          refine op_conv8 (nxgf rfl rfl rfl rfl) (und_some Try.underlying3) Try.underlying5 rfl (show _ = (((i % 125 : Nat)) : Int) from by omega) rfl ?_
          refine op_neq (nxgf rfl rfl rfl rfl) rfl rfl rfl ?_
          refine op_pickF (nxgf rfl rfl rfl rfl) rfl rfl rfl ?_
          refine op_pickT (nxlf rfl) rfl rfl rfl ?_
          refine op_move (nxlf rfl) rfl rfl ?_
          refine At.partP (d := 63) rfl (fun g63 => ?_) (fun g63 => ?_)
          · exact absurd (by rw [look0 (by omega)]) g63
          · refine op_move (nxgf rfl rfl rfl rfl) rfl rfl ?_
            refine op_move (nxgf rfl rfl rfl rfl) rfl rfl ?_
            refine op_geq (nxgf rfl rfl rfl rfl) rfl rfl rfl ?_
            refine op_move (nxgf rfl rfl rfl rfl) rfl rfl ?_
            refine At.partP (d := 67) rfl (fun g67 => ?_) (fun g67 => ?_)
            · refine op_move (nxgf rfl rfl rfl rfl) rfl rfl ?_
              refine op_move (nxgf rfl rfl rfl rfl) rfl rfl ?_
              refine op_idx1 (nxgf rfl rfl rfl rfl) se55 rfl rfl sO (show _ = (((i : Nat)) : Int) from by omega) (by omega) rfl ?_
              refine op_loadE (nxgf rfl rfl rfl rfl) sc22 rfl sO (by first | exact get8 (by omega) | exact get64 (by omega) | exact get32 (by omega) | exact hv2) (by first | exact mem0 | exact mem1 | exact mem2 | exact mem3 | exact mem4 | exact mem5 | exact mem6 | exact mem7 | exact mem8 | exact mem9) rfl ?_
              refine op_move (nxgf rfl rfl rfl rfl) rfl rfl ?_
              refine op_idx1 (nxgf rfl rfl rfl rfl) se22 rfl rfl hr2 (show _ = (((k : Nat)) : Int) from by omega) (by omega) rfl ?_
              refine op_loadE (nxgf rfl rfl rfl rfl) sc5 rfl hr2 (by first | exact get8 (by omega) | exact get64 (by omega) | exact get32 (by omega)) (by first | exact mem0 | exact mem1 | exact mem2 | exact mem3 | exact mem4 | exact mem5 | exact mem6 | exact mem7 | exact mem8 | exact mem9) rfl ?_
              refine op_move (nxgf rfl rfl rfl rfl) rfl rfl ?_
              refine op_rem (nxgf rfl rfl rfl rfl) rfl rfl (by omega) (by omega) rfl ?_
              refine op_addI (nxgf rfl rfl rfl rfl) rfl rfl (by omega) (by omega) rfl ?_
              refine op_conv8 (nxgf rfl rfl rfl rfl) (und_some Try.underlying3) Try.underlying5 rfl (show _ = (((125 + i % 125 : Nat)) : Int) from by omega) rfl ?_
              refine op_neq (nxgf rfl rfl rfl rfl) rfl rfl rfl ?_
              refine op_pickT (nxgf rfl rfl rfl rfl) rfl rfl rfl ?_
              refine op_pickF (nxlf rfl) rfl rfl rfl ?_
              refine At.opsNil ?_
              refine At.norm (hk_12 ?_)
              refine At.condP rfl (fun c81 => ?_) (fun c81 => ?_)
              · first | (exfalso; omega) | exact absurd (by rw [look2 (by omega) (by omega)]) c81
              · refine At.skip ?_
                refine At.inNorm ?_
                refine At.norm (hk_11 ?_)
                refine At.region ?_
                refine op_move (nxlf rfl) rfl rfl ?_
                refine op_addI (nxlf rfl) rfl rfl (by omega) (by omega) rfl ?_
                refine op_assign (nxlf rfl) rfl rfl ?_
                refine At.opsNil ?_
                refine At.norm ?_
                refine At.back ?_ (.refl _) ⟨k + 1, rfl, rfl, rfl, by omega⟩ ?_
                · exact .cons (by first | exact lkI rfl (by omega) | rfl) (.cons (by first | exact lkI rfl (by omega) | rfl) (.cons (by first | exact lkI rfl (by omega) | rfl) (.cons (by first | exact lkI rfl (by omega) | rfl) (.cons (by first | exact lkI rfl (by omega) | rfl) .nil))))
                · omega
            · refine op_skip rfl rfl rfl rfl rfl rfl rfl ?_
              refine op_skip rfl rfl rfl rfl rfl rfl rfl ?_
              refine op_skip rfl rfl rfl rfl rfl rfl rfl ?_
              refine op_skip rfl rfl rfl rfl rfl rfl rfl ?_
              refine op_skip rfl rfl rfl rfl rfl rfl rfl ?_
              refine op_skip rfl rfl rfl rfl rfl rfl rfl ?_
              refine op_skip rfl rfl rfl rfl rfl rfl rfl ?_
              refine op_skip rfl rfl rfl rfl rfl rfl rfl ?_
              refine op_skip rfl rfl rfl rfl rfl rfl rfl ?_
              refine op_skip rfl rfl rfl rfl rfl rfl rfl ?_
              refine op_skip rfl rfl rfl rfl rfl rfl rfl ?_
              refine op_skip rfl rfl rfl rfl rfl rfl rfl ?_
              refine op_pickF (nxgf rfl rfl rfl rfl) rfl rfl rfl ?_
              refine op_pickF (nxlf rfl) rfl rfl rfl ?_
              refine At.opsNil ?_
              refine At.norm (hk_12 ?_)
              refine At.condF rfl ?_
              refine At.skip ?_
              refine At.inNorm ?_
              refine At.norm (hk_11 ?_)
              refine At.region ?_
              refine op_move (nxlf rfl) rfl rfl ?_
              refine op_addI (nxlf rfl) rfl rfl (by omega) (by omega) rfl ?_
              refine op_assign (nxlf rfl) rfl rfl ?_
              refine At.opsNil ?_
              refine At.norm ?_
              refine At.back ?_ (.refl _) ⟨k + 1, rfl, rfl, rfl, by omega⟩ ?_
              · exact .cons (by first | exact lkI rfl (by omega) | rfl) (.cons (by first | exact lkI rfl (by omega) | rfl) (.cons (by first | exact lkI rfl (by omega) | rfl) (.cons (by first | exact lkI rfl (by omega) | rfl) (.cons (by first | exact lkI rfl (by omega) | rfl) .nil))))
              · omega
      · refine op_skip rfl rfl rfl rfl rfl rfl rfl ?_
        refine op_skip rfl rfl rfl rfl rfl rfl rfl ?_
        refine op_skip rfl rfl rfl rfl rfl rfl rfl ?_
        refine op_skip rfl rfl rfl rfl rfl rfl rfl ?_
        refine op_skip rfl rfl rfl rfl rfl rfl rfl ?_
        refine op_skip rfl rfl rfl rfl rfl rfl rfl ?_
        refine op_skip rfl rfl rfl rfl rfl rfl rfl ?_
        refine op_skip rfl rfl rfl rfl rfl rfl rfl ?_
        refine op_skip rfl rfl rfl rfl rfl rfl rfl ?_
        refine op_skip rfl rfl rfl rfl rfl rfl rfl ?_
        refine op_skip rfl rfl rfl rfl rfl rfl rfl ?_
        refine op_skip rfl rfl rfl rfl rfl rfl rfl ?_
        refine op_skipU rfl rfl rfl rfl rfl rfl ?_
        refine op_skipU rfl rfl rfl rfl rfl rfl ?_
        refine op_skipU rfl rfl rfl rfl rfl rfl ?_
        refine op_skipU rfl rfl rfl rfl rfl rfl ?_
        refine op_skipU rfl rfl rfl rfl rfl rfl ?_
        refine op_skipU rfl rfl rfl rfl rfl rfl ?_
        refine op_skipU rfl rfl rfl rfl rfl rfl ?_
        refine op_skipU rfl rfl rfl rfl rfl rfl ?_
        refine op_skipU rfl rfl rfl rfl rfl rfl ?_
        refine op_skipU rfl rfl rfl rfl rfl rfl ?_
        refine op_skipU rfl rfl rfl rfl rfl rfl ?_
        refine op_skipU rfl rfl rfl rfl rfl rfl ?_
        refine op_skipU rfl rfl rfl rfl rfl rfl ?_
        refine op_skipU rfl rfl rfl rfl rfl rfl ?_
        refine op_skip rfl rfl rfl rfl rfl rfl rfl ?_
        refine op_pickF (nxlf rfl) rfl rfl rfl ?_
        refine op_move (nxlf rfl) rfl rfl ?_
        refine op_move (nxgf rfl rfl rfl rfl) rfl rfl ?_
        refine op_move (nxgf rfl rfl rfl rfl) rfl rfl ?_
        refine op_geq (nxgf rfl rfl rfl rfl) rfl rfl rfl ?_
        refine op_move (nxgf rfl rfl rfl rfl) rfl rfl ?_
        refine At.partP (d := 67) rfl (fun g67 => ?_) (fun g67 => ?_)
        · refine op_move (nxgf rfl rfl rfl rfl) rfl rfl ?_
          refine op_move (nxgf rfl rfl rfl rfl) rfl rfl ?_
          refine op_idx1 (nxgf rfl rfl rfl rfl) se55 rfl rfl sO (show _ = (((i : Nat)) : Int) from by omega) (by omega) rfl ?_
          refine op_loadE (nxgf rfl rfl rfl rfl) sc22 rfl sO (by first | exact get8 (by omega) | exact get64 (by omega) | exact get32 (by omega) | exact hv2) (by first | exact mem0 | exact mem1 | exact mem2 | exact mem3 | exact mem4 | exact mem5 | exact mem6 | exact mem7 | exact mem8 | exact mem9) rfl ?_
          refine op_move (nxgf rfl rfl rfl rfl) rfl rfl ?_
          refine op_idx1 (nxgf rfl rfl rfl rfl) se22 rfl rfl hr2 (show _ = (((k : Nat)) : Int) from by omega) (by omega) rfl ?_
          refine op_loadE (nxgf rfl rfl rfl rfl) sc5 rfl hr2 (by first | exact get8 (by omega) | exact get64 (by omega) | exact get32 (by omega)) (by first | exact mem0 | exact mem1 | exact mem2 | exact mem3 | exact mem4 | exact mem5 | exact mem6 | exact mem7 | exact mem8 | exact mem9) rfl ?_
          refine op_move (nxgf rfl rfl rfl rfl) rfl rfl ?_
          refine op_rem (nxgf rfl rfl rfl rfl) rfl rfl (by omega) (by omega) rfl ?_
          refine op_addI (nxgf rfl rfl rfl rfl) rfl rfl (by omega) (by omega) rfl ?_
          refine op_conv8 (nxgf rfl rfl rfl rfl) (und_some Try.underlying3) Try.underlying5 rfl (show _ = (((125 + i % 125 : Nat)) : Int) from by omega) rfl ?_
          refine op_neq (nxgf rfl rfl rfl rfl) rfl rfl rfl ?_
          refine op_pickT (nxgf rfl rfl rfl rfl) rfl rfl rfl ?_
          refine op_pickF (nxlf rfl) rfl rfl rfl ?_
          refine At.opsNil ?_
          refine At.norm (hk_12 ?_)
          refine At.condP rfl (fun c81 => ?_) (fun c81 => ?_)
          · first | (exfalso; omega) | exact absurd (by rw [look2 (by omega) (by omega)]) c81
          · refine At.skip ?_
            refine At.inNorm ?_
            refine At.norm (hk_11 ?_)
            refine At.region ?_
            refine op_move (nxlf rfl) rfl rfl ?_
            refine op_addI (nxlf rfl) rfl rfl (by omega) (by omega) rfl ?_
            refine op_assign (nxlf rfl) rfl rfl ?_
            refine At.opsNil ?_
            refine At.norm ?_
            refine At.back ?_ (.refl _) ⟨k + 1, rfl, rfl, rfl, by omega⟩ ?_
            · exact .cons (by first | exact lkI rfl (by omega) | rfl) (.cons (by first | exact lkI rfl (by omega) | rfl) (.cons (by first | exact lkI rfl (by omega) | rfl) (.cons (by first | exact lkI rfl (by omega) | rfl) (.cons (by first | exact lkI rfl (by omega) | rfl) .nil))))
            · omega
        · refine op_skip rfl rfl rfl rfl rfl rfl rfl ?_
          refine op_skip rfl rfl rfl rfl rfl rfl rfl ?_
          refine op_skip rfl rfl rfl rfl rfl rfl rfl ?_
          refine op_skip rfl rfl rfl rfl rfl rfl rfl ?_
          refine op_skip rfl rfl rfl rfl rfl rfl rfl ?_
          refine op_skip rfl rfl rfl rfl rfl rfl rfl ?_
          refine op_skip rfl rfl rfl rfl rfl rfl rfl ?_
          refine op_skip rfl rfl rfl rfl rfl rfl rfl ?_
          refine op_skip rfl rfl rfl rfl rfl rfl rfl ?_
          refine op_skip rfl rfl rfl rfl rfl rfl rfl ?_
          refine op_skip rfl rfl rfl rfl rfl rfl rfl ?_
          refine op_skip rfl rfl rfl rfl rfl rfl rfl ?_
          refine op_pickF (nxgf rfl rfl rfl rfl) rfl rfl rfl ?_
          refine op_pickF (nxlf rfl) rfl rfl rfl ?_
          refine At.opsNil ?_
          refine At.norm (hk_12 ?_)
          refine At.condF rfl ?_
          refine At.skip ?_
          refine At.inNorm ?_
          refine At.norm (hk_11 ?_)
          refine At.region ?_
          refine op_move (nxlf rfl) rfl rfl ?_
          refine op_addI (nxlf rfl) rfl rfl (by omega) (by omega) rfl ?_
          refine op_assign (nxlf rfl) rfl rfl ?_
          refine At.opsNil ?_
          refine At.norm ?_
          refine At.back ?_ (.refl _) ⟨k + 1, rfl, rfl, rfl, by omega⟩ ?_
          · exact .cons (by first | exact lkI rfl (by omega) | rfl) (.cons (by first | exact lkI rfl (by omega) | rfl) (.cons (by first | exact lkI rfl (by omega) | rfl) (.cons (by first | exact lkI rfl (by omega) | rfl) (.cons (by first | exact lkI rfl (by omega) | rfl) .nil))))
          · omega
    · refine At.exit (At.thenExit (At.thenExit (At.inHit ?_)))
      refine At.inNorm ?_
      refine At.norm (hk_6 ?_)
      refine At.region ?_
      refine op_move (nxlf rfl) rfl rfl ?_
      refine op_addI (nxlf rfl) rfl rfl (by omega) (by omega) rfl ?_
      refine op_assign (nxlf rfl) rfl rfl ?_
      refine At.opsNil ?_
      refine At.norm ?_
      refine At.back ?_ (.refl _) ⟨i + 1, rfl, rfl, rfl, by omega⟩ ?_
      · exact .cons (by first | exact lkI rfl (by omega) | rfl) (.cons (by first | exact lkI rfl (by omega) | rfl) (.cons (by first | exact lkI rfl (by omega) | rfl) .nil))
      · omega
  · refine At.exit (At.thenExit (At.thenExit (At.inHit ?_)))
    refine At.norm (hk_2 ?_)
    refine At.seq fun K13 hk_13 => ?_
    refine At.region ?_
    refine op_assign (nxlf rfl) rfl rfl ?_
    refine At.opsNil ?_
    refine At.norm (hk_13 ?_)
    refine At.ret (?_)
    refine At.ret1 (L1 := [N0, NF, NI]) rfl (.tmp rfl .nil) (.refl _) (.refl _) ?_
    exact ⟨rfl, rfl⟩
end Go.Proofs.Ytohmmgggaegbbaa
