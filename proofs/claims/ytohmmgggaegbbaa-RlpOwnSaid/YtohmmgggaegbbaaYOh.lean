/- quarrylaw05.RlpOwn answers true. No condition. -/
import Derived.Test.YtohmmgggaegbbaaYDp
import Derived.Test.YtohmmgggaegbbaaYOf
import Derived.Test.YtohmmgggaegbbaaYV4
import Derived.Test.YtohmmgggaegbbaaYK3
namespace Go.Proofs.Ytohmmgggaegbbaa
set_option linter.unusedVariables false
set_option linter.unusedSimpArgs false
open Go Go.RowKit
theorem cell_of {xs : List IV} {k f : Nat} {x : IV} {v : Value} (h : xs[k]? = some x) (hf : f < 3) (hv : x.cells[f]? = some v) : (cellsI xs)[k * 3 + f]? = some v := by
  have e := cells_at h
  have e2 : (((cellsI xs).drop (k * 3)).take 3)[f]? = some v := by rw [e]; exact hv
  rwa [List.getElem?_take, if_pos hf, List.getElem?_drop] at e2
theorem size_get : ∀ {its : List It} {j : Nat} {u : It}, its[j]? = some u → sizeT u ≤ sizesT its
  | [], j, u, h => by simp at h
  | t :: ts, 0, u, h => by
    simp only [List.getElem?_cons_zero, Option.some.injEq] at h
    subst h
    simp only [sizesT]; omega
  | t :: ts, j + 1, u, h => by
    have := size_get (its := ts) (j := j) (u := u) (by simpa using h)
    simp only [sizesT]; omega
theorem length_sizes : ∀ its : List It, its.length ≤ sizesT its
  | [] => by simp [sizesT]
  | t :: ts => by
    have := length_sizes ts
    cases t
    simp only [sizesT, sizeT, List.length_cons]; omega
theorem field_bytes (w : World) (a b c : Value) : (Instr.field 25 (.agg [a, b, c].toArray) 1).run Try.prog w = .ok b w := by
  simp [Instr.field, Sem.run_bind, run_underlying Try.underlying25, part, isAgg, run_underlying Try.underlying22, asAgg]
theorem it_mk (t : It) : ∃ l bs its, t = .mk l bs its := by
  cases t with
  | mk l bs its => exact ⟨l, bs, its, rfl⟩
theorem take_next {α : Type} {l : List α} {j : Nat} {u : α} (h : l[j]? = some u) : l.take (j + 1) = l.take j ++ [u] := by
  obtain ⟨hlt, rfl⟩ := List.getElem?_eq_some_iff.1 h
  exact List.take_succ_eq_append_getElem hlt
theorem drop_next {α : Type} {l : List α} {j : Nat} {u : α} (h : l[j]? = some u) : l.drop j = u :: l.drop (j + 1) := by
  obtain ⟨hlt, rfl⟩ := List.getElem?_eq_some_iff.1 h
  exact List.drop_eq_getElem_cons hlt
/-- The first slice of a bag, taken out with its block. -/
theorem At.pop {n : Nat} {l : List (Nat × Value)} {E : World} {L : List Heaplet} {K : Act → World → Prop} {e : TypeId} {N : Heaplet} {p : Option Addr} {m c : Nat} {vs : List Value} {xs : List (List UInt8)} (hb : Bag e N (Value.slice p m c :: vs) xs)
    (h : ∀ (A B : Heaplet) (x : List UInt8) (ys : List (List UInt8)), xs = x :: ys → Row A e 1 p m c (u8s x) → Bag e B vs ys → At n l E (A :: B :: L) K) : At n l E (N :: L) K := by
  obtain ⟨x, ys, rfl⟩ : ∃ x ys, xs = x :: ys := by
    cases xs with
    | nil => have := hb.len; simp at this
    | cons x ys => exact ⟨x, ys, rfl⟩
  obtain ⟨p', c', h1, h2⟩ := hb.row 0 x rfl
  simp only [List.getElem?_cons_zero, Option.some.injEq, Value.slice.injEq] at h1
  obtain ⟨rfl, rfl, rfl⟩ := h1
  have rest : ∀ B : Heaplet, (∀ (i : Nat) (y : List UInt8), ys[i]? = some y → ∀ (q : Option Addr) (d : Nat), vs[i]? = some (Value.slice q y.length d) → Row N e 1 q y.length d (u8s y) → Row B e 1 q y.length d (u8s y)) → Bag e B vs ys := fun B hB => by
    refine ⟨by have := hb.len; simpa using this, fun i y hy => ?_, fun i j p q n m c d hij hi hj => hb.apart (i + 1) (j + 1) p q n m c d (by omega) (by simpa using hi) (by simpa using hj)⟩
    obtain ⟨q, d, e1, e2⟩ := hb.row (i + 1) y (by simpa using hy)
    have e1' : vs[i]? = some (Value.slice q y.length d) := by simpa using e1
    exact ⟨q, d, e1', hB i y hy q d e1' e2⟩
  rcases h2.block with ⟨hp, hm, hc⟩ | ⟨b, o, hp, hN⟩
  · intro a w hf hw
    refine h nilH N x ys rfl ?_ (rest N fun i y hy q d _ hr => hr) a w hf ⟨hw.os, hw.tape, hw.output, fun M hM => by
      rcases List.mem_cons.1 hM with rfl | hM
      · intro k o hk; cases hk
      · exact hw.sub M hM, by rw [List.pairwise_cons]; exact ⟨fun _ _ _ => .inl rfl, hw.sep⟩⟩
    have hx : x = [] := List.eq_nil_of_length_eq_zero hm
    subst hx
    rw [hp, hc]; exact Row.nil _ _ _
  · intro a w hf hw
    have hs := List.pairwise_cons.1 hw.sep
    have hA : Heaplet.le (fun k => if k = b then N k else none) N := fun k o hk => by
      by_cases hkb : k = b
      · simp only [if_pos hkb] at hk; exact hk
      · simp only [if_neg hkb] at hk; cases hk
    have hB : Heaplet.le (fun k => if k = b then none else N k) N := fun k o hk => by
      by_cases hkb : k = b
      · simp only [if_pos hkb] at hk; cases hk
      · simp only [if_neg hkb] at hk; exact hk
    refine h (fun k => if k = b then N k else none) (fun k => if k = b then none else N k) x ys rfl ?_ (rest _ fun i y hy q d hq hr => ?_) a w hf ⟨hw.os, hw.tape, hw.output, fun M hM => ?_, ?_⟩
    · obtain ⟨h1, h2', h3, h4⟩ := h2
      refine ⟨h1, h2', h3, ?_⟩
      rcases h4 with h4 | ⟨b', cur, ha, hc, hcs, ht⟩
      · exact .inl h4
      · rw [hp] at ha; cases ha
        exact .inr ⟨b, cur, hp, by simp only [if_pos]; exact hc, hcs, ht⟩
    · refine hr.off (p := p) ⟨b, hp, fun k hk => if_neg hk⟩ ?_
      have := hb.apart (i + 1) 0 q p _ _ _ _ (by omega) (by simpa using hq) rfl
      exact this
    · rcases List.mem_cons.1 hM with rfl | hM
      · exact Heaplet.le_trans hA (hw.sub N (List.mem_cons_self ..))
      · rcases List.mem_cons.1 hM with rfl | hM
        · exact Heaplet.le_trans hB (hw.sub N (List.mem_cons_self ..))
        · exact hw.sub M (List.mem_cons_of_mem _ hM)
    · rw [List.pairwise_cons, List.pairwise_cons]
      refine ⟨fun M hM => ?_, fun M hM => (hs.1 M hM).le hB (Heaplet.le_refl _), hs.2⟩
      rcases List.mem_cons.1 hM with rfl | hM
      · intro k
        by_cases hkb : k = b
        · exact .inr (if_pos hkb)
        · exact .inl (if_neg hkb)
      · exact (hs.1 M hM).le hA (Heaplet.le_refl _)
theorem row_some {N : Heaplet} {size : Nat} {ao : Option Addr} {n cap : Nat} {xs : List Value} (h : RSl N size ao n cap xs) (hn : 0 < n) : ao.isSome = true := by
  obtain ⟨b, off, e, _⟩ := h.2.2.2 hn
  rw [e]; rfl
theorem zs_more {NI NI' M : Heaplet} {its : List It} {j : Nat} {u : It} {zs : List IV} {z : IV} (h : ∀ J, NI.le J → M.le J → ItsN J (its.take j) zs) (hu : its[j]? = some u) (hl : NI.le NI') (hz : ∀ J, NI'.le J → M.le J → ItN J u z) : ∀ J, NI'.le J → M.le J → ItsN J (its.take (j + 1)) (zs ++ [z]) := by
  intro J h1 h2
  rw [take_next hu]
  exact (h J (Heaplet.le_trans hl h1) h2).snoc (hz J h1 h2)
theorem set_other {cs : List Value} {j i : Nat} {v u : Value} (h : cs[i * 3 + 1]? = some u) : (setL cs (j * 3 + 0) [v])[i * 3 + 1]? = some u := by
  rw [setL, setL, List.getElem?_set_ne (by omega)]
  exact h
set_option maxRecDepth 100000 in
set_option maxHeartbeats 4000000 in
theorem RlpOwn_f {N : Heaplet} {t : It} {x : IV} {ao : Option Addr} {n cap : Nat} {raw : List UInt8} (h : ItN N t x) (ha : RSl N 1 ao n cap (u8s raw)) :
    Fn Try.prog 9 #[.agg #[.bool x.l, .slice x.ab x.nb x.cb, .slice x.ai x.ni x.ci], .slice ao n cap] [] [N] (fun v L => v = .bool true ∧ L = []) := by
  obtain ⟨rw3, hrw⟩ : ∃ z, z = raw.take 300 := ⟨_, rfl⟩
  have hrl : rw3.length ≤ 300 := by rw [hrw, List.length_take]; omega
  have hof : (bytesOf (v64 [9, 9, 0, 0])).length ≤ 100 := by decide +kernel
  have hOf := Of_f 9 9 0 0
  unfold OfP at hOf
  generalize bytesOf (v64 [9, 9, 0, 0]) = w9 at hOf hof
  refine Fn.enter (vs := [.agg #[.bool x.l, .slice x.ab x.nb x.cb, .slice x.ai x.ni x.ci], .slice ao n cap]) Try.func9 rfl rfl rfl ?_
  intro E R hR
  have h := h.le (hR N (by simp))
  have ha := ha.le (hR N (by simp))
  change At _ _ E [R] _
  refine At.seq fun K1 hk_1 => ?_
  refine At.region ?_
  refine op_box (nxla rfl) rfl rfl rfl (fun N2 b2 B2 => ?_)
  refine op_assign (nxlf rfl) rfl rfl ?_
  refine At.opsNil ?_
  refine At.norm (hk_1 ?_)
  refine At.seq fun K2 hk_2 => ?_
  refine At.region ?_
  refine op_alloc (nxla rfl) ze3 rfl (fun N5 b5 B5 => ?_)
  change Blk N5 b5 _ [.int .i64 0] at B5
  refine op_store (nxl rfl) sz3 rfl rfl rfl rfl rfl B5 (by simp) sel0 (fun N5 B5 => ?_)
  simp only [setL, List.set] at B5
  refine At.opsNil ?_
  refine At.norm (hk_2 ?_)
  refine At.seq fun K3 hk_3 => ?_
  refine At.region ?_
  refine op_loadAggB (ds := [_, _, _]) (nxlf rfl) ag25 rfl B2 rfl rfl mem1 rfl ?_
  refine op_call (nxl rfl) (.cons rfl (.cons rfl (.cons rfl .nil))) (Twin_f t R N5 x b5 5 100 5 h B5 (by omega) (by omega) (by omega) (by omega)) (F := [N2, R]) Try.func25 rfl rfl (.refl _) (by simp) rfl ?_
  rintro v22 L22 ⟨N5, M22, y, t', left', rfl, rfl, B5, hy, hyd, hys, hyl⟩
  change At _ _ _ [N5, M22, N2, R] _
  skip
  refine op_alloc (nxla rfl) ze25 rfl (fun N6 b6 B6 => ?_)
  change Blk N6 b6 _ [.bool false, .slice none 0 0, .slice none 0 0] at B6
  refine op_store (nxl rfl) sz25 rfl rfl rfl rfl rfl B6 (by simp) sel0 (fun N6 B6 => ?_)
  simp only [setL, List.set] at B6
  refine At.opsNil ?_
  refine At.norm (hk_3 ?_)
  refine At.seq fun K4 hk_4 => ?_
  refine At.region ?_
  refine op_build (out := [.slice none 0 0, .slice none 0 0]) (nxlf rfl) ze57 pl57 .nil rfl rfl ?_
  refine op_box (nxla rfl) rfl rfl rfl (fun N24 b24 B24 => ?_)
  refine op_assign (nxlf rfl) rfl rfl ?_
  refine At.opsNil ?_
  refine At.norm (hk_4 ?_)
  refine At.seq fun K5 hk_5 => ?_
  refine At.region ?_
  refine op_build (out := [.slice none 0 0, .slice none 0 0, .slice none 0 0, .slice none 0 0, .int .i64 0]) (nxlf rfl) ze60 pl60 .nil rfl rfl ?_
  refine op_box (nxla rfl) rfl rfl rfl (fun N26 b26 B26 => ?_)
  refine op_assign (nxlf rfl) rfl rfl ?_
  refine At.opsNil ?_
  refine At.norm (hk_5 ?_)
  refine At.seq fun K6 hk_6 => ?_
  refine At.seq fun K7 hk_7 => ?_
  refine At.region ?_
  refine op_assign (nxlf rfl) rfl rfl ?_
  refine At.opsNil ?_
  refine At.norm (hk_7 ?_)
  refine At.block ?_
  have hL0 := Loan.start B24
  have hB0 := Book.start B26
  obtain ⟨l, bs, its, hmk⟩ := it_mk t'
  have hszt : sizeT t' ≤ 40900 := by omega
  have hfl : t'.form.length ≤ 1099511627776 := Nat.le_trans (form_size _ (by omega)) (by omega)
  have hdep : t'.depth ≤ 1024 := by omega
  have hy0 := hy
  rw [hmk] at hy
  simp only [ItN] at hy
  obtain ⟨hyl', hyb, ys, hyr, hys2⟩ := hy
  have hbl := hyb.len8
  have hyn := hys2.length
  have hyn2 : ys.length = y.ni := by have := hyr.1; rw [length_cellsI] at this; omega
  have hil := length_sizes its
  have hsz2 : 9 + bs.length + sizesT its ≤ 40900 := by have h9 := hszt; rw [hmk] at h9; simpa only [sizeT] using h9
  have hsame := It.same_self t'
  clear hszt hyd hys
  refine At.empty ?_
  refine At.empty ?_
  refine At.sub (L' := [nilH, nilH, N26, N24, N6, M22, R]) (.cons_cons _ (.cons_cons _ (.cons_cons _ (.cons_cons _ (.cons_cons _ (.cons _ (.cons_cons _ (.cons _ (.cons_cons _ (.slnil)))))))))) ?_
  refine At.perm sel6 ?_
  refine At.perm sel1 ?_
  refine At.perm sel3 ?_
  refine At.perm sel3 ?_
  refine At.perm sel4 ?_
  refine At.perm sel6 ?_
  refine At.perm sel6 ?_
  refine At.loop (fun fr_ hp_ ms_ => ∃ (i : Nat) (NL NI NB NJ : Heaplet), fr_ = [(1, .slice ao n cap), (6, .pointer (some ⟨b6, 0, none⟩)), (7, .pointer (some ⟨b24, 0, none⟩)), (8, .pointer (some ⟨b26, 0, none⟩)), (9, .int .i64 (i : Int))] ∧ hp_ = [N6, M22, NL, NI, NB, NJ, R] ∧ 3 - i = ms_ ∧ (i ≤ 3) ∧ (Loan b24 NL NI (60000 * i)) ∧ (Book b26 NB NJ)) ?_ (.refl _) ⟨0, N24, nilH, N26, nilH, rfl, rfl, rfl, by omega, hL0, hB0⟩ ?_
  · exact .cons (by first | exact lkI rfl (by omega) | rfl) (.cons (by first | exact lkI rfl (by omega) | rfl) (.cons (by first | exact lkI rfl (by omega) | rfl) (.cons (by first | exact lkI rfl (by omega) | rfl) (.cons (by first | exact lkI rfl (by omega) | rfl) .nil))))
  rintro _ _ _ ⟨i, NL, NI, NB, NJ, rfl, rfl, rfl, hi, hL, hB⟩
  refine At.seq fun K8 hk_8 => ?_
  refine At.seq fun K9 hk_9 => ?_
  refine At.region ?_
  refine op_move (nxlf rfl) rfl rfl ?_
  refine op_lss (nxlf rfl) rfl rfl rfl ?_
  refine At.opsNil ?_
  refine At.norm (hk_9 ?_)
  refine At.condP rfl (fun c28 => ?_) (fun c28 => ?_)
  · refine At.skip ?_
    refine At.norm (hk_8 ?_)
    refine At.seq fun K10 hk_10 => ?_
    refine At.block ?_
    refine At.seq fun K11 hk_11 => ?_
    refine At.perm sel6 ?_
    refine At.perm sel1 ?_
    refine At.perm sel6 ?_
    refine At.perm sel6 ?_
    refine At.perm sel6 ?_
    refine At.perm sel6 ?_
    refine At.perm sel6 ?_
    refine At.planS [N6, R] (.take 0 (.take 1 (.take 2 (.take 3 (.take 4 (.fork 5 false (.take 6 (.fork 7 false (.fork 8 true .done .nofork) .nofork)) (.fork 7 false (.fork 5 false (.take 6 (.fork 8 true .done .nofork)) .nofork) .nofork))))))) (by kernel_rfl) (by kernel_rfl) (.cons _ (.cons _ (.cons _ (.cons _ (.cons _ (.refl _)))))) ?_
    refine op_fieldAddr (nxpf rfl rfl) fl25_0 rfl rfl ?_
    refine op_loadB (nxpf rfl rfl) sc4 rfl B6 (by first | rfl) mem0 rfl ?_
    refine op_move (nxpf rfl rfl) rfl rfl ?_
    refine op_fieldAddr (nxpf rfl rfl) fl25_1 rfl rfl ?_
    refine op_loadB (nxpf rfl rfl) sc22 rfl B6 (by first | rfl) mem0 rfl ?_
    refine At.fork ?_ ?_
    rotate_left
    · refine At.fork ?_ ?_
      rotate_left
      · exact At.pNo
      refine op_alloc (Nx.agree (nxpa rfl rfl)) ze25 rfl (fun N10 b10 B10 => ?_)
      change Blk N10 b10 _ [.bool false, .slice none 0 0, .slice none 0 0] at B10
      refine At.andS (.cons _ (.cons _ (.cons _ (.cons _ (.cons _ (.cons _ (.refl _))))))) ?_
      refine At.fork ?_ ?_
      rotate_left
      · exact At.pNo
      refine At.perm sel7 ?_
      refine At.perm sel7 ?_
      refine At.perm sel7 ?_
      refine At.perm sel7 ?_
      refine At.perm sel5 ?_
      refine At.perm sel5 ?_
      refine At.perm sel7 ?_
      refine At.perm sel7 ?_
      refine op_call (nxpa rfl rfl) (.cons rfl (.cons rfl .nil)) (LoanBytes_f hL hyb (by omega) (by omega)) (F := [N10, M22, NB, NJ, N6, R]) Try.func26 rfl rfl (.refl _) (by simp) rfl ?_
      rintro v36 L36 ⟨NL, NI, p36, c36, rfl, rfl, hL, le36, s36⟩
      change At _ _ _ [NL, NI, N10, M22, NB, NJ, N6, R] _
      skip
      refine At.andS (.cons _ (.cons _ (.cons _ (.cons _ (.cons _ (.cons _ (.refl _))))))) ?_
      refine op_build (out := [_, _, .slice none 0 0]) (nxpf rfl rfl) ze25 pl25 (.cons rfl (.cons rfl .nil)) rfl rfl ?_
      refine At.fork ?_ ?_
      rotate_left
      · exact At.pNo
      refine op_store (nxpl rfl rfl) sz25 rfl rfl rfl rfl rfl B10 (by simp) sel2 (fun N10 B10 => ?_)
      simp only [setL, List.set] at B10
      refine At.pDone ?_
      refine At.norm (hk_11 ?_)
      refine At.seq fun K12 hk_12 => ?_
      refine At.seq fun K13 hk_13 => ?_
      refine At.region ?_
      refine op_assign (nxlf rfl) rfl rfl ?_
      refine At.opsNil ?_
      refine At.norm (hk_13 ?_)
      refine At.block ?_
      refine At.empty ?_
      refine At.perm sel8 ?_
      refine At.perm sel7 ?_
      refine At.perm sel7 ?_
      refine At.perm sel6 ?_
      refine At.perm sel6 ?_
      refine At.perm sel7 ?_
      refine At.perm sel6 ?_
      refine At.perm sel7 ?_
      refine At.perm sel8 ?_
      refine At.loop (fun fr_ hp_ ms_ => ∃ (j : Nat) (N10 NL NI NZ : Heaplet) (az : Option Addr) (cz : Nat) (zs : List IV), fr_ = [(1, .slice ao n cap), (6, .pointer (some ⟨b6, 0, none⟩)), (7, .pointer (some ⟨b24, 0, none⟩)), (8, .pointer (some ⟨b26, 0, none⟩)), (9, .int .i64 (i : Int)), (10, .pointer (some ⟨b10, 0, none⟩)), (11, .int .i64 (j : Int))] ∧ hp_ = [N6, N10, NZ, M22, NL, NI, NB, NJ, R] ∧ its.length - j = ms_ ∧ (j ≤ its.length) ∧ (Blk N10 b10 25 [.bool y.l, .slice p36 y.nb c36, .slice az j cz]) ∧ (Row NZ 25 3 az j cz (cellsI zs)) ∧ (Loan b24 NL NI (60000 * i + 1 + j)) ∧ (RSl NI 1 p36 y.nb c36 (u8s bs)) ∧ (∀ J, NI.le J → M22.le J → ItsN J (its.take j) zs)) ?_ (.refl _) ⟨0, N10, NL, NI, nilH, none, 0, [], rfl, rfl, rfl, by omega, B10, Row.nil _ _ _, hL, s36, fun J _ _ => rfl⟩ ?_
      · exact .cons (by first | exact lkI rfl (by omega) | rfl) (.cons (by first | exact lkI rfl (by omega) | rfl) (.cons (by first | exact lkI rfl (by omega) | rfl) (.cons (by first | exact lkI rfl (by omega) | rfl) (.cons (by first | exact lkI rfl (by omega) | rfl) (.cons (by first | exact lkI rfl (by omega) | rfl) (.cons (by first | exact lkI rfl (by omega) | rfl) .nil))))))
      rintro _ _ _ ⟨j, N10, NL, NI, NZ, az, cz, zs, rfl, rfl, rfl, hj, B10, rZ, hL, s36, hz⟩
      refine At.seq fun K14 hk_14 => ?_
      refine At.seq fun K15 hk_15 => ?_
      refine At.region ?_
      refine op_move (nxlf rfl) rfl rfl ?_
      refine op_fieldAddr (nxlf rfl) fl25_2 rfl rfl ?_
      refine op_loadB (nxlf rfl) sc23 rfl B6 (by first | rfl) mem0 rfl ?_
      refine op_lenS (nxlf rfl) se23 rfl rfl ?_
      refine op_lss (nxlf rfl) rfl rfl rfl ?_
      refine At.opsNil ?_
      refine At.norm (hk_15 ?_)
      refine At.condP rfl (fun c42 => ?_) (fun c42 => ?_)
      · obtain ⟨u, hu⟩ := get_lt (xs := its) (i := j) (by omega)
        obtain ⟨w, hw, hiw⟩ := hys2.get hu
        have hsu := size_get hu
        obtain ⟨l1, bs1, its1, hmk1⟩ := it_mk u
        rw [hmk1] at hiw hsu
        simp only [ItN] at hiw
        obtain ⟨e1, hb', ws, hr', hs'⟩ := hiw
        have hbl1 := hb'.len8
        simp only [sizeT] at hsu
        have hyi : y.ai.isSome = true := row_some hyr (by omega)
        refine At.skip ?_
        refine At.norm (hk_14 ?_)
        refine At.seq fun K16 hk_16 => ?_
        refine At.block ?_
        refine At.perm sel8 ?_
        refine At.perm sel4 ?_
        refine At.perm sel3 ?_
        refine At.perm sel3 ?_
        refine At.perm sel8 ?_
        refine At.perm sel8 ?_
        refine At.perm sel8 ?_
        refine At.perm sel8 ?_
        refine At.perm sel8 ?_
        refine At.drawnS [N6, N10, M22, R] [24,26] [4,18] [0,1,2,3,4,5,6,7,8,9,10,11,12,13,14,16,17,18,19,20,21,15,22,23,24,25,26] (by kernel_rfl) (by kernel_rfl) (.cons _ (.cons _ (.cons _ (.cons _ (.cons _ (.refl _)))))) ?_
        refine op_fieldAddr (nxsf rfl rfl rfl) fl25_2 rfl rfl ?_
        refine op_loadB (nxsf rfl rfl rfl) sc23 rfl B10 (by first | rfl) mem1 rfl ?_
        refine op_fieldAddr (nxsf rfl rfl rfl) fl25_2 rfl rfl ?_
        refine op_loadB (nxsf rfl rfl rfl) sc23 rfl B6 (by first | rfl) mem0 rfl ?_
        refine op_move (nxsf rfl rfl rfl) rfl rfl ?_
        refine op_idxE (nxsf rfl rfl rfl) se23 rfl rfl hyr (show _ = (((j : Nat)) : Int) from by omega) (by omega) rfl ?_
        refine op_fieldAddrE (nxsf rfl rfl rfl) fl25_0 rfl (by first | rfl | assumption) rfl ?_
        refine op_loadE (nxsf rfl rfl rfl) sc4 rfl hyr (by first | exact get8 (by omega) | exact get64 (by omega) | exact get32 (by omega) | exact cell_of hw (f := 0) (by omega) rfl) (by first | exact mem0 | exact mem1 | exact mem2 | exact mem3 | exact mem4 | exact mem5 | exact mem6 | exact mem7 | exact mem8 | exact mem9) rfl ?_
        refine op_move (nxsf rfl rfl rfl) rfl rfl ?_
        refine op_fieldAddr (nxsf rfl rfl rfl) fl25_2 rfl rfl ?_
        refine op_loadB (nxsf rfl rfl rfl) sc23 rfl B6 (by first | rfl) mem0 rfl ?_
        refine op_move (nxsf rfl rfl rfl) rfl rfl ?_
        refine op_idxE (nxsf rfl rfl rfl) se23 rfl rfl hyr (show _ = (((j : Nat)) : Int) from by omega) (by omega) rfl ?_
        refine op_fieldAddrE (nxsf rfl rfl rfl) fl25_1 rfl (by first | rfl | assumption) rfl ?_
        refine op_loadE (nxsf rfl rfl rfl) sc22 rfl hyr (by first | exact get8 (by omega) | exact get64 (by omega) | exact get32 (by omega) | exact cell_of hw (f := 1) (by omega) rfl) (by first | exact mem0 | exact mem1 | exact mem2 | exact mem3 | exact mem4 | exact mem5 | exact mem6 | exact mem7 | exact mem8 | exact mem9) rfl ?_
        refine op_fieldAddr (nxsf rfl rfl rfl) fl25_2 rfl rfl ?_
        refine op_loadB (nxsf rfl rfl rfl) sc23 rfl B6 (by first | rfl) mem0 rfl ?_
        refine op_move (nxsf rfl rfl rfl) rfl rfl ?_
        refine op_idxE (nxsf rfl rfl rfl) se23 rfl rfl hyr (show _ = (((j : Nat)) : Int) from by omega) (by omega) rfl ?_
        refine op_fieldAddrE (nxsf rfl rfl rfl) fl25_2 rfl (by first | rfl | assumption) rfl ?_
        refine op_loadE (nxsf rfl rfl rfl) sc23 rfl hyr (by first | exact get8 (by omega) | exact get64 (by omega) | exact get32 (by omega) | exact cell_of hw (f := 2) (by omega) rfl) (by first | exact mem0 | exact mem1 | exact mem2 | exact mem3 | exact mem4 | exact mem5 | exact mem6 | exact mem7 | exact mem8 | exact mem9) rfl ?_
        refine At.perm sel8 ?_
        refine At.perm sel8 ?_
        refine At.perm sel8 ?_
        refine At.perm sel8 ?_
        refine At.perm sel8 ?_
        refine At.perm sel8 ?_
        refine At.perm sel6 ?_
        refine At.perm sel8 ?_
        refine At.perm sel8 ?_
        refine op_call (nxsm rfl rfl rfl) (.cons rfl (.cons rfl .nil)) (LoanBytes_f hL hb' (by omega) (by omega)) (F := [NZ, NB, NJ, N6, N10, M22, R]) Try.func26 rfl rfl (.refl _) (by simp) rfl ?_
        rintro v60 L60 ⟨NL, NI, p60, c60, rfl, rfl, hL, le60, s60⟩
        change At _ _ _ [NL, NI, NZ, NB, NJ, N6, N10, M22, R] _
        skip
        refine At.moreS (Lst := [N6, N10, M22, R]) (Lst' := [N6, N10, M22, R]) (.refl _) (.cons _ (.cons _ (.cons _ (.cons _ (.cons _ (.refl _)))))) ?_
        refine op_build (out := [_, _, _]) (nxsf rfl rfl rfl) ze25 pl25 (.cons rfl (.cons rfl (.cons rfl .nil))) rfl rfl ?_
        refine op_lit (Nx.agree (nxsm rfl rfl rfl)) Try.underlying23 ze25 sz25 (.cons rfl .nil) rfl rfl (by simp [Value.cells]) rfl rfl rfl (fun N68 a68 r68 => ?_)
        simp only [flatV, List.flatMap_cons, List.flatMap_nil, Value.cells, List.append_nil, List.cons_append, List.nil_append] at r68
        have s68 := r68.rsl
        refine At.perm sel9 ?_
        refine At.perm sel9 ?_
        refine At.perm sel9 ?_
        refine At.perm sel9 ?_
        refine At.perm sel4 ?_
        refine At.perm sel9 ?_
        refine At.perm sel9 ?_
        refine At.perm sel9 ?_
        refine At.perm sel9 ?_
        refine At.perm sel9 ?_
        refine At.moreS (Lst := [N6, N10, M22, R]) (Lst' := [N68, N6, N10, M22, R]) (.cons _ (.refl _)) (.cons _ (.cons _ (.cons _ (.cons _ (.cons _ (.refl _)))))) ?_
        refine op_append (nxss rfl rfl rfl rfl) Try.underlying23 Try.underlying23 te25 rfl rfl rZ s68 (by first | exact mem0 | exact mem1 | exact mem2 | exact mem3 | exact mem4 | exact mem5 | exact mem6 | exact mem7 | exact mem8 | exact mem9) (by intro u hu; simp at hu; rcases hu with rfl | rfl | rfl <;> rfl) (by omega) (by omega) sel2 rfl (fun N69 a69 p69 r69 => ?_)
        have s69 := r69.rsl
        refine At.anyS (.refl _) ?_
        refine op_fieldAddr (nxsf rfl rfl rfl) fl25_2 rfl rfl ?_
        refine op_store (nxsl rfl rfl rfl rfl) sz23 rfl rfl rfl rfl rfl B10 (by simp) sel7 (fun N10 B10 => ?_)
        simp only [setL, List.set] at B10
        refine At.sNil ?_
        refine At.inNorm ?_
        refine At.norm (hk_16 ?_)
        refine At.region ?_
        refine op_move (nxlf rfl) rfl rfl ?_
        refine op_addI (nxlf rfl) rfl rfl (by omega) (by omega) rfl ?_
        refine op_assign (nxlf rfl) rfl rfl ?_
        refine At.opsNil ?_
        refine At.norm ?_
        refine At.sub (L' := [N10, N69, NL, NI, NB, NJ, N6, M22, R]) (.cons_cons _ (.cons_cons _ (.cons_cons _ (.cons_cons _ (.cons_cons _ (.cons_cons _ (.cons _ (.cons_cons _ (.cons_cons _ (.cons_cons _ (.slnil))))))))))) ?_
        refine At.perm sel8 ?_
        refine At.perm sel6 ?_
        refine At.perm sel6 ?_
        refine At.perm sel6 ?_
        refine At.perm sel6 ?_
        refine At.perm sel8 ?_
        refine At.perm sel7 ?_
        refine At.perm sel7 ?_
        refine At.perm sel8 ?_
        refine At.back ?_ (.refl _) ⟨j + 1, N10, NL, NI, N69, a69, p69, zs ++ [⟨w.l, p60, w.nb, c60, w.ai, w.ni, w.ci⟩], rfl, rfl, rfl, by omega, B10, by rw [cellsI, List.flatMap_append]; exact r69, hL, s36.le le60, zs_more hz hu le60 (fun J h1 h2 => by rw [hmk1]; simp only [ItN]; exact ⟨e1, s60.le h1, ws, hr'.le h2, hs'.le h2⟩)⟩ ?_
        · exact .cons (by first | exact lkI rfl (by omega) | rfl) (.cons (by first | exact lkI rfl (by omega) | rfl) (.cons (by first | exact lkI rfl (by omega) | rfl) (.cons (by first | exact lkI rfl (by omega) | rfl) (.cons (by first | exact lkI rfl (by omega) | rfl) (.cons (by first | exact lkI rfl (by omega) | rfl) (.cons (by first | exact lkI rfl (by omega) | rfl) .nil))))))
        · omega
      · refine At.exit (At.thenExit (At.thenExit (At.inHit ?_)))
        refine At.norm (hk_12 ?_)
        refine At.seq fun K17 hk_17 => ?_
        refine At.region ?_
        have hj2 : j = its.length := by omega
        have hzz : ∀ J, NI.le J → NZ.le J → M22.le J → ItN J t' ⟨y.l, p36, y.nb, c36, az, j, cz⟩ := fun J h1 h2 h3 => by
          rw [hmk]
          have e := hz J h1 h3
          rw [hj2, List.take_length] at e
          simp only [ItN]
          exact ⟨hyl', s36.le h1, zs, (rZ.rsl).le h2, e⟩
        have henc : Fn Try.prog 13 #[.agg #[.bool y.l, .slice p36 y.nb c36, .slice az j cz]] [] [NI, NZ, M22] (fun v L => ∃ M a cap, v = .tuple #[.slice a t'.form.length cap, .int .i64 0] ∧ L = [M] ∧ Row M 5 1 a t'.form.length cap (u8s t'.form)) :=
          Fn.over fun J hJ => Encode_ok (x := ⟨y.l, p36, y.nb, c36, az, j, cz⟩) (hzz J (hJ _ (by simp)) (hJ _ (by simp)) (hJ _ (by simp))) hfl hdep
        refine op_loadAggB (ds := [_, _, _]) (nxlf rfl) ag25 rfl B10 rfl rfl mem1 rfl ?_
        refine op_callA (nxla rfl) (.cons rfl .nil) (henc) Try.func13 rfl rfl (by simp) rfl ?_
        rintro v73 L73 ⟨M73, a73, c73, rfl, rfl, r73⟩
        change At _ _ _ [M73, N6, N10, NZ, M22, NL, NI, NB, NJ, R] _
        refine op_move (nxlf rfl) rfl rfl ?_
        refine op_extract (nxlf rfl) rfl rfl rfl ?_
        refine op_extract (nxlf rfl) rfl rfl rfl ?_
        refine op_assign (nxlf rfl) rfl rfl ?_
        refine op_assign (nxlf rfl) rfl rfl ?_
        refine At.opsNil ?_
        refine At.norm (hk_17 ?_)
        refine At.seq fun K18 hk_18 => ?_
        refine At.region ?_
        refine op_move (nxlf rfl) rfl rfl ?_
        refine op_move (nxlf rfl) rfl rfl ?_
        refine At.perm sel9 ?_
        refine At.perm sel7 ?_
        refine At.perm sel7 ?_
        refine At.perm sel7 ?_
        refine At.perm sel7 ?_
        refine At.perm sel7 ?_
        refine At.perm sel7 ?_
        refine At.perm sel7 ?_
        refine At.perm sel9 ?_
        refine At.perm sel9 ?_
        refine op_call (nxl rfl) (.cons rfl (.cons rfl .nil)) (BookBytes_f hB r73 hfl) (F := [N6, N10, NZ, M22, NL, NI, R]) Try.func27 rfl rfl (.refl _) (by simp) rfl ?_
        rintro v78 L78 ⟨rfl, NB, NJ, rfl, hB⟩
        change At _ _ _ [NB, NJ, N6, N10, NZ, M22, NL, NI, R] _
        skip
        refine At.opsNil ?_
        refine At.norm (hk_18 ?_)
        refine At.seq fun K19 hk_19 => ?_
        refine At.region ?_
        refine op_move (nxlf rfl) rfl rfl ?_
        refine op_move (nxlf rfl) rfl rfl ?_
        refine op_callA (nxla rfl) (.cons rfl (.cons rfl .nil)) (KTwin_f ha 300 300 rfl (by omega)) Try.func16 rfl rfl (by simp) rfl ?_
        rintro v82 L82 ⟨M82, p82, c82, rfl, rfl, r82⟩
        change At _ _ _ [M82, NB, NJ, N6, N10, NZ, M22, NL, NI, R] _
        rw [← hrw] at r82 ⊢; have s82 := r82.rsl
        refine At.perm sel9 ?_
        refine At.perm sel7 ?_
        refine At.perm sel7 ?_
        refine At.perm sel7 ?_
        refine At.perm sel7 ?_
        refine At.perm sel7 ?_
        refine At.perm sel7 ?_
        refine At.perm sel7 ?_
        refine At.perm sel9 ?_
        refine At.perm sel9 ?_
        refine op_call (nxl rfl) (.cons rfl (.cons rfl .nil)) (LoanBytes_f hL s82 (by omega) (by omega)) (F := [M82, NB, NJ, N6, N10, NZ, M22, R]) Try.func26 rfl rfl (.refl _) (by simp) rfl ?_
        rintro v83 L83 ⟨NL, NI, p83, c83, rfl, rfl, hL, le83, s83⟩
        change At _ _ _ [NL, NI, M82, NB, NJ, N6, N10, NZ, M22, R] _
        have hzz := fun J (h1 : NI.le J) h2 h3 => hzz J (Heaplet.le_trans le83 h1) h2 h3
        refine op_callA (nxla rfl) (.cons rfl .nil) (Decode_w s83 (by omega)) Try.func17 rfl rfl (by simp) rfl ?_
        rintro v84 L84 ⟨xw, ew, NA, NR, NS, bb, ww, bbs, rfl, rfl, rA, rR, hwn, hS, hbb, hbs⟩
        change At _ _ _ [NA, NR, NS, NL, NI, M82, NB, NJ, N6, N10, NZ, M22, R] _
        refine op_move (nxlf rfl) rfl rfl ?_
        refine op_extract (nxlf rfl) rfl rfl rfl ?_
        refine op_extract (nxlf rfl) rfl rfl rfl ?_
        refine op_alloc (nxla rfl) ze25 rfl (fun N14 b14 B14 => ?_)
        change Blk N14 b14 _ [.bool false, .slice none 0 0, .slice none 0 0] at B14
        refine op_store (nxl rfl) sz25 rfl rfl rfl rfl rfl B14 (by simp) sel0 (fun N14 B14 => ?_)
        simp only [setL, List.set] at B14
        refine op_assign (nxlf rfl) rfl rfl ?_
        refine At.opsNil ?_
        refine At.norm (hk_19 ?_)
        refine At.seq fun K20 hk_20 => ?_
        refine At.region ?_
        have hnA : bb.length = xw.nb := rA.rsl.len8
        refine op_move (nxlf rfl) rfl rfl ?_
        refine op_fieldAddr (nxlf rfl) fl25_1 rfl rfl ?_
        refine op_loadB (nxlf rfl) sc22 rfl B14 (by first | rfl) mem0 rfl ?_
        refine At.perm sel13 ?_
        refine At.perm sel13 ?_
        refine At.perm sel13 ?_
        refine At.perm sel13 ?_
        refine At.perm sel13 ?_
        refine At.perm sel11 ?_
        refine At.perm sel11 ?_
        refine At.perm sel11 ?_
        refine At.perm sel11 ?_
        refine At.perm sel11 ?_
        refine At.perm sel10 ?_
        refine At.perm sel11 ?_
        refine At.perm sel13 ?_
        refine At.perm sel13 ?_
        refine op_call (nxl rfl) (.cons rfl (.cons rfl .nil)) (BookBytes_f hB rA (by omega)) (F := [N14, NR, NS, NL, NI, M82, N6, N10, NZ, M22, R]) Try.func27 rfl rfl (.refl _) (by simp) rfl ?_
        rintro v90 L90 ⟨rfl, NB, NJ, rfl, hB⟩
        change At _ _ _ [NB, NJ, N14, NR, NS, NL, NI, M82, N6, N10, NZ, M22, R] _
        skip
        refine At.opsNil ?_
        refine At.norm (hk_20 ?_)
        refine At.seq fun K21 hk_21 => ?_
        refine At.seq fun K22 hk_22 => ?_
        refine At.region ?_
        refine op_assign (nxlf rfl) rfl rfl ?_
        refine At.opsNil ?_
        refine At.norm (hk_22 ?_)
        refine At.block ?_
        refine At.sub (L' := [NB, NJ, N14, NR, NS, NL, NI, N6, N10, NZ, M22, R]) (.cons_cons _ (.cons_cons _ (.cons_cons _ (.cons_cons _ (.cons_cons _ (.cons_cons _ (.cons_cons _ (.cons _ (.cons_cons _ (.cons_cons _ (.cons_cons _ (.cons_cons _ (.cons_cons _ (.slnil)))))))))))))) ?_
        refine At.perm sel11 ?_
        refine At.perm sel2 ?_
        refine At.perm sel2 ?_
        refine At.perm sel7 ?_
        refine At.perm sel7 ?_
        refine At.perm sel11 ?_
        refine At.perm sel8 ?_
        refine At.perm sel8 ?_
        refine At.perm sel11 ?_
        refine At.perm sel9 ?_
        refine At.perm sel11 ?_
        refine At.perm sel11 ?_
        refine At.loop (fun fr_ hp_ ms_ => ∃ (j' : Nat) (NB NJ NR NS : Heaplet) (cs : List Value) (qs : List (List UInt8)), fr_ = [(1, .slice ao n cap), (6, .pointer (some ⟨b6, 0, none⟩)), (7, .pointer (some ⟨b24, 0, none⟩)), (8, .pointer (some ⟨b26, 0, none⟩)), (9, .int .i64 (i : Int)), (10, .pointer (some ⟨b10, 0, none⟩)), (14, .pointer (some ⟨b14, 0, none⟩)), (16, .int .i64 (j' : Int))] ∧ hp_ = [N6, N10, N14, NZ, NR, NS, M22, NL, NI, NB, NJ, R] ∧ xw.ni - j' = ms_ ∧ (j' ≤ xw.ni) ∧ (Book b26 NB NJ) ∧ (Row NR 25 3 xw.ai xw.ni xw.ci cs) ∧ (∀ (i : Nat) (w : IV), j' ≤ i → ww[i]? = some w → cs[i * 3 + 1]? = some (slB w)) ∧ (Bag 5 NS ((ww.drop j').map slB) qs) ∧ (∀ u ∈ qs, u.length ≤ rw3.length)) ?_ (.refl _) ⟨0, NB, NJ, NR, NS, cellsI ww, bbs, rfl, rfl, rfl, by omega, hB, rR, fun i w _ hw => cell_of hw (f := 1) (by omega) rfl, by simpa using hS, hbs⟩ ?_
        · exact .cons (by first | exact lkI rfl (by omega) | rfl) (.cons (by first | exact lkI rfl (by omega) | rfl) (.cons (by first | exact lkI rfl (by omega) | rfl) (.cons (by first | exact lkI rfl (by omega) | rfl) (.cons (by first | exact lkI rfl (by omega) | rfl) (.cons (by first | exact lkI rfl (by omega) | rfl) (.cons (by first | exact lkI rfl (by omega) | rfl) (.cons (by first | exact lkI rfl (by omega) | rfl) .nil)))))))
        rintro _ _ _ ⟨j', NB, NJ, NR, NS, cs, qs, rfl, rfl, rfl, hj', hB, rR, hcs, hS, hqs⟩
        refine At.seq fun K23 hk_23 => ?_
        refine At.seq fun K24 hk_24 => ?_
        refine At.region ?_
        refine op_move (nxlf rfl) rfl rfl ?_
        refine op_fieldAddr (nxlf rfl) fl25_2 rfl rfl ?_
        refine op_loadB (nxlf rfl) sc23 rfl B14 (by first | rfl) mem2 rfl ?_
        refine op_lenS (nxlf rfl) se23 rfl rfl ?_
        refine op_lss (nxlf rfl) rfl rfl rfl ?_
        refine At.opsNil ?_
        refine At.norm (hk_24 ?_)
        refine At.condP rfl (fun c95 => ?_) (fun c95 => ?_)
        · obtain ⟨w, hw⟩ := get_lt (xs := ww) (i := j') (by omega)
          have hS2 := hS
          rw [drop_next hw, List.map_cons] at hS2
          have sR := rR.rsl
          have hcpR := sR.cap63
          have hcl := rR.1
          have hwi : xw.ai.isSome = true := row_some sR (by omega)
          refine At.skip ?_
          refine At.norm (hk_23 ?_)
          refine At.seq fun K25 hk_25 => ?_
          refine At.block ?_
          refine At.seq fun K26 hk_26 => ?_
          refine At.perm sel11 ?_
          refine At.perm sel11 ?_
          refine At.perm sel11 ?_
          refine At.perm sel11 ?_
          refine At.perm sel11 ?_
          refine At.perm sel11 ?_
          refine At.perm sel10 ?_
          refine At.perm sel10 ?_
          refine At.perm sel10 ?_
          refine At.perm sel10 ?_
          refine At.perm sel10 ?_
          refine At.perm sel11 ?_
          refine At.pop hS2 (fun NP NS q0 qs' hqe rP hS' => ?_)
          refine At.region ?_
          refine op_move (nxlf rfl) rfl rfl ?_
          refine op_fieldAddr (nxlf rfl) fl25_2 rfl rfl ?_
          refine op_loadB (nxlf rfl) sc23 rfl B14 (by first | rfl) mem4 rfl ?_
          refine op_move (nxlf rfl) rfl rfl ?_
          refine op_idxE (nxlf rfl) se23 rfl rfl sR (show _ = (((j' : Nat)) : Int) from by omega) (by omega) rfl ?_
          refine op_fieldAddrE (nxlf rfl) fl25_1 rfl (by first | rfl | assumption) rfl ?_
          refine op_loadE (nxlf rfl) sc22 rfl sR (by first | exact get8 (by omega) | exact get64 (by omega) | exact get32 (by omega) | exact hcs j' w (Nat.le_refl _) hw) (by first | exact mem0 | exact mem1 | exact mem2 | exact mem3 | exact mem4 | exact mem5 | exact mem6 | exact mem7 | exact mem8 | exact mem9 | exact mem10 | exact mem11 | exact mem12) rfl ?_
          refine At.perm sel12 ?_
          refine At.perm sel10 ?_
          refine At.perm sel10 ?_
          refine At.perm sel10 ?_
          refine At.perm sel10 ?_
          refine At.perm sel10 ?_
          refine At.perm sel10 ?_
          refine At.perm sel10 ?_
          refine At.perm sel10 ?_
          refine At.perm sel10 ?_
          refine At.perm sel10 ?_
          refine At.perm sel12 ?_
          refine At.perm sel12 ?_
          refine op_call (nxl rfl) (.cons rfl (.cons rfl .nil)) (BookBytes_f hB rP (by have := hqs q0 (by rw [hqe]; exact List.mem_cons_self ..); have := rP.rsl.len8; omega)) (F := [NS, N6, N10, N14, NZ, NR, M22, NL, NI, R]) Try.func27 rfl rfl (.refl _) (by simp) rfl ?_
          rintro v105 L105 ⟨rfl, NB, NJ, rfl, hB⟩
          change At _ _ _ [NB, NJ, NS, N6, N10, N14, NZ, NR, M22, NL, NI, R] _
          skip
          refine At.opsNil ?_
          refine At.norm (hk_26 ?_)
          refine At.region ?_
          refine op_fieldAddr (nxlf rfl) fl25_2 rfl rfl ?_
          refine op_loadB (nxlf rfl) sc23 rfl B14 (by first | rfl) mem5 rfl ?_
          refine op_move (nxlf rfl) rfl rfl ?_
          refine op_idxE (nxlf rfl) se23 rfl rfl sR (show _ = (((j' : Nat)) : Int) from by omega) (by omega) rfl ?_
          refine op_fieldAddrE (nxlf rfl) fl25_0 rfl (by first | rfl | assumption) rfl ?_
          refine op_storeU (nxl rfl) sz4 rfl rfl rfl rfl rfl rR (by simp <;> omega) (by simp) sel7 (fun NQ rQ oQ => ?_)
          skip
          refine At.opsNil ?_
          refine At.inNorm ?_
          refine At.norm (hk_25 ?_)
          refine At.region ?_
          refine op_move (nxlf rfl) rfl rfl ?_
          refine op_addI (nxlf rfl) rfl rfl (by omega) (by omega) rfl ?_
          refine op_assign (nxlf rfl) rfl rfl ?_
          refine At.opsNil ?_
          refine At.norm ?_
          refine At.perm sel11 ?_
          refine At.perm sel3 ?_
          refine At.perm sel3 ?_
          refine At.perm sel11 ?_
          refine At.perm sel11 ?_
          refine At.perm sel11 ?_
          refine At.perm sel7 ?_
          refine At.perm sel7 ?_
          refine At.perm sel11 ?_
          refine At.perm sel11 ?_
          refine At.perm sel11 ?_
          refine At.perm sel11 ?_
          refine At.back ?_ (.refl _) ⟨j' + 1, NB, NJ, NQ, NS, setL cs (j' * 3 + 0) [.bool true], qs', rfl, rfl, rfl, by omega, hB, rQ, fun i w hi hw => set_other (hcs i w (by omega) hw), hS', fun u hu => hqs u (by rw [hqe]; exact List.mem_cons_of_mem _ hu)⟩ ?_
          · exact .cons (by first | exact lkI rfl (by omega) | rfl) (.cons (by first | exact lkI rfl (by omega) | rfl) (.cons (by first | exact lkI rfl (by omega) | rfl) (.cons (by first | exact lkI rfl (by omega) | rfl) (.cons (by first | exact lkI rfl (by omega) | rfl) (.cons (by first | exact lkI rfl (by omega) | rfl) (.cons (by first | exact lkI rfl (by omega) | rfl) (.cons (by first | exact lkI rfl (by omega) | rfl) .nil)))))))
          · omega
        · refine At.exit (At.thenExit (At.thenExit (At.inHit ?_)))
          refine At.norm (hk_21 ?_)
          refine At.seq fun K27 hk_27 => ?_
          refine At.region ?_
          refine op_move (nxlf rfl) rfl rfl ?_
          refine op_move (nxlf rfl) rfl rfl ?_
          refine op_callA (nxla rfl) (.cons rfl (.cons rfl .nil)) (KTwin_f ha 300 300 rfl (by omega)) Try.func16 rfl rfl (by simp) rfl ?_
          rintro v114 L114 ⟨M114, p114, c114, rfl, rfl, r114⟩
          change At _ _ _ [M114, N6, N10, N14, NZ, NR, NS, M22, NL, NI, NB, NJ, R] _
          rw [← hrw] at r114 ⊢; have s114 := r114.rsl
          refine At.perm sel12 ?_
          refine At.perm sel12 ?_
          refine At.perm sel12 ?_
          refine At.perm sel10 ?_
          refine At.perm sel10 ?_
          refine At.perm sel10 ?_
          refine At.perm sel10 ?_
          refine At.perm sel10 ?_
          refine At.perm sel10 ?_
          refine At.perm sel10 ?_
          refine At.perm sel10 ?_
          refine At.perm sel12 ?_
          refine At.perm sel12 ?_
          refine op_call (nxl rfl) (.cons rfl (.cons rfl .nil)) (LoanBytes_f hL s114 (by omega) (by omega)) (F := [M114, N6, N10, N14, NZ, NR, NS, M22, NB, NJ, R]) Try.func26 rfl rfl (.refl _) (by simp) rfl ?_
          rintro v115 L115 ⟨NL, NI, p115, c115, rfl, rfl, hL, le115, s115⟩
          change At _ _ _ [NL, NI, M114, N6, N10, N14, NZ, NR, NS, M22, NB, NJ, R] _
          have hzz := fun J (h1 : NI.le J) h2 h3 => hzz J (Heaplet.le_trans le115 h1) h2 h3
          refine op_callA (nxla rfl) (.cons rfl .nil) (Split_w s115 (by omega)) Try.func23 rfl rfl (by simp) rfl ?_
          rintro v116 L116 ⟨Mp, Mq, l0, n1, n2, a1, c1, a2, c2, pp, qq, e0, rfl, rfl, rp, rq, bp, bq⟩
          change At _ _ _ [Mp, Mq, NL, NI, M114, N6, N10, N14, NZ, NR, NS, M22, NB, NJ, R] _
          refine op_move (nxlf rfl) rfl rfl ?_
          refine op_extract (nxlf rfl) rfl rfl rfl ?_
          refine op_extract (nxlf rfl) rfl rfl rfl ?_
          refine op_extract (nxlf rfl) rfl rfl rfl ?_
          refine op_extract (nxlf rfl) rfl rfl rfl ?_
          refine op_assign (nxlf rfl) rfl rfl ?_
          refine op_assign (nxlf rfl) rfl rfl ?_
          refine op_assign (nxlf rfl) rfl rfl ?_
          refine op_assign (nxlf rfl) rfl rfl ?_
          refine At.opsNil ?_
          refine At.norm (hk_27 ?_)
          refine At.seq fun K28 hk_28 => ?_
          refine At.region ?_
          refine op_move (nxlf rfl) rfl rfl ?_
          refine op_move (nxlf rfl) rfl rfl ?_
          refine At.perm sel14 ?_
          refine At.perm sel12 ?_
          refine At.perm sel12 ?_
          refine At.perm sel12 ?_
          refine At.perm sel12 ?_
          refine At.perm sel12 ?_
          refine At.perm sel12 ?_
          refine At.perm sel12 ?_
          refine At.perm sel12 ?_
          refine At.perm sel12 ?_
          refine At.perm sel12 ?_
          refine At.perm sel12 ?_
          refine At.perm sel12 ?_
          refine At.perm sel14 ?_
          refine At.perm sel14 ?_
          refine op_call (nxl rfl) (.cons rfl (.cons rfl .nil)) (BookBytes_f hB rp (by omega)) (F := [Mq, NL, NI, M114, N6, N10, N14, NZ, NR, NS, M22, R]) Try.func27 rfl rfl (.refl _) (by simp) rfl ?_
          rintro v123 L123 ⟨rfl, NB, NJ, rfl, hB⟩
          change At _ _ _ [NB, NJ, Mq, NL, NI, M114, N6, N10, N14, NZ, NR, NS, M22, R] _
          skip
          refine At.opsNil ?_
          refine At.norm (hk_28 ?_)
          refine At.seq fun K29 hk_29 => ?_
          refine At.region ?_
          refine op_move (nxlf rfl) rfl rfl ?_
          refine op_move (nxlf rfl) rfl rfl ?_
          refine op_call (nxl rfl) (.cons rfl (.cons rfl .nil)) (BookBytes_f hB rq (by omega)) (F := [NL, NI, M114, N6, N10, N14, NZ, NR, NS, M22, R]) Try.func27 rfl rfl (.refl _) (by simp) rfl ?_
          rintro v126 L126 ⟨rfl, NB, NJ, rfl, hB⟩
          change At _ _ _ [NB, NJ, NL, NI, M114, N6, N10, N14, NZ, NR, NS, M22, R] _
          skip
          refine At.opsNil ?_
          refine At.norm (hk_29 ?_)
          refine At.seq fun K30 hk_30 => ?_
          refine At.region ?_
          refine op_move (nxlf rfl) rfl rfl ?_
          refine op_move (nxlf rfl) rfl rfl ?_
          refine op_callA (nxla rfl) (.cons rfl (.cons rfl .nil)) (KTwin_f ha 300 300 rfl (by omega)) Try.func16 rfl rfl (by simp) rfl ?_
          rintro v130 L130 ⟨M130, p130, c130, rfl, rfl, r130⟩
          change At _ _ _ [M130, NB, NJ, NL, NI, M114, N6, N10, N14, NZ, NR, NS, M22, R] _
          rw [← hrw] at r130 ⊢; have s130 := r130.rsl
          refine At.perm sel13 ?_
          refine At.perm sel13 ?_
          refine At.perm sel13 ?_
          refine At.perm sel13 ?_
          refine At.perm sel13 ?_
          refine At.perm sel13 ?_
          refine At.perm sel13 ?_
          refine At.perm sel13 ?_
          refine At.perm sel13 ?_
          refine At.perm sel11 ?_
          refine At.perm sel11 ?_
          refine At.perm sel11 ?_
          refine At.perm sel13 ?_
          refine At.perm sel13 ?_
          refine op_call (nxl rfl) (.cons rfl (.cons rfl .nil)) (LoanBytes_f hL s130 (by omega) (by omega)) (F := [M130, NB, NJ, M114, N6, N10, N14, NZ, NR, NS, M22, R]) Try.func26 rfl rfl (.refl _) (by simp) rfl ?_
          rintro v131 L131 ⟨NL, NI, p131, c131, rfl, rfl, hL, le131, s131⟩
          change At _ _ _ [NL, NI, M130, NB, NJ, M114, N6, N10, N14, NZ, NR, NS, M22, R] _
          have hzz := fun J (h1 : NI.le J) h2 h3 => hzz J (Heaplet.le_trans le131 h1) h2 h3
          refine op_callA (nxla rfl) (.cons rfl .nil) (Envelope_w s131 (by omega)) Try.func21 rfl rfl (by simp) rfl ?_
          rintro v132 L132 ⟨Me, kk, n3, a3, c3, pe, e3, rfl, rfl, re, be3⟩
          change At _ _ _ [Me, NL, NI, M130, NB, NJ, M114, N6, N10, N14, NZ, NR, NS, M22, R] _
          refine op_move (nxlf rfl) rfl rfl ?_
          refine op_extract (nxlf rfl) rfl rfl rfl ?_
          refine op_extract (nxlf rfl) rfl rfl rfl ?_
          refine op_extract (nxlf rfl) rfl rfl rfl ?_
          refine op_assign (nxlf rfl) rfl rfl ?_
          refine At.opsNil ?_
          refine At.norm (hk_30 ?_)
          refine At.seq fun K31 hk_31 => ?_
          refine At.region ?_
          refine op_move (nxlf rfl) rfl rfl ?_
          refine op_move (nxlf rfl) rfl rfl ?_
          refine At.perm sel14 ?_
          refine At.perm sel14 ?_
          refine At.perm sel14 ?_
          refine At.perm sel14 ?_
          refine At.perm sel14 ?_
          refine At.perm sel14 ?_
          refine At.perm sel14 ?_
          refine At.perm sel14 ?_
          refine At.perm sel14 ?_
          refine At.perm sel12 ?_
          refine At.perm sel12 ?_
          refine At.perm sel12 ?_
          refine At.perm sel12 ?_
          refine At.perm sel14 ?_
          refine At.perm sel14 ?_
          refine op_call (nxl rfl) (.cons rfl (.cons rfl .nil)) (BookBytes_f hB re (by omega)) (F := [NL, NI, M130, M114, N6, N10, N14, NZ, NR, NS, M22, R]) Try.func27 rfl rfl (.refl _) (by simp) rfl ?_
          rintro v138 L138 ⟨rfl, NB, NJ, rfl, hB⟩
          change At _ _ _ [NB, NJ, NL, NI, M130, M114, N6, N10, N14, NZ, NR, NS, M22, R] _
          skip
          refine At.opsNil ?_
          refine At.norm (hk_31 ?_)
          refine At.seq fun K32 hk_32 => ?_
          refine At.region ?_
          refine op_move (nxlf rfl) rfl rfl ?_
          refine op_buildA (out := [_, _, .int .u64 0, .int .u64 0]) (nxlf rfl) ze66 ae66 (.cons rfl (.cons rfl .nil)) rfl rfl ?_
          refine op_callA (nxla rfl) (.cons rfl .nil) (hOf) Try.func28 rfl rfl (by simp) rfl ?_
          rintro v141 L141 ⟨M141, p141, c141, rfl, rfl, r141⟩
          change At _ _ _ [M141, NB, NJ, NL, NI, M130, M114, N6, N10, N14, NZ, NR, NS, M22, R] _
          refine op_field (cs := [.bool false, .slice p141 w9.length c141, .slice none 0 0]) (v := .slice p141 w9.length c141) (fo := 0) (nxlf rfl) (fun w => field_bytes w _ _ _) rfl rfl ?_
          refine At.perm sel14 ?_
          refine At.perm sel14 ?_
          refine At.perm sel14 ?_
          refine At.perm sel14 ?_
          refine At.perm sel14 ?_
          refine At.perm sel14 ?_
          refine At.perm sel14 ?_
          refine At.perm sel14 ?_
          refine At.perm sel14 ?_
          refine At.perm sel14 ?_
          refine At.perm sel14 ?_
          refine At.perm sel14 ?_
          refine At.perm sel12 ?_
          refine At.perm sel14 ?_
          refine At.perm sel14 ?_
          refine op_call (nxl rfl) (.cons rfl (.cons rfl .nil)) (BookBytes_f hB r141 (by omega)) (F := [NL, NI, M130, M114, N6, N10, N14, NZ, NR, NS, M22, R]) Try.func27 rfl rfl (.refl _) (by simp) rfl ?_
          rintro v143 L143 ⟨rfl, NB, NJ, rfl, hB⟩
          change At _ _ _ [NB, NJ, NL, NI, M130, M114, N6, N10, N14, NZ, NR, NS, M22, R] _
          skip
          refine At.opsNil ?_
          refine At.norm (hk_32 ?_)
          refine At.seq fun K33 hk_33 => ?_
          refine At.region ?_
          have hsam : Fn Try.prog 19 #[.agg #[.bool y.l, .slice p36 y.nb c36, .slice az j cz], .agg #[.bool y.l, .slice y.ab y.nb y.cb, .slice y.ai y.ni y.ci]] [] [NI, NZ, M22] (fun v L => v = .bool (t'.same t') ∧ L = []) :=
            Fn.over fun J hJ => (Same_f t' t' J J ⟨y.l, p36, y.nb, c36, az, j, cz⟩ y (hzz J (hJ _ (by simp)) (hJ _ (by simp)) (hJ _ (by simp))) (hy0.le (hJ _ (by simp)))).more (by simp)
          rw [hsame] at hsam
          refine op_loadAggB (ds := [_, _, _]) (nxlf rfl) ag25 rfl B10 rfl rfl mem7 rfl ?_
          refine op_loadAggB (ds := [_, _, _]) (nxlf rfl) ag25 rfl B6 rfl rfl mem6 rfl ?_
          refine op_callA (nxla rfl) (.cons rfl (.cons rfl .nil)) (hsam) Try.func19 rfl rfl (by simp) rfl ?_
          rintro v146 L146 ⟨rfl, rfl⟩
          change At _ _ _ [NB, NJ, NL, NI, M130, M114, N6, N10, N14, NZ, NR, NS, M22, R] _
          refine op_not (nxlf rfl) rfl rfl ?_
          refine At.opsNil ?_
          refine At.norm (hk_33 ?_)
          refine At.condF rfl ?_
          refine At.skip ?_
          refine At.inNorm ?_
          refine At.norm (hk_10 ?_)
          refine At.region ?_
          refine op_move (nxlf rfl) rfl rfl ?_
          refine op_addI (nxlf rfl) rfl rfl (by omega) (by omega) rfl ?_
          refine op_assign (nxlf rfl) rfl rfl ?_
          refine At.opsNil ?_
          refine At.norm ?_
          refine At.sub (L' := [NB, NJ, NL, NI, N6, M22, R]) (.cons_cons _ (.cons_cons _ (.cons_cons _ (.cons_cons _ (.cons _ (.cons _ (.cons_cons _ (.cons _ (.cons _ (.cons _ (.cons _ (.cons _ (.cons_cons _ (.cons_cons _ (.slnil))))))))))))))) ?_
          refine At.perm sel6 ?_
          refine At.perm sel2 ?_
          refine At.perm sel2 ?_
          refine At.perm sel4 ?_
          refine At.perm sel4 ?_
          refine At.perm sel6 ?_
          refine At.perm sel6 ?_
          refine At.back ?_ (.refl _) ⟨i + 1, NL, NI, NB, NJ, rfl, rfl, rfl, by omega, hL.mono (by omega), hB⟩ ?_
          · exact .cons (by first | exact lkI rfl (by omega) | rfl) (.cons (by first | exact lkI rfl (by omega) | rfl) (.cons (by first | exact lkI rfl (by omega) | rfl) (.cons (by first | exact lkI rfl (by omega) | rfl) (.cons (by first | exact lkI rfl (by omega) | rfl) .nil))))
          · omega
    refine At.perm sel6 ?_
    refine At.perm sel6 ?_
    refine At.perm sel6 ?_
    refine At.perm sel6 ?_
    refine At.perm sel4 ?_
    refine At.perm sel6 ?_
    refine At.perm sel6 ?_
    refine op_call (nxpa rfl rfl) (.cons rfl (.cons rfl .nil)) (LoanBytes_f hL hyb (by omega) (by omega)) (F := [M22, NB, NJ, N6, R]) Try.func26 rfl rfl (.refl _) (by simp) rfl ?_
    rintro v36 L36 ⟨NL, NI, p36, c36, rfl, rfl, hL, le36, s36⟩
    change At _ _ _ [NL, NI, M22, NB, NJ, N6, R] _
    skip
    refine At.andS (.cons _ (.cons _ (.cons _ (.cons _ (.cons _ (.refl _)))))) ?_
    refine op_build (out := [_, _, .slice none 0 0]) (nxpf rfl rfl) ze25 pl25 (.cons rfl (.cons rfl .nil)) rfl rfl ?_
    refine At.fork ?_ ?_
    rotate_left
    · exact At.pNo
    refine op_alloc (Nx.agree (nxpa rfl rfl)) ze25 rfl (fun N10 b10 B10 => ?_)
    change Blk N10 b10 _ [.bool false, .slice none 0 0, .slice none 0 0] at B10
    refine At.andS (.cons _ (.cons _ (.cons _ (.cons _ (.cons _ (.cons _ (.refl _))))))) ?_
    refine At.fork ?_ ?_
    rotate_left
    · exact At.pNo
    refine op_store (nxpl rfl rfl) sz25 rfl rfl rfl rfl rfl B10 (by simp) sel0 (fun N10 B10 => ?_)
    simp only [setL, List.set] at B10
    refine At.pDone ?_
    refine At.norm (hk_11 ?_)
    refine At.seq fun K34 hk_34 => ?_
    refine At.seq fun K35 hk_35 => ?_
    refine At.region ?_
    refine op_assign (nxlf rfl) rfl rfl ?_
    refine At.opsNil ?_
    refine At.norm (hk_35 ?_)
    refine At.block ?_
    refine At.empty ?_
    refine At.perm sel8 ?_
    refine At.perm sel7 ?_
    refine At.perm sel7 ?_
    refine At.perm sel6 ?_
    refine At.perm sel6 ?_
    refine At.perm sel7 ?_
    refine At.perm sel6 ?_
    refine At.perm sel7 ?_
    refine At.perm sel8 ?_
    refine At.loop (fun fr_ hp_ ms_ => ∃ (j : Nat) (N10 NL NI NZ : Heaplet) (az : Option Addr) (cz : Nat) (zs : List IV), fr_ = [(1, .slice ao n cap), (6, .pointer (some ⟨b6, 0, none⟩)), (7, .pointer (some ⟨b24, 0, none⟩)), (8, .pointer (some ⟨b26, 0, none⟩)), (9, .int .i64 (i : Int)), (10, .pointer (some ⟨b10, 0, none⟩)), (11, .int .i64 (j : Int))] ∧ hp_ = [N6, N10, NZ, M22, NL, NI, NB, NJ, R] ∧ its.length - j = ms_ ∧ (j ≤ its.length) ∧ (Blk N10 b10 25 [.bool y.l, .slice p36 y.nb c36, .slice az j cz]) ∧ (Row NZ 25 3 az j cz (cellsI zs)) ∧ (Loan b24 NL NI (60000 * i + 1 + j)) ∧ (RSl NI 1 p36 y.nb c36 (u8s bs)) ∧ (∀ J, NI.le J → M22.le J → ItsN J (its.take j) zs)) ?_ (.refl _) ⟨0, N10, NL, NI, nilH, none, 0, [], rfl, rfl, rfl, by omega, B10, Row.nil _ _ _, hL, s36, fun J _ _ => rfl⟩ ?_
    · exact .cons (by first | exact lkI rfl (by omega) | rfl) (.cons (by first | exact lkI rfl (by omega) | rfl) (.cons (by first | exact lkI rfl (by omega) | rfl) (.cons (by first | exact lkI rfl (by omega) | rfl) (.cons (by first | exact lkI rfl (by omega) | rfl) (.cons (by first | exact lkI rfl (by omega) | rfl) (.cons (by first | exact lkI rfl (by omega) | rfl) .nil))))))
    rintro _ _ _ ⟨j, N10, NL, NI, NZ, az, cz, zs, rfl, rfl, rfl, hj, B10, rZ, hL, s36, hz⟩
    refine At.seq fun K36 hk_36 => ?_
    refine At.seq fun K37 hk_37 => ?_
    refine At.region ?_
    refine op_move (nxlf rfl) rfl rfl ?_
    refine op_fieldAddr (nxlf rfl) fl25_2 rfl rfl ?_
    refine op_loadB (nxlf rfl) sc23 rfl B6 (by first | rfl) mem0 rfl ?_
    refine op_lenS (nxlf rfl) se23 rfl rfl ?_
    refine op_lss (nxlf rfl) rfl rfl rfl ?_
    refine At.opsNil ?_
    refine At.norm (hk_37 ?_)
    refine At.condP rfl (fun c42 => ?_) (fun c42 => ?_)
    · obtain ⟨u, hu⟩ := get_lt (xs := its) (i := j) (by omega)
      obtain ⟨w, hw, hiw⟩ := hys2.get hu
      have hsu := size_get hu
      obtain ⟨l1, bs1, its1, hmk1⟩ := it_mk u
      rw [hmk1] at hiw hsu
      simp only [ItN] at hiw
      obtain ⟨e1, hb', ws, hr', hs'⟩ := hiw
      have hbl1 := hb'.len8
      simp only [sizeT] at hsu
      have hyi : y.ai.isSome = true := row_some hyr (by omega)
      refine At.skip ?_
      refine At.norm (hk_36 ?_)
      refine At.seq fun K38 hk_38 => ?_
      refine At.block ?_
      refine At.perm sel8 ?_
      refine At.perm sel4 ?_
      refine At.perm sel3 ?_
      refine At.perm sel3 ?_
      refine At.perm sel8 ?_
      refine At.perm sel8 ?_
      refine At.perm sel8 ?_
      refine At.perm sel8 ?_
      refine At.perm sel8 ?_
      refine At.drawnS [N6, N10, M22, R] [24,26] [4,18] [0,1,2,3,4,5,6,7,8,9,10,11,12,13,14,16,17,18,19,20,21,15,22,23,24,25,26] (by kernel_rfl) (by kernel_rfl) (.cons _ (.cons _ (.cons _ (.cons _ (.cons _ (.refl _)))))) ?_
      refine op_fieldAddr (nxsf rfl rfl rfl) fl25_2 rfl rfl ?_
      refine op_loadB (nxsf rfl rfl rfl) sc23 rfl B10 (by first | rfl) mem1 rfl ?_
      refine op_fieldAddr (nxsf rfl rfl rfl) fl25_2 rfl rfl ?_
      refine op_loadB (nxsf rfl rfl rfl) sc23 rfl B6 (by first | rfl) mem0 rfl ?_
      refine op_move (nxsf rfl rfl rfl) rfl rfl ?_
      refine op_idxE (nxsf rfl rfl rfl) se23 rfl rfl hyr (show _ = (((j : Nat)) : Int) from by omega) (by omega) rfl ?_
      refine op_fieldAddrE (nxsf rfl rfl rfl) fl25_0 rfl (by first | rfl | assumption) rfl ?_
      refine op_loadE (nxsf rfl rfl rfl) sc4 rfl hyr (by first | exact get8 (by omega) | exact get64 (by omega) | exact get32 (by omega) | exact cell_of hw (f := 0) (by omega) rfl) (by first | exact mem0 | exact mem1 | exact mem2 | exact mem3 | exact mem4 | exact mem5 | exact mem6 | exact mem7 | exact mem8 | exact mem9) rfl ?_
      refine op_move (nxsf rfl rfl rfl) rfl rfl ?_
      refine op_fieldAddr (nxsf rfl rfl rfl) fl25_2 rfl rfl ?_
      refine op_loadB (nxsf rfl rfl rfl) sc23 rfl B6 (by first | rfl) mem0 rfl ?_
      refine op_move (nxsf rfl rfl rfl) rfl rfl ?_
      refine op_idxE (nxsf rfl rfl rfl) se23 rfl rfl hyr (show _ = (((j : Nat)) : Int) from by omega) (by omega) rfl ?_
      refine op_fieldAddrE (nxsf rfl rfl rfl) fl25_1 rfl (by first | rfl | assumption) rfl ?_
      refine op_loadE (nxsf rfl rfl rfl) sc22 rfl hyr (by first | exact get8 (by omega) | exact get64 (by omega) | exact get32 (by omega) | exact cell_of hw (f := 1) (by omega) rfl) (by first | exact mem0 | exact mem1 | exact mem2 | exact mem3 | exact mem4 | exact mem5 | exact mem6 | exact mem7 | exact mem8 | exact mem9) rfl ?_
      refine op_fieldAddr (nxsf rfl rfl rfl) fl25_2 rfl rfl ?_
      refine op_loadB (nxsf rfl rfl rfl) sc23 rfl B6 (by first | rfl) mem0 rfl ?_
      refine op_move (nxsf rfl rfl rfl) rfl rfl ?_
      refine op_idxE (nxsf rfl rfl rfl) se23 rfl rfl hyr (show _ = (((j : Nat)) : Int) from by omega) (by omega) rfl ?_
      refine op_fieldAddrE (nxsf rfl rfl rfl) fl25_2 rfl (by first | rfl | assumption) rfl ?_
      refine op_loadE (nxsf rfl rfl rfl) sc23 rfl hyr (by first | exact get8 (by omega) | exact get64 (by omega) | exact get32 (by omega) | exact cell_of hw (f := 2) (by omega) rfl) (by first | exact mem0 | exact mem1 | exact mem2 | exact mem3 | exact mem4 | exact mem5 | exact mem6 | exact mem7 | exact mem8 | exact mem9) rfl ?_
      refine At.perm sel8 ?_
      refine At.perm sel8 ?_
      refine At.perm sel8 ?_
      refine At.perm sel8 ?_
      refine At.perm sel8 ?_
      refine At.perm sel8 ?_
      refine At.perm sel6 ?_
      refine At.perm sel8 ?_
      refine At.perm sel8 ?_
      refine op_call (nxsm rfl rfl rfl) (.cons rfl (.cons rfl .nil)) (LoanBytes_f hL hb' (by omega) (by omega)) (F := [NZ, NB, NJ, N6, N10, M22, R]) Try.func26 rfl rfl (.refl _) (by simp) rfl ?_
      rintro v60 L60 ⟨NL, NI, p60, c60, rfl, rfl, hL, le60, s60⟩
      change At _ _ _ [NL, NI, NZ, NB, NJ, N6, N10, M22, R] _
      skip
      refine At.moreS (Lst := [N6, N10, M22, R]) (Lst' := [N6, N10, M22, R]) (.refl _) (.cons _ (.cons _ (.cons _ (.cons _ (.cons _ (.refl _)))))) ?_
      refine op_build (out := [_, _, _]) (nxsf rfl rfl rfl) ze25 pl25 (.cons rfl (.cons rfl (.cons rfl .nil))) rfl rfl ?_
      refine op_lit (Nx.agree (nxsm rfl rfl rfl)) Try.underlying23 ze25 sz25 (.cons rfl .nil) rfl rfl (by simp [Value.cells]) rfl rfl rfl (fun N68 a68 r68 => ?_)
      simp only [flatV, List.flatMap_cons, List.flatMap_nil, Value.cells, List.append_nil, List.cons_append, List.nil_append] at r68
      have s68 := r68.rsl
      refine At.perm sel9 ?_
      refine At.perm sel9 ?_
      refine At.perm sel9 ?_
      refine At.perm sel9 ?_
      refine At.perm sel4 ?_
      refine At.perm sel9 ?_
      refine At.perm sel9 ?_
      refine At.perm sel9 ?_
      refine At.perm sel9 ?_
      refine At.perm sel9 ?_
      refine At.moreS (Lst := [N6, N10, M22, R]) (Lst' := [N68, N6, N10, M22, R]) (.cons _ (.refl _)) (.cons _ (.cons _ (.cons _ (.cons _ (.cons _ (.refl _)))))) ?_
      refine op_append (nxss rfl rfl rfl rfl) Try.underlying23 Try.underlying23 te25 rfl rfl rZ s68 (by first | exact mem0 | exact mem1 | exact mem2 | exact mem3 | exact mem4 | exact mem5 | exact mem6 | exact mem7 | exact mem8 | exact mem9) (by intro u hu; simp at hu; rcases hu with rfl | rfl | rfl <;> rfl) (by omega) (by omega) sel2 rfl (fun N69 a69 p69 r69 => ?_)
      have s69 := r69.rsl
      refine At.anyS (.refl _) ?_
      refine op_fieldAddr (nxsf rfl rfl rfl) fl25_2 rfl rfl ?_
      refine op_store (nxsl rfl rfl rfl rfl) sz23 rfl rfl rfl rfl rfl B10 (by simp) sel7 (fun N10 B10 => ?_)
      simp only [setL, List.set] at B10
      refine At.sNil ?_
      refine At.inNorm ?_
      refine At.norm (hk_38 ?_)
      refine At.region ?_
      refine op_move (nxlf rfl) rfl rfl ?_
      refine op_addI (nxlf rfl) rfl rfl (by omega) (by omega) rfl ?_
      refine op_assign (nxlf rfl) rfl rfl ?_
      refine At.opsNil ?_
      refine At.norm ?_
      refine At.sub (L' := [N10, N69, NL, NI, NB, NJ, N6, M22, R]) (.cons_cons _ (.cons_cons _ (.cons_cons _ (.cons_cons _ (.cons_cons _ (.cons_cons _ (.cons _ (.cons_cons _ (.cons_cons _ (.cons_cons _ (.slnil))))))))))) ?_
      refine At.perm sel8 ?_
      refine At.perm sel6 ?_
      refine At.perm sel6 ?_
      refine At.perm sel6 ?_
      refine At.perm sel6 ?_
      refine At.perm sel8 ?_
      refine At.perm sel7 ?_
      refine At.perm sel7 ?_
      refine At.perm sel8 ?_
      refine At.back ?_ (.refl _) ⟨j + 1, N10, NL, NI, N69, a69, p69, zs ++ [⟨w.l, p60, w.nb, c60, w.ai, w.ni, w.ci⟩], rfl, rfl, rfl, by omega, B10, by rw [cellsI, List.flatMap_append]; exact r69, hL, s36.le le60, zs_more hz hu le60 (fun J h1 h2 => by rw [hmk1]; simp only [ItN]; exact ⟨e1, s60.le h1, ws, hr'.le h2, hs'.le h2⟩)⟩ ?_
      · exact .cons (by first | exact lkI rfl (by omega) | rfl) (.cons (by first | exact lkI rfl (by omega) | rfl) (.cons (by first | exact lkI rfl (by omega) | rfl) (.cons (by first | exact lkI rfl (by omega) | rfl) (.cons (by first | exact lkI rfl (by omega) | rfl) (.cons (by first | exact lkI rfl (by omega) | rfl) (.cons (by first | exact lkI rfl (by omega) | rfl) .nil))))))
      · omega
    · refine At.exit (At.thenExit (At.thenExit (At.inHit ?_)))
      refine At.norm (hk_34 ?_)
      refine At.seq fun K39 hk_39 => ?_
      refine At.region ?_
      have hj2 : j = its.length := by omega
      have hzz : ∀ J, NI.le J → NZ.le J → M22.le J → ItN J t' ⟨y.l, p36, y.nb, c36, az, j, cz⟩ := fun J h1 h2 h3 => by
        rw [hmk]
        have e := hz J h1 h3
        rw [hj2, List.take_length] at e
        simp only [ItN]
        exact ⟨hyl', s36.le h1, zs, (rZ.rsl).le h2, e⟩
      have henc : Fn Try.prog 13 #[.agg #[.bool y.l, .slice p36 y.nb c36, .slice az j cz]] [] [NI, NZ, M22] (fun v L => ∃ M a cap, v = .tuple #[.slice a t'.form.length cap, .int .i64 0] ∧ L = [M] ∧ Row M 5 1 a t'.form.length cap (u8s t'.form)) :=
        Fn.over fun J hJ => Encode_ok (x := ⟨y.l, p36, y.nb, c36, az, j, cz⟩) (hzz J (hJ _ (by simp)) (hJ _ (by simp)) (hJ _ (by simp))) hfl hdep
      refine op_loadAggB (ds := [_, _, _]) (nxlf rfl) ag25 rfl B10 rfl rfl mem1 rfl ?_
      refine op_callA (nxla rfl) (.cons rfl .nil) (henc) Try.func13 rfl rfl (by simp) rfl ?_
      rintro v73 L73 ⟨M73, a73, c73, rfl, rfl, r73⟩
      change At _ _ _ [M73, N6, N10, NZ, M22, NL, NI, NB, NJ, R] _
      refine op_move (nxlf rfl) rfl rfl ?_
      refine op_extract (nxlf rfl) rfl rfl rfl ?_
      refine op_extract (nxlf rfl) rfl rfl rfl ?_
      refine op_assign (nxlf rfl) rfl rfl ?_
      refine op_assign (nxlf rfl) rfl rfl ?_
      refine At.opsNil ?_
      refine At.norm (hk_39 ?_)
      refine At.seq fun K40 hk_40 => ?_
      refine At.region ?_
      refine op_move (nxlf rfl) rfl rfl ?_
      refine op_move (nxlf rfl) rfl rfl ?_
      refine At.perm sel9 ?_
      refine At.perm sel7 ?_
      refine At.perm sel7 ?_
      refine At.perm sel7 ?_
      refine At.perm sel7 ?_
      refine At.perm sel7 ?_
      refine At.perm sel7 ?_
      refine At.perm sel7 ?_
      refine At.perm sel9 ?_
      refine At.perm sel9 ?_
      refine op_call (nxl rfl) (.cons rfl (.cons rfl .nil)) (BookBytes_f hB r73 hfl) (F := [N6, N10, NZ, M22, NL, NI, R]) Try.func27 rfl rfl (.refl _) (by simp) rfl ?_
      rintro v78 L78 ⟨rfl, NB, NJ, rfl, hB⟩
      change At _ _ _ [NB, NJ, N6, N10, NZ, M22, NL, NI, R] _
      skip
      refine At.opsNil ?_
      refine At.norm (hk_40 ?_)
      refine At.seq fun K41 hk_41 => ?_
      refine At.region ?_
      refine op_move (nxlf rfl) rfl rfl ?_
      refine op_move (nxlf rfl) rfl rfl ?_
      refine op_callA (nxla rfl) (.cons rfl (.cons rfl .nil)) (KTwin_f ha 300 300 rfl (by omega)) Try.func16 rfl rfl (by simp) rfl ?_
      rintro v82 L82 ⟨M82, p82, c82, rfl, rfl, r82⟩
      change At _ _ _ [M82, NB, NJ, N6, N10, NZ, M22, NL, NI, R] _
      rw [← hrw] at r82 ⊢; have s82 := r82.rsl
      refine At.perm sel9 ?_
      refine At.perm sel7 ?_
      refine At.perm sel7 ?_
      refine At.perm sel7 ?_
      refine At.perm sel7 ?_
      refine At.perm sel7 ?_
      refine At.perm sel7 ?_
      refine At.perm sel7 ?_
      refine At.perm sel9 ?_
      refine At.perm sel9 ?_
      refine op_call (nxl rfl) (.cons rfl (.cons rfl .nil)) (LoanBytes_f hL s82 (by omega) (by omega)) (F := [M82, NB, NJ, N6, N10, NZ, M22, R]) Try.func26 rfl rfl (.refl _) (by simp) rfl ?_
      rintro v83 L83 ⟨NL, NI, p83, c83, rfl, rfl, hL, le83, s83⟩
      change At _ _ _ [NL, NI, M82, NB, NJ, N6, N10, NZ, M22, R] _
      have hzz := fun J (h1 : NI.le J) h2 h3 => hzz J (Heaplet.le_trans le83 h1) h2 h3
      refine op_callA (nxla rfl) (.cons rfl .nil) (Decode_w s83 (by omega)) Try.func17 rfl rfl (by simp) rfl ?_
      rintro v84 L84 ⟨xw, ew, NA, NR, NS, bb, ww, bbs, rfl, rfl, rA, rR, hwn, hS, hbb, hbs⟩
      change At _ _ _ [NA, NR, NS, NL, NI, M82, NB, NJ, N6, N10, NZ, M22, R] _
      refine op_move (nxlf rfl) rfl rfl ?_
      refine op_extract (nxlf rfl) rfl rfl rfl ?_
      refine op_extract (nxlf rfl) rfl rfl rfl ?_
      refine op_alloc (nxla rfl) ze25 rfl (fun N14 b14 B14 => ?_)
      change Blk N14 b14 _ [.bool false, .slice none 0 0, .slice none 0 0] at B14
      refine op_store (nxl rfl) sz25 rfl rfl rfl rfl rfl B14 (by simp) sel0 (fun N14 B14 => ?_)
      simp only [setL, List.set] at B14
      refine op_assign (nxlf rfl) rfl rfl ?_
      refine At.opsNil ?_
      refine At.norm (hk_41 ?_)
      refine At.seq fun K42 hk_42 => ?_
      refine At.region ?_
      have hnA : bb.length = xw.nb := rA.rsl.len8
      refine op_move (nxlf rfl) rfl rfl ?_
      refine op_fieldAddr (nxlf rfl) fl25_1 rfl rfl ?_
      refine op_loadB (nxlf rfl) sc22 rfl B14 (by first | rfl) mem0 rfl ?_
      refine At.perm sel13 ?_
      refine At.perm sel13 ?_
      refine At.perm sel13 ?_
      refine At.perm sel13 ?_
      refine At.perm sel13 ?_
      refine At.perm sel11 ?_
      refine At.perm sel11 ?_
      refine At.perm sel11 ?_
      refine At.perm sel11 ?_
      refine At.perm sel11 ?_
      refine At.perm sel10 ?_
      refine At.perm sel11 ?_
      refine At.perm sel13 ?_
      refine At.perm sel13 ?_
      refine op_call (nxl rfl) (.cons rfl (.cons rfl .nil)) (BookBytes_f hB rA (by omega)) (F := [N14, NR, NS, NL, NI, M82, N6, N10, NZ, M22, R]) Try.func27 rfl rfl (.refl _) (by simp) rfl ?_
      rintro v90 L90 ⟨rfl, NB, NJ, rfl, hB⟩
      change At _ _ _ [NB, NJ, N14, NR, NS, NL, NI, M82, N6, N10, NZ, M22, R] _
      skip
      refine At.opsNil ?_
      refine At.norm (hk_42 ?_)
      refine At.seq fun K43 hk_43 => ?_
      refine At.seq fun K44 hk_44 => ?_
      refine At.region ?_
      refine op_assign (nxlf rfl) rfl rfl ?_
      refine At.opsNil ?_
      refine At.norm (hk_44 ?_)
      refine At.block ?_
      refine At.sub (L' := [NB, NJ, N14, NR, NS, NL, NI, N6, N10, NZ, M22, R]) (.cons_cons _ (.cons_cons _ (.cons_cons _ (.cons_cons _ (.cons_cons _ (.cons_cons _ (.cons_cons _ (.cons _ (.cons_cons _ (.cons_cons _ (.cons_cons _ (.cons_cons _ (.cons_cons _ (.slnil)))))))))))))) ?_
      refine At.perm sel11 ?_
      refine At.perm sel2 ?_
      refine At.perm sel2 ?_
      refine At.perm sel7 ?_
      refine At.perm sel7 ?_
      refine At.perm sel11 ?_
      refine At.perm sel8 ?_
      refine At.perm sel8 ?_
      refine At.perm sel11 ?_
      refine At.perm sel9 ?_
      refine At.perm sel11 ?_
      refine At.perm sel11 ?_
      refine At.loop (fun fr_ hp_ ms_ => ∃ (j' : Nat) (NB NJ NR NS : Heaplet) (cs : List Value) (qs : List (List UInt8)), fr_ = [(1, .slice ao n cap), (6, .pointer (some ⟨b6, 0, none⟩)), (7, .pointer (some ⟨b24, 0, none⟩)), (8, .pointer (some ⟨b26, 0, none⟩)), (9, .int .i64 (i : Int)), (10, .pointer (some ⟨b10, 0, none⟩)), (14, .pointer (some ⟨b14, 0, none⟩)), (16, .int .i64 (j' : Int))] ∧ hp_ = [N6, N10, N14, NZ, NR, NS, M22, NL, NI, NB, NJ, R] ∧ xw.ni - j' = ms_ ∧ (j' ≤ xw.ni) ∧ (Book b26 NB NJ) ∧ (Row NR 25 3 xw.ai xw.ni xw.ci cs) ∧ (∀ (i : Nat) (w : IV), j' ≤ i → ww[i]? = some w → cs[i * 3 + 1]? = some (slB w)) ∧ (Bag 5 NS ((ww.drop j').map slB) qs) ∧ (∀ u ∈ qs, u.length ≤ rw3.length)) ?_ (.refl _) ⟨0, NB, NJ, NR, NS, cellsI ww, bbs, rfl, rfl, rfl, by omega, hB, rR, fun i w _ hw => cell_of hw (f := 1) (by omega) rfl, by simpa using hS, hbs⟩ ?_
      · exact .cons (by first | exact lkI rfl (by omega) | rfl) (.cons (by first | exact lkI rfl (by omega) | rfl) (.cons (by first | exact lkI rfl (by omega) | rfl) (.cons (by first | exact lkI rfl (by omega) | rfl) (.cons (by first | exact lkI rfl (by omega) | rfl) (.cons (by first | exact lkI rfl (by omega) | rfl) (.cons (by first | exact lkI rfl (by omega) | rfl) (.cons (by first | exact lkI rfl (by omega) | rfl) .nil)))))))
      rintro _ _ _ ⟨j', NB, NJ, NR, NS, cs, qs, rfl, rfl, rfl, hj', hB, rR, hcs, hS, hqs⟩
      refine At.seq fun K45 hk_45 => ?_
      refine At.seq fun K46 hk_46 => ?_
      refine At.region ?_
      refine op_move (nxlf rfl) rfl rfl ?_
      refine op_fieldAddr (nxlf rfl) fl25_2 rfl rfl ?_
      refine op_loadB (nxlf rfl) sc23 rfl B14 (by first | rfl) mem2 rfl ?_
      refine op_lenS (nxlf rfl) se23 rfl rfl ?_
      refine op_lss (nxlf rfl) rfl rfl rfl ?_
      refine At.opsNil ?_
      refine At.norm (hk_46 ?_)
      refine At.condP rfl (fun c95 => ?_) (fun c95 => ?_)
      · obtain ⟨w, hw⟩ := get_lt (xs := ww) (i := j') (by omega)
        have hS2 := hS
        rw [drop_next hw, List.map_cons] at hS2
        have sR := rR.rsl
        have hcpR := sR.cap63
        have hcl := rR.1
        have hwi : xw.ai.isSome = true := row_some sR (by omega)
        refine At.skip ?_
        refine At.norm (hk_45 ?_)
        refine At.seq fun K47 hk_47 => ?_
        refine At.block ?_
        refine At.seq fun K48 hk_48 => ?_
        refine At.perm sel11 ?_
        refine At.perm sel11 ?_
        refine At.perm sel11 ?_
        refine At.perm sel11 ?_
        refine At.perm sel11 ?_
        refine At.perm sel11 ?_
        refine At.perm sel10 ?_
        refine At.perm sel10 ?_
        refine At.perm sel10 ?_
        refine At.perm sel10 ?_
        refine At.perm sel10 ?_
        refine At.perm sel11 ?_
        refine At.pop hS2 (fun NP NS q0 qs' hqe rP hS' => ?_)
        refine At.region ?_
        refine op_move (nxlf rfl) rfl rfl ?_
        refine op_fieldAddr (nxlf rfl) fl25_2 rfl rfl ?_
        refine op_loadB (nxlf rfl) sc23 rfl B14 (by first | rfl) mem4 rfl ?_
        refine op_move (nxlf rfl) rfl rfl ?_
        refine op_idxE (nxlf rfl) se23 rfl rfl sR (show _ = (((j' : Nat)) : Int) from by omega) (by omega) rfl ?_
        refine op_fieldAddrE (nxlf rfl) fl25_1 rfl (by first | rfl | assumption) rfl ?_
        refine op_loadE (nxlf rfl) sc22 rfl sR (by first | exact get8 (by omega) | exact get64 (by omega) | exact get32 (by omega) | exact hcs j' w (Nat.le_refl _) hw) (by first | exact mem0 | exact mem1 | exact mem2 | exact mem3 | exact mem4 | exact mem5 | exact mem6 | exact mem7 | exact mem8 | exact mem9 | exact mem10 | exact mem11 | exact mem12) rfl ?_
        refine At.perm sel12 ?_
        refine At.perm sel10 ?_
        refine At.perm sel10 ?_
        refine At.perm sel10 ?_
        refine At.perm sel10 ?_
        refine At.perm sel10 ?_
        refine At.perm sel10 ?_
        refine At.perm sel10 ?_
        refine At.perm sel10 ?_
        refine At.perm sel10 ?_
        refine At.perm sel10 ?_
        refine At.perm sel12 ?_
        refine At.perm sel12 ?_
        refine op_call (nxl rfl) (.cons rfl (.cons rfl .nil)) (BookBytes_f hB rP (by have := hqs q0 (by rw [hqe]; exact List.mem_cons_self ..); have := rP.rsl.len8; omega)) (F := [NS, N6, N10, N14, NZ, NR, M22, NL, NI, R]) Try.func27 rfl rfl (.refl _) (by simp) rfl ?_
        rintro v105 L105 ⟨rfl, NB, NJ, rfl, hB⟩
        change At _ _ _ [NB, NJ, NS, N6, N10, N14, NZ, NR, M22, NL, NI, R] _
        skip
        refine At.opsNil ?_
        refine At.norm (hk_48 ?_)
        refine At.region ?_
        refine op_fieldAddr (nxlf rfl) fl25_2 rfl rfl ?_
        refine op_loadB (nxlf rfl) sc23 rfl B14 (by first | rfl) mem5 rfl ?_
        refine op_move (nxlf rfl) rfl rfl ?_
        refine op_idxE (nxlf rfl) se23 rfl rfl sR (show _ = (((j' : Nat)) : Int) from by omega) (by omega) rfl ?_
        refine op_fieldAddrE (nxlf rfl) fl25_0 rfl (by first | rfl | assumption) rfl ?_
        refine op_storeU (nxl rfl) sz4 rfl rfl rfl rfl rfl rR (by simp <;> omega) (by simp) sel7 (fun NQ rQ oQ => ?_)
        skip
        refine At.opsNil ?_
        refine At.inNorm ?_
        refine At.norm (hk_47 ?_)
        refine At.region ?_
        refine op_move (nxlf rfl) rfl rfl ?_
        refine op_addI (nxlf rfl) rfl rfl (by omega) (by omega) rfl ?_
        refine op_assign (nxlf rfl) rfl rfl ?_
        refine At.opsNil ?_
        refine At.norm ?_
        refine At.perm sel11 ?_
        refine At.perm sel3 ?_
        refine At.perm sel3 ?_
        refine At.perm sel11 ?_
        refine At.perm sel11 ?_
        refine At.perm sel11 ?_
        refine At.perm sel7 ?_
        refine At.perm sel7 ?_
        refine At.perm sel11 ?_
        refine At.perm sel11 ?_
        refine At.perm sel11 ?_
        refine At.perm sel11 ?_
        refine At.back ?_ (.refl _) ⟨j' + 1, NB, NJ, NQ, NS, setL cs (j' * 3 + 0) [.bool true], qs', rfl, rfl, rfl, by omega, hB, rQ, fun i w hi hw => set_other (hcs i w (by omega) hw), hS', fun u hu => hqs u (by rw [hqe]; exact List.mem_cons_of_mem _ hu)⟩ ?_
        · exact .cons (by first | exact lkI rfl (by omega) | rfl) (.cons (by first | exact lkI rfl (by omega) | rfl) (.cons (by first | exact lkI rfl (by omega) | rfl) (.cons (by first | exact lkI rfl (by omega) | rfl) (.cons (by first | exact lkI rfl (by omega) | rfl) (.cons (by first | exact lkI rfl (by omega) | rfl) (.cons (by first | exact lkI rfl (by omega) | rfl) (.cons (by first | exact lkI rfl (by omega) | rfl) .nil)))))))
        · omega
      · refine At.exit (At.thenExit (At.thenExit (At.inHit ?_)))
        refine At.norm (hk_43 ?_)
        refine At.seq fun K49 hk_49 => ?_
        refine At.region ?_
        refine op_move (nxlf rfl) rfl rfl ?_
        refine op_move (nxlf rfl) rfl rfl ?_
        refine op_callA (nxla rfl) (.cons rfl (.cons rfl .nil)) (KTwin_f ha 300 300 rfl (by omega)) Try.func16 rfl rfl (by simp) rfl ?_
        rintro v114 L114 ⟨M114, p114, c114, rfl, rfl, r114⟩
        change At _ _ _ [M114, N6, N10, N14, NZ, NR, NS, M22, NL, NI, NB, NJ, R] _
        rw [← hrw] at r114 ⊢; have s114 := r114.rsl
        refine At.perm sel12 ?_
        refine At.perm sel12 ?_
        refine At.perm sel12 ?_
        refine At.perm sel10 ?_
        refine At.perm sel10 ?_
        refine At.perm sel10 ?_
        refine At.perm sel10 ?_
        refine At.perm sel10 ?_
        refine At.perm sel10 ?_
        refine At.perm sel10 ?_
        refine At.perm sel10 ?_
        refine At.perm sel12 ?_
        refine At.perm sel12 ?_
        refine op_call (nxl rfl) (.cons rfl (.cons rfl .nil)) (LoanBytes_f hL s114 (by omega) (by omega)) (F := [M114, N6, N10, N14, NZ, NR, NS, M22, NB, NJ, R]) Try.func26 rfl rfl (.refl _) (by simp) rfl ?_
        rintro v115 L115 ⟨NL, NI, p115, c115, rfl, rfl, hL, le115, s115⟩
        change At _ _ _ [NL, NI, M114, N6, N10, N14, NZ, NR, NS, M22, NB, NJ, R] _
        have hzz := fun J (h1 : NI.le J) h2 h3 => hzz J (Heaplet.le_trans le115 h1) h2 h3
        refine op_callA (nxla rfl) (.cons rfl .nil) (Split_w s115 (by omega)) Try.func23 rfl rfl (by simp) rfl ?_
        rintro v116 L116 ⟨Mp, Mq, l0, n1, n2, a1, c1, a2, c2, pp, qq, e0, rfl, rfl, rp, rq, bp, bq⟩
        change At _ _ _ [Mp, Mq, NL, NI, M114, N6, N10, N14, NZ, NR, NS, M22, NB, NJ, R] _
        refine op_move (nxlf rfl) rfl rfl ?_
        refine op_extract (nxlf rfl) rfl rfl rfl ?_
        refine op_extract (nxlf rfl) rfl rfl rfl ?_
        refine op_extract (nxlf rfl) rfl rfl rfl ?_
        refine op_extract (nxlf rfl) rfl rfl rfl ?_
        refine op_assign (nxlf rfl) rfl rfl ?_
        refine op_assign (nxlf rfl) rfl rfl ?_
        refine op_assign (nxlf rfl) rfl rfl ?_
        refine op_assign (nxlf rfl) rfl rfl ?_
        refine At.opsNil ?_
        refine At.norm (hk_49 ?_)
        refine At.seq fun K50 hk_50 => ?_
        refine At.region ?_
        refine op_move (nxlf rfl) rfl rfl ?_
        refine op_move (nxlf rfl) rfl rfl ?_
        refine At.perm sel14 ?_
        refine At.perm sel12 ?_
        refine At.perm sel12 ?_
        refine At.perm sel12 ?_
        refine At.perm sel12 ?_
        refine At.perm sel12 ?_
        refine At.perm sel12 ?_
        refine At.perm sel12 ?_
        refine At.perm sel12 ?_
        refine At.perm sel12 ?_
        refine At.perm sel12 ?_
        refine At.perm sel12 ?_
        refine At.perm sel12 ?_
        refine At.perm sel14 ?_
        refine At.perm sel14 ?_
        refine op_call (nxl rfl) (.cons rfl (.cons rfl .nil)) (BookBytes_f hB rp (by omega)) (F := [Mq, NL, NI, M114, N6, N10, N14, NZ, NR, NS, M22, R]) Try.func27 rfl rfl (.refl _) (by simp) rfl ?_
        rintro v123 L123 ⟨rfl, NB, NJ, rfl, hB⟩
        change At _ _ _ [NB, NJ, Mq, NL, NI, M114, N6, N10, N14, NZ, NR, NS, M22, R] _
        skip
        refine At.opsNil ?_
        refine At.norm (hk_50 ?_)
        refine At.seq fun K51 hk_51 => ?_
        refine At.region ?_
        refine op_move (nxlf rfl) rfl rfl ?_
        refine op_move (nxlf rfl) rfl rfl ?_
        refine op_call (nxl rfl) (.cons rfl (.cons rfl .nil)) (BookBytes_f hB rq (by omega)) (F := [NL, NI, M114, N6, N10, N14, NZ, NR, NS, M22, R]) Try.func27 rfl rfl (.refl _) (by simp) rfl ?_
        rintro v126 L126 ⟨rfl, NB, NJ, rfl, hB⟩
        change At _ _ _ [NB, NJ, NL, NI, M114, N6, N10, N14, NZ, NR, NS, M22, R] _
        skip
        refine At.opsNil ?_
        refine At.norm (hk_51 ?_)
        refine At.seq fun K52 hk_52 => ?_
        refine At.region ?_
        refine op_move (nxlf rfl) rfl rfl ?_
        refine op_move (nxlf rfl) rfl rfl ?_
        refine op_callA (nxla rfl) (.cons rfl (.cons rfl .nil)) (KTwin_f ha 300 300 rfl (by omega)) Try.func16 rfl rfl (by simp) rfl ?_
        rintro v130 L130 ⟨M130, p130, c130, rfl, rfl, r130⟩
        change At _ _ _ [M130, NB, NJ, NL, NI, M114, N6, N10, N14, NZ, NR, NS, M22, R] _
        rw [← hrw] at r130 ⊢; have s130 := r130.rsl
        refine At.perm sel13 ?_
        refine At.perm sel13 ?_
        refine At.perm sel13 ?_
        refine At.perm sel13 ?_
        refine At.perm sel13 ?_
        refine At.perm sel13 ?_
        refine At.perm sel13 ?_
        refine At.perm sel13 ?_
        refine At.perm sel13 ?_
        refine At.perm sel11 ?_
        refine At.perm sel11 ?_
        refine At.perm sel11 ?_
        refine At.perm sel13 ?_
        refine At.perm sel13 ?_
        refine op_call (nxl rfl) (.cons rfl (.cons rfl .nil)) (LoanBytes_f hL s130 (by omega) (by omega)) (F := [M130, NB, NJ, M114, N6, N10, N14, NZ, NR, NS, M22, R]) Try.func26 rfl rfl (.refl _) (by simp) rfl ?_
        rintro v131 L131 ⟨NL, NI, p131, c131, rfl, rfl, hL, le131, s131⟩
        change At _ _ _ [NL, NI, M130, NB, NJ, M114, N6, N10, N14, NZ, NR, NS, M22, R] _
        have hzz := fun J (h1 : NI.le J) h2 h3 => hzz J (Heaplet.le_trans le131 h1) h2 h3
        refine op_callA (nxla rfl) (.cons rfl .nil) (Envelope_w s131 (by omega)) Try.func21 rfl rfl (by simp) rfl ?_
        rintro v132 L132 ⟨Me, kk, n3, a3, c3, pe, e3, rfl, rfl, re, be3⟩
        change At _ _ _ [Me, NL, NI, M130, NB, NJ, M114, N6, N10, N14, NZ, NR, NS, M22, R] _
        refine op_move (nxlf rfl) rfl rfl ?_
        refine op_extract (nxlf rfl) rfl rfl rfl ?_
        refine op_extract (nxlf rfl) rfl rfl rfl ?_
        refine op_extract (nxlf rfl) rfl rfl rfl ?_
        refine op_assign (nxlf rfl) rfl rfl ?_
        refine At.opsNil ?_
        refine At.norm (hk_52 ?_)
        refine At.seq fun K53 hk_53 => ?_
        refine At.region ?_
        refine op_move (nxlf rfl) rfl rfl ?_
        refine op_move (nxlf rfl) rfl rfl ?_
        refine At.perm sel14 ?_
        refine At.perm sel14 ?_
        refine At.perm sel14 ?_
        refine At.perm sel14 ?_
        refine At.perm sel14 ?_
        refine At.perm sel14 ?_
        refine At.perm sel14 ?_
        refine At.perm sel14 ?_
        refine At.perm sel14 ?_
        refine At.perm sel12 ?_
        refine At.perm sel12 ?_
        refine At.perm sel12 ?_
        refine At.perm sel12 ?_
        refine At.perm sel14 ?_
        refine At.perm sel14 ?_
        refine op_call (nxl rfl) (.cons rfl (.cons rfl .nil)) (BookBytes_f hB re (by omega)) (F := [NL, NI, M130, M114, N6, N10, N14, NZ, NR, NS, M22, R]) Try.func27 rfl rfl (.refl _) (by simp) rfl ?_
        rintro v138 L138 ⟨rfl, NB, NJ, rfl, hB⟩
        change At _ _ _ [NB, NJ, NL, NI, M130, M114, N6, N10, N14, NZ, NR, NS, M22, R] _
        skip
        refine At.opsNil ?_
        refine At.norm (hk_53 ?_)
        refine At.seq fun K54 hk_54 => ?_
        refine At.region ?_
        refine op_move (nxlf rfl) rfl rfl ?_
        refine op_buildA (out := [_, _, .int .u64 0, .int .u64 0]) (nxlf rfl) ze66 ae66 (.cons rfl (.cons rfl .nil)) rfl rfl ?_
        refine op_callA (nxla rfl) (.cons rfl .nil) (hOf) Try.func28 rfl rfl (by simp) rfl ?_
        rintro v141 L141 ⟨M141, p141, c141, rfl, rfl, r141⟩
        change At _ _ _ [M141, NB, NJ, NL, NI, M130, M114, N6, N10, N14, NZ, NR, NS, M22, R] _
        refine op_field (cs := [.bool false, .slice p141 w9.length c141, .slice none 0 0]) (v := .slice p141 w9.length c141) (fo := 0) (nxlf rfl) (fun w => field_bytes w _ _ _) rfl rfl ?_
        refine At.perm sel14 ?_
        refine At.perm sel14 ?_
        refine At.perm sel14 ?_
        refine At.perm sel14 ?_
        refine At.perm sel14 ?_
        refine At.perm sel14 ?_
        refine At.perm sel14 ?_
        refine At.perm sel14 ?_
        refine At.perm sel14 ?_
        refine At.perm sel14 ?_
        refine At.perm sel14 ?_
        refine At.perm sel14 ?_
        refine At.perm sel12 ?_
        refine At.perm sel14 ?_
        refine At.perm sel14 ?_
        refine op_call (nxl rfl) (.cons rfl (.cons rfl .nil)) (BookBytes_f hB r141 (by omega)) (F := [NL, NI, M130, M114, N6, N10, N14, NZ, NR, NS, M22, R]) Try.func27 rfl rfl (.refl _) (by simp) rfl ?_
        rintro v143 L143 ⟨rfl, NB, NJ, rfl, hB⟩
        change At _ _ _ [NB, NJ, NL, NI, M130, M114, N6, N10, N14, NZ, NR, NS, M22, R] _
        skip
        refine At.opsNil ?_
        refine At.norm (hk_54 ?_)
        refine At.seq fun K55 hk_55 => ?_
        refine At.region ?_
        have hsam : Fn Try.prog 19 #[.agg #[.bool y.l, .slice p36 y.nb c36, .slice az j cz], .agg #[.bool y.l, .slice y.ab y.nb y.cb, .slice y.ai y.ni y.ci]] [] [NI, NZ, M22] (fun v L => v = .bool (t'.same t') ∧ L = []) :=
          Fn.over fun J hJ => (Same_f t' t' J J ⟨y.l, p36, y.nb, c36, az, j, cz⟩ y (hzz J (hJ _ (by simp)) (hJ _ (by simp)) (hJ _ (by simp))) (hy0.le (hJ _ (by simp)))).more (by simp)
        rw [hsame] at hsam
        refine op_loadAggB (ds := [_, _, _]) (nxlf rfl) ag25 rfl B10 rfl rfl mem7 rfl ?_
        refine op_loadAggB (ds := [_, _, _]) (nxlf rfl) ag25 rfl B6 rfl rfl mem6 rfl ?_
        refine op_callA (nxla rfl) (.cons rfl (.cons rfl .nil)) (hsam) Try.func19 rfl rfl (by simp) rfl ?_
        rintro v146 L146 ⟨rfl, rfl⟩
        change At _ _ _ [NB, NJ, NL, NI, M130, M114, N6, N10, N14, NZ, NR, NS, M22, R] _
        refine op_not (nxlf rfl) rfl rfl ?_
        refine At.opsNil ?_
        refine At.norm (hk_55 ?_)
        refine At.condF rfl ?_
        refine At.skip ?_
        refine At.inNorm ?_
        refine At.norm (hk_10 ?_)
        refine At.region ?_
        refine op_move (nxlf rfl) rfl rfl ?_
        refine op_addI (nxlf rfl) rfl rfl (by omega) (by omega) rfl ?_
        refine op_assign (nxlf rfl) rfl rfl ?_
        refine At.opsNil ?_
        refine At.norm ?_
        refine At.sub (L' := [NB, NJ, NL, NI, N6, M22, R]) (.cons_cons _ (.cons_cons _ (.cons_cons _ (.cons_cons _ (.cons _ (.cons _ (.cons_cons _ (.cons _ (.cons _ (.cons _ (.cons _ (.cons _ (.cons_cons _ (.cons_cons _ (.slnil))))))))))))))) ?_
        refine At.perm sel6 ?_
        refine At.perm sel2 ?_
        refine At.perm sel2 ?_
        refine At.perm sel4 ?_
        refine At.perm sel4 ?_
        refine At.perm sel6 ?_
        refine At.perm sel6 ?_
        refine At.back ?_ (.refl _) ⟨i + 1, NL, NI, NB, NJ, rfl, rfl, rfl, by omega, hL.mono (by omega), hB⟩ ?_
        · exact .cons (by first | exact lkI rfl (by omega) | rfl) (.cons (by first | exact lkI rfl (by omega) | rfl) (.cons (by first | exact lkI rfl (by omega) | rfl) (.cons (by first | exact lkI rfl (by omega) | rfl) (.cons (by first | exact lkI rfl (by omega) | rfl) .nil))))
        · omega
  · refine At.exit (At.thenExit (At.thenExit (At.inHit ?_)))
    refine At.norm (hk_6 ?_)
    refine At.seq fun K56 hk_56 => ?_
    refine At.region ?_
    refine op_move (nxlf rfl) rfl rfl ?_
    refine At.perm sel6 ?_
    refine At.perm sel6 ?_
    refine At.perm sel6 ?_
    refine At.perm sel4 ?_
    refine At.perm sel4 ?_
    refine At.perm sel6 ?_
    refine At.perm sel6 ?_
    refine op_call (nxl rfl) (.cons rfl .nil) (LoanBack_f hL) (F := [N6, M22, NB, NJ, R]) Try.func29 rfl rfl (.refl _) (by simp) rfl ?_
    rintro v149 L149 ⟨rfl, rfl⟩
    change At _ _ _ [N6, M22, NB, NJ, R] _
    skip
    refine op_move (nxlf rfl) rfl rfl ?_
    refine op_move (nxgf rfl rfl rfl rfl) rfl rfl ?_
    refine At.perm sel4 ?_
    refine At.perm sel2 ?_
    refine At.perm sel2 ?_
    refine At.perm sel4 ?_
    refine At.perm sel4 ?_
    refine op_call (nxg rfl rfl rfl rfl) (.cons rfl .nil) (BookClose_f hB) (F := [N6, M22, R]) Try.func30 rfl rfl (.refl _) (by simp) rfl ?_
    rintro v152 L152 ⟨rfl, rfl⟩
    change At _ _ _ [N6, M22, R] _
    skip
    refine op_pickT (nxlf rfl) rfl rfl rfl ?_
    refine op_move (nxlf rfl) rfl rfl ?_
    refine op_callA (nxga rfl rfl rfl rfl) .nil (wakes_f) Try.func15 rfl rfl (by simp) rfl ?_
    rintro v155 L155 ⟨rfl, rfl⟩
    change At _ _ _ [N6, M22, R] _
    refine op_pickT (nxlf rfl) rfl rfl rfl ?_
    refine op_assign (nxlf rfl) rfl rfl ?_
    refine At.opsNil ?_
    refine At.norm (hk_56 ?_)
    refine At.ret (?_)
    refine At.sub (L' := [R]) (.cons _ (.cons _ (.cons_cons _ (.slnil)))) ?_
    refine At.ret1 (L1 := []) rfl (.tmp rfl .nil) (.refl _) (.refl _) ?_
    exact ⟨rfl, rfl⟩
end Go.Proofs.Ytohmmgggaegbbaa
