/- Calls of Go's library as contracts; the names of operations by the program. Condition: the table of white space is laid. -/
import Derived.Test.YtdplcfineaikjaaDoorB7
namespace Go.Proofs.YtdplcfineaikjaaDoor
set_option linter.unusedVariables false
set_option linter.unusedSimpArgs false
open Go Go.RowKit
theorem Fn.of_pred {P : Program} {f : FuncId} {args : Array Value} {Lr : List Heaplet} {Q : Value → Prop} (h : ∀ w, (∀ N ∈ Lr, N.le (whole w)) → Calls P f args w (Ret w fun v _ => Q v)) : Fn P f args [] Lr (fun v L => Q v ∧ L = []) :=
  Fn.of_ret h fun _ _ _ hv _ => ⟨[], ⟨hv, rfl⟩, fun N hN => absurd hN List.not_mem_nil, .nil⟩
theorem ret_mono {w : World} {R : Value → World → Prop} {v : Value} {w' : World} {e : Ending} (he : e = .returned v) (hR : R v w') (hb : Below w.heap.size w w') : Ret w R e w' := by
  subst he; exact ⟨v, rfl, hR, hb⟩
/-- Texts as cells. -/
def strs (xs : List (List UInt8)) : List Value := xs.map str
theorem strs_len (xs : List (List UInt8)) : (strs xs).length = xs.length := by simp [strs]
theorem strs_get {xs : List (List UInt8)} {j : Nat} (h : j < xs.length) : (strs xs)[j]? = some (str (xs.getD j [])) := by
  simp [strs, List.getD_eq_getElem?_getD, List.getElem?_eq_getElem h]
section
variable {N : Heaplet} {a : Option Addr} {c : Nat} {zs : List Nat}
theorem ints_map (zs : List Nat) : ints zs = (zs.map Int.ofNat).map (Value.int .i64) := by
  simp only [ints, List.map_map]; rfl
theorem sorted_int {zs : List Nat} (h : zs.Pairwise (· < ·)) : (zs.map Int.ofNat).Pairwise (· ≤ ·) := by
  rw [List.pairwise_map]
  exact h.imp fun hab => Int.ofNat_le.2 (Nat.le_of_lt hab)
theorem BinS_f (h : RSl N 1 a zs.length c (ints zs)) (hs : zs.Pairwise (· < ·)) (hl : zs.length < 4611686018427387904) (x : Nat) :
    Fn Tryd.prog 29 #[.slice a zs.length c, .int .i64 (x : Int)] [] [N] (fun v L => (∃ k : Int, v = .tuple #[.int .i64 k, .bool (decide (x ∈ zs))]) ∧ L = []) := by
  refine Fn.of_pred fun w hr => ?_
  have hsl := h.sl (hr N (by simp))
  by_cases h0 : zs = []
  · subst h0
    refine (Tryd.slices_BinarySearch_int_empty a c (x : Int) w).mono ?_
    rintro e w' ⟨he, rfl⟩
    exact ret_mono he ⟨0, by simp⟩ (Below.refl _ _)
  · have hpos : 0 < zs.length := List.length_pos_iff.2 h0
    obtain ⟨b, off, rfl, hc⟩ := hsl.2.2.2 hpos
    refine (Tryd.slices_BinarySearch_int b off zs.length c (zs.map Int.ofNat) (x : Int) w (by simp) hl (fun j hj => ?_) ?_).mono ?_
    · rw [List.length_map] at hj
      rw [hc j (by rw [ints_len]; exact hj)]
      simp [ints, List.getD_eq_getElem?_getD, hj]
    · rw [List.take_of_length_le (by simp)]; exact sorted_int hs
    · rintro e w' ⟨he, q, rfl⟩
      have e1 : (zs.map Int.ofNat).contains (x : Int) = decide (x ∈ zs) := by
        rw [Bool.eq_iff_iff]
        simp
        exact ⟨fun ⟨a, ha, e⟩ => by obtain rfl : a = x := by omega
                                    exact ha, fun h => ⟨x, h, rfl⟩⟩
      rw [List.take_of_length_le (by simp), e1] at he
      exact ret_mono he ⟨_, rfl⟩ (below_drewN (Below.refl _ _) q)
end
theorem Itoa2_f {k : Nat} (h : k < 100) : Fn Tryd.prog 32 #[.int .i64 (k : Int)] [] [] (fun v L => v = str (dec2 k) ∧ L = []) := by
  refine Fn.of_same0 fun w => ?_
  have := Tryd.strconv_Itoa_small k h w
  rw [dec2_eq h] at this
  exact this
theorem FFields_f {N : Heaplet} (hN : TabH N) {s : List UInt8} (hs : s.length < 4294967281) (ha : s.all (fun b => decide (b.toNat < 128)) = true) (hl : (Lib.fields s).length ≤ 1099511627776) :
    Fn Tryd.prog 40 #[str s] [] [N] (fun v L => ∃ M ao cap, v = .slice ao (Lib.fields s).length cap ∧ L = [M] ∧ RSl M 1 ao (Lib.fields s).length cap (strs (Lib.fields s))) := by
  have hF : Fn Tryd.prog 40 #[str s] [] [N] _ := Fn.of_ownb (e := 9) (xs := strs (Lib.fields s)) fun w hr => by
    have h := Tryd.strings_Fields ⟨s.toArray⟩ w hs (fun j b hb => of_decide_eq_true (List.all_eq_true.1 ha b (List.mem_of_getElem? (by simpa using hb)))) (hN w (hr N (by simp)))
    rw [show (⟨s.toArray⟩ : ByteArray).data.toList = s from by simp] at h
    refine h.mono ?_
    rintro e w' ⟨rfl, rfl⟩
    refine ret_mono rfl ⟨some ⟨w.heap.size, 0, none⟩, (Lib.fields s).length, by rw [strs_len], ?_⟩ ((Below.refl _ _).alloc (Nat.le_refl _) _)
    refine ⟨by rw [Nat.mul_one], .inr ⟨w.heap.size, (Lib.fields s).length, _, by rw [strs_len], Nat.le_refl _, heap_alloc_new w _, by rw [strs_len]; exact Nat.le_refl _, Nat.le_trans hl (by decide), by simp, ?_⟩⟩
    rw [strs_len, List.take_of_length_le (by simp)]
    rfl
  refine hF.mono ?_
  rintro v L ⟨M, ao, cap, rfl, rfl, h⟩
  rw [strs_len] at h ⊢
  exact ⟨M, ao, cap, rfl, rfl, h.rsl⟩
set_option maxRecDepth 100000 in
theorem FNames_f (i : Int) : Fn Tryd.prog 41 #[.int .i64 i] [] [] (fun v L => v = str (rowT i) ∧ L = []) := by
  refine Fn.enter (vs := [.int .i64 i]) Tryd.func41 rfl rfl rfl ?_
  intro E R hR
  change At _ _ E [R] _
  refine At.seq fun K1 hk_1 => ?_
  refine At.region ?_
  refine op_assign (nxlf rfl) rfl rfl ?_
  refine At.opsNil ?_
  refine At.norm (hk_1 ?_)
  refine At.seq fun K2 hk_2 => ?_
  refine At.seq fun K3 hk_3 => ?_
  refine At.region ?_
  refine op_move (nxlf rfl) rfl rfl ?_
  refine At.opsNil ?_
  refine At.norm (hk_3 ?_)
  refine At.block ?_
  refine At.seq fun K4 hk_4 => ?_
  refine At.region ?_
  refine op_eql (nxlf rfl) rfl rfl rfl ?_
  refine op_assign (nxlf rfl) rfl rfl ?_
  refine At.opsNil ?_
  refine At.norm (hk_4 ?_)
  refine At.condP rfl (fun c4 => ?_) (fun c4 => ?_)
  · refine At.seq fun K5 hk_5 => ?_
    refine At.region ?_
    refine op_assign (nxlf rfl) rfl rfl ?_
    refine At.opsNil ?_
    refine At.norm (hk_5 ?_)
    refine At.ret (At.inRet (At.thenRet (?_)))
    refine At.ret1 (L1 := []) rfl (.tmp rfl .nil) (.refl _) (.refl _) ?_
    subst c4; exact ⟨rfl, rfl⟩
  · refine At.seq fun K6 hk_6 => ?_
    refine At.region ?_
    refine op_eql (nxlf rfl) rfl rfl rfl ?_
    refine op_assign (nxlf rfl) rfl rfl ?_
    refine At.opsNil ?_
    refine At.norm (hk_6 ?_)
    refine At.condP rfl (fun c6 => ?_) (fun c6 => ?_)
    · refine At.seq fun K7 hk_7 => ?_
      refine At.region ?_
      refine op_assign (nxlf rfl) rfl rfl ?_
      refine At.opsNil ?_
      refine At.norm (hk_7 ?_)
      refine At.ret (At.inRet (At.thenRet (?_)))
      refine At.ret1 (L1 := []) rfl (.tmp rfl .nil) (.refl _) (.refl _) ?_
      subst c6; exact ⟨rfl, rfl⟩
    · refine At.seq fun K8 hk_8 => ?_
      refine At.region ?_
      refine op_eql (nxlf rfl) rfl rfl rfl ?_
      refine op_assign (nxlf rfl) rfl rfl ?_
      refine At.opsNil ?_
      refine At.norm (hk_8 ?_)
      refine At.condP rfl (fun c8 => ?_) (fun c8 => ?_)
      · refine At.seq fun K9 hk_9 => ?_
        refine At.region ?_
        refine op_assign (nxlf rfl) rfl rfl ?_
        refine At.opsNil ?_
        refine At.norm (hk_9 ?_)
        refine At.ret (At.inRet (At.thenRet (?_)))
        refine At.ret1 (L1 := []) rfl (.tmp rfl .nil) (.refl _) (.refl _) ?_
        subst c8; exact ⟨rfl, rfl⟩
      · refine At.seq fun K10 hk_10 => ?_
        refine At.region ?_
        refine op_eql (nxlf rfl) rfl rfl rfl ?_
        refine op_assign (nxlf rfl) rfl rfl ?_
        refine At.opsNil ?_
        refine At.norm (hk_10 ?_)
        refine At.condP rfl (fun c10 => ?_) (fun c10 => ?_)
        · refine At.seq fun K11 hk_11 => ?_
          refine At.region ?_
          refine op_assign (nxlf rfl) rfl rfl ?_
          refine At.opsNil ?_
          refine At.norm (hk_11 ?_)
          refine At.ret (At.inRet (At.thenRet (?_)))
          refine At.ret1 (L1 := []) rfl (.tmp rfl .nil) (.refl _) (.refl _) ?_
          subst c10; exact ⟨rfl, rfl⟩
        · refine At.seq fun K12 hk_12 => ?_
          refine At.region ?_
          refine op_eql (nxlf rfl) rfl rfl rfl ?_
          refine op_assign (nxlf rfl) rfl rfl ?_
          refine At.opsNil ?_
          refine At.norm (hk_12 ?_)
          refine At.condP rfl (fun c12 => ?_) (fun c12 => ?_)
          · refine At.seq fun K13 hk_13 => ?_
            refine At.region ?_
            refine op_assign (nxlf rfl) rfl rfl ?_
            refine At.opsNil ?_
            refine At.norm (hk_13 ?_)
            refine At.ret (At.inRet (At.thenRet (?_)))
            refine At.ret1 (L1 := []) rfl (.tmp rfl .nil) (.refl _) (.refl _) ?_
            subst c12; exact ⟨rfl, rfl⟩
          · refine At.seq fun K14 hk_14 => ?_
            refine At.region ?_
            refine op_eql (nxlf rfl) rfl rfl rfl ?_
            refine op_assign (nxlf rfl) rfl rfl ?_
            refine At.opsNil ?_
            refine At.norm (hk_14 ?_)
            refine At.condP rfl (fun c14 => ?_) (fun c14 => ?_)
            · refine At.seq fun K15 hk_15 => ?_
              refine At.region ?_
              refine op_assign (nxlf rfl) rfl rfl ?_
              refine At.opsNil ?_
              refine At.norm (hk_15 ?_)
              refine At.ret (At.inRet (At.thenRet (?_)))
              refine At.ret1 (L1 := []) rfl (.tmp rfl .nil) (.refl _) (.refl _) ?_
              subst c14; exact ⟨rfl, rfl⟩
            · refine At.seq fun K16 hk_16 => ?_
              refine At.region ?_
              refine op_eql (nxlf rfl) rfl rfl rfl ?_
              refine op_assign (nxlf rfl) rfl rfl ?_
              refine At.opsNil ?_
              refine At.norm (hk_16 ?_)
              refine At.condP rfl (fun c16 => ?_) (fun c16 => ?_)
              · refine At.seq fun K17 hk_17 => ?_
                refine At.region ?_
                refine op_assign (nxlf rfl) rfl rfl ?_
                refine At.opsNil ?_
                refine At.norm (hk_17 ?_)
                refine At.ret (At.inRet (At.thenRet (?_)))
                refine At.ret1 (L1 := []) rfl (.tmp rfl .nil) (.refl _) (.refl _) ?_
                subst c16; exact ⟨rfl, rfl⟩
              · refine At.skip ?_
                refine At.inNorm ?_
                refine At.norm (hk_2 ?_)
                refine At.seq fun K18 hk_18 => ?_
                refine At.region ?_
                refine op_assign (nxlf rfl) rfl rfl ?_
                refine At.opsNil ?_
                refine At.norm (hk_18 ?_)
                refine At.ret (?_)
                refine At.ret1 (L1 := []) rfl (.tmp rfl .nil) (.refl _) (.refl _) ?_
                exact ⟨by rw [rowT, if_neg c4, if_neg c6, if_neg c8, if_neg c10, if_neg c12, if_neg c14, if_neg c16]; rfl, rfl⟩
theorem dec2_le (k : Nat) : (dec2 k).length ≤ 2 := by unfold dec2; split <;> simp
theorem nm_prev {late : Bool} {n : Nat} (h : n = 68) (hl : late = true) : nameN late n = wPREV := if_pos ⟨h, hl⟩
theorem nm_push {late : Bool} {n : Nat} (h1 : 95 < n) (h2 : n ≤ 127) : nameN late n = wPUSH ++ dec2 (n - 95) := by rw [nameN, if_neg (fun h => by omega), if_pos ⟨h1, h2⟩]
theorem nm_dup {late : Bool} {n : Nat} (h1 : 128 ≤ n) (h2 : n < 144) : nameN late n = wDUP ++ dec2 (n - 127) := by rw [nameN, if_neg (fun h => by omega), if_neg (by omega), if_pos ⟨h1, h2⟩]
theorem nm_swap {late : Bool} {n : Nat} (h1 : 144 ≤ n) (h2 : n < 160) : nameN late n = wSWAP ++ dec2 (n - 143) := by rw [nameN, if_neg (fun h => by omega), if_neg (by omega), if_neg (by omega), if_pos ⟨h1, h2⟩]
theorem nm_log {late : Bool} {n : Nat} (h1 : 160 ≤ n) (h2 : n ≤ 164) : nameN late n = wLOG ++ dec2 (n - 160) := by rw [nameN, if_neg (fun h => by omega), if_neg (by omega), if_neg (by omega), if_neg (by omega), if_pos ⟨h1, h2⟩]
theorem nm_row {late : Bool} {n : Nat} (h0 : ¬ (n = 68 ∧ late = true)) (h : ¬ (95 < n ∧ n ≤ 164)) : nameN late n = (rowN (n / 16)).getD (n % 16) [] := by
  rw [nameN, if_neg h0, if_neg (by omega), if_neg (by omega), if_neg (by omega), if_neg (by omega)]
theorem bits_row : ∀ n : Nat, n < 256 → bits .andNot .i64 (n : Int) 15 = ((16 * (n / 16) : Nat) : Int) ∧ bits .and .i64 (n : Int) 15 = ((n % 16 : Nat) : Int) := by decide +kernel
theorem nameC_no {f op : Int} (h : opM f op = false) : nameC f op = [] := if_neg (by rw [h]; decide)
theorem nameC_y {f : Int} {n : Nat} (h : opM f (n : Int) = true) : nameC f (n : Int) = nameN (decide (13 ≤ f)) n := if_pos h
theorem FName_no {f op : Int} (hno : opM f op = false) : Fn Tryd.prog 21 #[.int .i64 f, .int .i64 op] [] [] (fun v L => v = str [] ∧ L = []) := by
  refine Fn.enter (vs := [.int .i64 f, .int .i64 op]) Tryd.func21 rfl rfl rfl ?_
  intro E R hR
  change At _ _ E [R] _
  refine At.seq fun K1 hk_1 => ?_
  refine At.region ?_
  refine op_assign (nxlf rfl) rfl rfl ?_
  refine At.opsNil ?_
  refine At.norm (hk_1 ?_)
  refine At.seq fun K2 hk_2 => ?_
  refine At.seq fun K3 hk_3 => ?_
  refine At.region ?_
  refine op_move (nxlf rfl) rfl rfl ?_
  refine op_move (nxlf rfl) rfl rfl ?_
  refine op_callA (nxla rfl) (.cons rfl (.cons rfl .nil)) (FOp_f f op) Tryd.func38 rfl rfl (by simp) rfl ?_
  rintro v7 L7 ⟨rfl, rfl⟩
  change At _ _ _ [R] _
  rw [hno]
  refine op_not (nxlf rfl) rfl rfl ?_
  refine At.opsNil ?_
  refine At.norm (hk_3 ?_)
  refine At.condT rfl ?_
  refine At.seq fun K4 hk_4 => ?_
  refine At.region ?_
  refine op_assign (nxlf rfl) rfl rfl ?_
  refine At.opsNil ?_
  refine At.norm (hk_4 ?_)
  refine At.ret (At.thenRet (?_))
  refine At.ret1 (L1 := []) rfl (.tmp rfl .nil) (.refl _) (.refl _) ?_
  exact ⟨rfl, rfl⟩
set_option maxRecDepth 100000 in
theorem FName_y {N : Heaplet} (hN : TabH N) {f : Int} {n : Nat} (hop : opM f (n : Int) = true) (hn : n < 256) (hi : isOp n = true) : Fn Tryd.prog 21 #[.int .i64 f, .int .i64 (n : Int)] [] [N] (fun v L => v = str (nameN (decide (13 ≤ f)) n) ∧ L = []) := by
  have hb := bits_row n hn
  refine Fn.enter (vs := [.int .i64 f, .int .i64 (n : Int)]) Tryd.func21 rfl rfl rfl ?_
  intro E R hR
  have hN := hN.le (hR N (by simp))
  change At _ _ E [R] _
  refine At.seq fun K1 hk_1 => ?_
  refine At.region ?_
  refine op_assign (nxlf rfl) rfl rfl ?_
  refine At.opsNil ?_
  refine At.norm (hk_1 ?_)
  refine At.seq fun K2 hk_2 => ?_
  refine At.seq fun K3 hk_3 => ?_
  refine At.region ?_
  refine op_move (nxlf rfl) rfl rfl ?_
  refine op_move (nxlf rfl) rfl rfl ?_
  refine op_callA (nxla rfl) (.cons rfl (.cons rfl .nil)) (FOp_f f n) Tryd.func38 rfl rfl (by simp) rfl ?_
  rintro v7 L7 ⟨rfl, rfl⟩
  change At _ _ _ [R] _
  rw [hop]
  refine op_not (nxlf rfl) rfl rfl ?_
  refine At.opsNil ?_
  refine At.norm (hk_3 ?_)
  refine At.condF rfl ?_
  refine At.skip ?_
  refine At.norm (hk_2 ?_)
  refine At.seq fun K4 hk_4 => ?_
  refine At.block ?_
  refine At.seq fun K5 hk_5 => ?_
  refine At.region ?_
  refine op_move (nxlf rfl) rfl rfl ?_
  refine op_eql (nxlf rfl) rfl rfl rfl ?_
  refine op_move (nxlf rfl) rfl rfl ?_
  refine At.partP (d := 12) rfl (fun g12 => ?_) (fun g12 => ?_)
  · refine op_move (nxgf rfl rfl rfl rfl) rfl rfl ?_
    refine op_geq (nxgf rfl rfl rfl rfl) rfl rfl rfl ?_
    refine op_pickT (nxlf rfl) rfl rfl rfl ?_
    refine op_assign (nxlf rfl) rfl rfl ?_
    refine At.opsNil ?_
    refine At.norm (hk_5 ?_)
    refine At.condP rfl (fun c9 => ?_) (fun c9 => ?_)
    · refine At.seq fun K6 hk_6 => ?_
      refine At.region ?_
      refine op_assign (nxlf rfl) rfl rfl ?_
      refine At.opsNil ?_
      refine At.norm (hk_6 ?_)
      refine At.ret (At.inRet (At.thenRet (?_)))
      refine At.ret1 (L1 := []) rfl (.tmp rfl .nil) (.refl _) (.refl _) ?_
      exact ⟨by rw [nm_prev (by omega) (decide_eq_true (by omega))]; rfl, rfl⟩
    · refine At.seq fun K7 hk_7 => ?_
      refine At.region ?_
      refine op_move (nxlf rfl) rfl rfl ?_
      refine op_gtr (nxlf rfl) rfl rfl rfl ?_
      refine op_move (nxlf rfl) rfl rfl ?_
      refine At.partP (d := 19) rfl (fun g19 => ?_) (fun g19 => ?_)
      · refine op_move (nxgf rfl rfl rfl rfl) rfl rfl ?_
        refine op_leq (nxgf rfl rfl rfl rfl) rfl rfl rfl ?_
        refine op_pickT (nxlf rfl) rfl rfl rfl ?_
        refine op_assign (nxlf rfl) rfl rfl ?_
        refine At.opsNil ?_
        refine At.norm (hk_7 ?_)
        refine At.condP rfl (fun c16 => ?_) (fun c16 => ?_)
        · refine At.seq fun K8 hk_8 => ?_
          refine At.region ?_
          refine op_move (nxlf rfl) rfl rfl ?_
          refine op_subI (nxlf rfl) rfl rfl (by omega) (by omega) rfl ?_
          rw [show (n : Int) - 95 = ((n - 95 : Nat) : Int) by omega]
          refine op_callA (nxla rfl) (.cons rfl .nil) (Itoa2_f (k := n - 95) (by omega)) Tryd.func32 rfl rfl (by simp) rfl ?_
          rintro v25 L25 ⟨rfl, rfl⟩
          change At _ _ _ [R] _
          have hd := dec2_le (n - 95)
          refine op_addS (a := [80, 85, 83, 72]) (nxlf rfl) rfl rfl (by simp; omega) rfl ?_
          refine op_assign (nxlf rfl) rfl rfl ?_
          refine At.opsNil ?_
          refine At.norm (hk_8 ?_)
          refine At.ret (At.inRet (At.thenRet (?_)))
          refine At.ret1 (L1 := []) rfl (.tmp rfl .nil) (.refl _) (.refl _) ?_
          first
            | exact ⟨by rw [nm_push (by omega) (by omega)]; rfl, rfl⟩
            | exact ⟨by rw [nm_dup (by omega) (by omega)]; rfl, rfl⟩
            | exact ⟨by rw [nm_swap (by omega) (by omega)]; rfl, rfl⟩
            | exact ⟨by rw [nm_log (by omega) (by omega)]; rfl, rfl⟩
            | exact ⟨by rw [nm_row (fun h => by have := of_decide_eq_true h.2; omega) hlo], rfl⟩
        · refine At.seq fun K9 hk_9 => ?_
          refine At.region ?_
          refine op_move (nxlf rfl) rfl rfl ?_
          refine op_geq (nxlf rfl) rfl rfl rfl ?_
          refine op_move (nxlf rfl) rfl rfl ?_
          refine At.partP (d := 30) rfl (fun g30 => ?_) (fun g30 => ?_)
          · refine op_move (nxgf rfl rfl rfl rfl) rfl rfl ?_
            refine op_lss (nxgf rfl rfl rfl rfl) rfl rfl rfl ?_
            refine op_pickT (nxlf rfl) rfl rfl rfl ?_
            refine op_assign (nxlf rfl) rfl rfl ?_
            refine At.opsNil ?_
            refine At.norm (hk_9 ?_)
            refine At.condP rfl (fun c27 => ?_) (fun c27 => ?_)
            · refine At.seq fun K10 hk_10 => ?_
              refine At.region ?_
              refine op_move (nxlf rfl) rfl rfl ?_
              refine op_subI (nxlf rfl) rfl rfl (by omega) (by omega) rfl ?_
              refine op_addI (nxlf rfl) rfl rfl (by omega) (by omega) rfl ?_
              rw [show (n : Int) - 128 + 1 = ((n - 127 : Nat) : Int) by omega]
              refine op_callA (nxla rfl) (.cons rfl .nil) (Itoa2_f (k := n - 127) (by omega)) Tryd.func32 rfl rfl (by simp) rfl ?_
              rintro v37 L37 ⟨rfl, rfl⟩
              change At _ _ _ [R] _
              have hd := dec2_le (n - 127)
              refine op_addS (a := [68, 85, 80]) (nxlf rfl) rfl rfl (by simp; omega) rfl ?_
              refine op_assign (nxlf rfl) rfl rfl ?_
              refine At.opsNil ?_
              refine At.norm (hk_10 ?_)
              refine At.ret (At.inRet (At.thenRet (?_)))
              refine At.ret1 (L1 := []) rfl (.tmp rfl .nil) (.refl _) (.refl _) ?_
              first
                | exact ⟨by rw [nm_push (by omega) (by omega)]; rfl, rfl⟩
                | exact ⟨by rw [nm_dup (by omega) (by omega)]; rfl, rfl⟩
                | exact ⟨by rw [nm_swap (by omega) (by omega)]; rfl, rfl⟩
                | exact ⟨by rw [nm_log (by omega) (by omega)]; rfl, rfl⟩
                | exact ⟨by rw [nm_row (fun h => by have := of_decide_eq_true h.2; omega) hlo], rfl⟩
            · refine At.seq fun K11 hk_11 => ?_
              refine At.region ?_
              refine op_move (nxlf rfl) rfl rfl ?_
              refine op_geq (nxlf rfl) rfl rfl rfl ?_
              refine op_move (nxlf rfl) rfl rfl ?_
              refine At.partP (d := 42) rfl (fun g42 => ?_) (fun g42 => ?_)
              · refine op_move (nxgf rfl rfl rfl rfl) rfl rfl ?_
                refine op_lss (nxgf rfl rfl rfl rfl) rfl rfl rfl ?_
                refine op_pickT (nxlf rfl) rfl rfl rfl ?_
                refine op_assign (nxlf rfl) rfl rfl ?_
                refine At.opsNil ?_
                refine At.norm (hk_11 ?_)
                refine At.condP rfl (fun c39 => ?_) (fun c39 => ?_)
                · refine At.seq fun K12 hk_12 => ?_
                  refine At.region ?_
                  refine op_move (nxlf rfl) rfl rfl ?_
                  refine op_subI (nxlf rfl) rfl rfl (by omega) (by omega) rfl ?_
                  refine op_addI (nxlf rfl) rfl rfl (by omega) (by omega) rfl ?_
                  rw [show (n : Int) - 144 + 1 = ((n - 143 : Nat) : Int) by omega]
                  refine op_callA (nxla rfl) (.cons rfl .nil) (Itoa2_f (k := n - 143) (by omega)) Tryd.func32 rfl rfl (by simp) rfl ?_
                  rintro v49 L49 ⟨rfl, rfl⟩
                  change At _ _ _ [R] _
                  have hd := dec2_le (n - 143)
                  refine op_addS (a := [83, 87, 65, 80]) (nxlf rfl) rfl rfl (by simp; omega) rfl ?_
                  refine op_assign (nxlf rfl) rfl rfl ?_
                  refine At.opsNil ?_
                  refine At.norm (hk_12 ?_)
                  refine At.ret (At.inRet (At.thenRet (?_)))
                  refine At.ret1 (L1 := []) rfl (.tmp rfl .nil) (.refl _) (.refl _) ?_
                  first
                    | exact ⟨by rw [nm_push (by omega) (by omega)]; rfl, rfl⟩
                    | exact ⟨by rw [nm_dup (by omega) (by omega)]; rfl, rfl⟩
                    | exact ⟨by rw [nm_swap (by omega) (by omega)]; rfl, rfl⟩
                    | exact ⟨by rw [nm_log (by omega) (by omega)]; rfl, rfl⟩
                    | exact ⟨by rw [nm_row (fun h => by have := of_decide_eq_true h.2; omega) hlo], rfl⟩
                · refine At.seq fun K13 hk_13 => ?_
                  refine At.region ?_
                  refine op_move (nxlf rfl) rfl rfl ?_
                  refine op_geq (nxlf rfl) rfl rfl rfl ?_
                  refine op_move (nxlf rfl) rfl rfl ?_
                  refine At.partP (d := 54) rfl (fun g54 => ?_) (fun g54 => ?_)
                  · refine op_move (nxgf rfl rfl rfl rfl) rfl rfl ?_
                    refine op_leq (nxgf rfl rfl rfl rfl) rfl rfl rfl ?_
                    refine op_pickT (nxlf rfl) rfl rfl rfl ?_
                    refine op_assign (nxlf rfl) rfl rfl ?_
                    refine At.opsNil ?_
                    refine At.norm (hk_13 ?_)
                    refine At.condP rfl (fun c51 => ?_) (fun c51 => ?_)
                    · refine At.seq fun K14 hk_14 => ?_
                      refine At.region ?_
                      refine op_move (nxlf rfl) rfl rfl ?_
                      refine op_subI (nxlf rfl) rfl rfl (by omega) (by omega) rfl ?_
                      rw [show (n : Int) - 160 = ((n - 160 : Nat) : Int) by omega]
                      refine op_callA (nxla rfl) (.cons rfl .nil) (Itoa2_f (k := n - 160) (by omega)) Tryd.func32 rfl rfl (by simp) rfl ?_
                      rintro v60 L60 ⟨rfl, rfl⟩
                      change At _ _ _ [R] _
                      have hd := dec2_le (n - 160)
                      refine op_addS (a := [76, 79, 71]) (nxlf rfl) rfl rfl (by simp; omega) rfl ?_
                      refine op_assign (nxlf rfl) rfl rfl ?_
                      refine At.opsNil ?_
                      refine At.norm (hk_14 ?_)
                      refine At.ret (At.inRet (At.thenRet (?_)))
                      refine At.ret1 (L1 := []) rfl (.tmp rfl .nil) (.refl _) (.refl _) ?_
                      first
                        | exact ⟨by rw [nm_push (by omega) (by omega)]; rfl, rfl⟩
                        | exact ⟨by rw [nm_dup (by omega) (by omega)]; rfl, rfl⟩
                        | exact ⟨by rw [nm_swap (by omega) (by omega)]; rfl, rfl⟩
                        | exact ⟨by rw [nm_log (by omega) (by omega)]; rfl, rfl⟩
                        | exact ⟨by rw [nm_row (fun h => by have := of_decide_eq_true h.2; omega) hlo], rfl⟩
                    · refine At.skip ?_
                      refine At.inNorm ?_
                      refine At.norm (hk_4 ?_)
                      refine At.seq fun K15 hk_15 => ?_
                      refine At.region ?_
                      have hlo : ¬ (95 < n ∧ n ≤ 164) := by omega
                      have hir : inRow n = true := by rw [inRow, hi, decide_eq_false hlo]; rfl
                      obtain ⟨hx1, hx2⟩ := in_rows n hn hir
                      obtain ⟨hf1, hf2, hf3, hf4⟩ := row_fields hx2
                      have hlen : (Lib.fields (rowT (16 * (n / 16) : Nat))).length ≤ 16 := by rw [hf1]; exact hf4
                      refine op_move (nxlf rfl) rfl rfl ?_
                      refine op_bits (by simp) (nxlf rfl) rfl rfl rfl ?_
                      rw [hb.1]
                      refine op_callA (nxla rfl) (.cons rfl .nil) (FNames_f (16 * (n / 16) : Nat)) Tryd.func41 rfl rfl (by simp) rfl ?_
                      rintro v64 L64 ⟨rfl, rfl⟩
                      change At _ _ _ [R] _
                      refine op_callA (nxla rfl) (.cons rfl .nil) (FFields_f hN hf2 hf3 (by omega)) Tryd.func40 rfl rfl (by simp) rfl ?_
                      rintro v65 L65 ⟨N65, a65, c65, rfl, rfl, s65⟩
                      change At _ _ _ [N65, R] _
                      rw [hf1] at s65 ⊢
                      refine op_move (nxlf rfl) rfl rfl ?_
                      refine op_bits (by simp) (nxlf rfl) rfl rfl rfl ?_
                      rw [hb.2]
                      refine op_idx1 (nxlf rfl) se31 rfl rfl s65 (show _ = (((n % 16 : Nat)) : Int) from by omega) (by omega) rfl ?_
                      refine op_loadE (nxlf rfl) sc9 rfl s65 (by first | exact get8 (by omega) | exact get64 (by omega) | exact get32 (by omega) | exact strs_get hx1) (by first | exact mem0 | exact mem1 | exact mem2 | exact mem3 | exact mem4 | exact mem5 | exact mem6 | exact mem7 | exact mem8 | exact mem9) rfl ?_
                      refine op_assign (nxlf rfl) rfl rfl ?_
                      refine At.opsNil ?_
                      refine At.norm (hk_15 ?_)
                      refine At.ret (?_)
                      refine At.sub (L' := [R]) (.cons _ (.cons_cons _ (.slnil))) ?_
                      refine At.ret1 (L1 := []) rfl (.tmp rfl .nil) (.refl _) (.refl _) ?_
                      first
                        | exact ⟨by rw [nm_push (by omega) (by omega)]; rfl, rfl⟩
                        | exact ⟨by rw [nm_dup (by omega) (by omega)]; rfl, rfl⟩
                        | exact ⟨by rw [nm_swap (by omega) (by omega)]; rfl, rfl⟩
                        | exact ⟨by rw [nm_log (by omega) (by omega)]; rfl, rfl⟩
                        | exact ⟨by rw [nm_row (fun h => by have := of_decide_eq_true h.2; omega) hlo], rfl⟩
                  · refine op_skip rfl rfl rfl rfl rfl rfl rfl ?_
                    refine op_skip rfl rfl rfl rfl rfl rfl rfl ?_
                    refine op_pickF (nxlf rfl) rfl rfl rfl ?_
                    refine op_assign (nxlf rfl) rfl rfl ?_
                    refine At.opsNil ?_
                    refine At.norm (hk_13 ?_)
                    refine At.condF rfl ?_
                    refine At.skip ?_
                    refine At.inNorm ?_
                    refine At.norm (hk_4 ?_)
                    refine At.seq fun K16 hk_16 => ?_
                    refine At.region ?_
                    have hlo : ¬ (95 < n ∧ n ≤ 164) := by omega
                    have hir : inRow n = true := by rw [inRow, hi, decide_eq_false hlo]; rfl
                    obtain ⟨hx1, hx2⟩ := in_rows n hn hir
                    obtain ⟨hf1, hf2, hf3, hf4⟩ := row_fields hx2
                    have hlen : (Lib.fields (rowT (16 * (n / 16) : Nat))).length ≤ 16 := by rw [hf1]; exact hf4
                    refine op_move (nxlf rfl) rfl rfl ?_
                    refine op_bits (by simp) (nxlf rfl) rfl rfl rfl ?_
                    rw [hb.1]
                    refine op_callA (nxla rfl) (.cons rfl .nil) (FNames_f (16 * (n / 16) : Nat)) Tryd.func41 rfl rfl (by simp) rfl ?_
                    rintro v64 L64 ⟨rfl, rfl⟩
                    change At _ _ _ [R] _
                    refine op_callA (nxla rfl) (.cons rfl .nil) (FFields_f hN hf2 hf3 (by omega)) Tryd.func40 rfl rfl (by simp) rfl ?_
                    rintro v65 L65 ⟨N65, a65, c65, rfl, rfl, s65⟩
                    change At _ _ _ [N65, R] _
                    rw [hf1] at s65 ⊢
                    refine op_move (nxlf rfl) rfl rfl ?_
                    refine op_bits (by simp) (nxlf rfl) rfl rfl rfl ?_
                    rw [hb.2]
                    refine op_idx1 (nxlf rfl) se31 rfl rfl s65 (show _ = (((n % 16 : Nat)) : Int) from by omega) (by omega) rfl ?_
                    refine op_loadE (nxlf rfl) sc9 rfl s65 (by first | exact get8 (by omega) | exact get64 (by omega) | exact get32 (by omega) | exact strs_get hx1) (by first | exact mem0 | exact mem1 | exact mem2 | exact mem3 | exact mem4 | exact mem5 | exact mem6 | exact mem7 | exact mem8 | exact mem9) rfl ?_
                    refine op_assign (nxlf rfl) rfl rfl ?_
                    refine At.opsNil ?_
                    refine At.norm (hk_16 ?_)
                    refine At.ret (?_)
                    refine At.sub (L' := [R]) (.cons _ (.cons_cons _ (.slnil))) ?_
                    refine At.ret1 (L1 := []) rfl (.tmp rfl .nil) (.refl _) (.refl _) ?_
                    first
                      | exact ⟨by rw [nm_push (by omega) (by omega)]; rfl, rfl⟩
                      | exact ⟨by rw [nm_dup (by omega) (by omega)]; rfl, rfl⟩
                      | exact ⟨by rw [nm_swap (by omega) (by omega)]; rfl, rfl⟩
                      | exact ⟨by rw [nm_log (by omega) (by omega)]; rfl, rfl⟩
                      | exact ⟨by rw [nm_row (fun h => by have := of_decide_eq_true h.2; omega) hlo], rfl⟩
              · refine op_skip rfl rfl rfl rfl rfl rfl rfl ?_
                refine op_skip rfl rfl rfl rfl rfl rfl rfl ?_
                refine op_pickF (nxlf rfl) rfl rfl rfl ?_
                refine op_assign (nxlf rfl) rfl rfl ?_
                refine At.opsNil ?_
                refine At.norm (hk_11 ?_)
                refine At.condF rfl ?_
                refine At.seq fun K17 hk_17 => ?_
                refine At.region ?_
                refine op_move (nxlf rfl) rfl rfl ?_
                refine op_geq (nxlf rfl) rfl rfl rfl ?_
                refine op_move (nxlf rfl) rfl rfl ?_
                refine At.partP (d := 54) rfl (fun g54 => ?_) (fun g54 => ?_)
                · refine op_move (nxgf rfl rfl rfl rfl) rfl rfl ?_
                  refine op_leq (nxgf rfl rfl rfl rfl) rfl rfl rfl ?_
                  refine op_pickT (nxlf rfl) rfl rfl rfl ?_
                  refine op_assign (nxlf rfl) rfl rfl ?_
                  refine At.opsNil ?_
                  refine At.norm (hk_17 ?_)
                  refine At.condP rfl (fun c51 => ?_) (fun c51 => ?_)
                  · refine At.seq fun K18 hk_18 => ?_
                    refine At.region ?_
                    refine op_move (nxlf rfl) rfl rfl ?_
                    refine op_subI (nxlf rfl) rfl rfl (by omega) (by omega) rfl ?_
                    rw [show (n : Int) - 160 = ((n - 160 : Nat) : Int) by omega]
                    refine op_callA (nxla rfl) (.cons rfl .nil) (Itoa2_f (k := n - 160) (by omega)) Tryd.func32 rfl rfl (by simp) rfl ?_
                    rintro v60 L60 ⟨rfl, rfl⟩
                    change At _ _ _ [R] _
                    have hd := dec2_le (n - 160)
                    refine op_addS (a := [76, 79, 71]) (nxlf rfl) rfl rfl (by simp; omega) rfl ?_
                    refine op_assign (nxlf rfl) rfl rfl ?_
                    refine At.opsNil ?_
                    refine At.norm (hk_18 ?_)
                    refine At.ret (At.inRet (At.thenRet (?_)))
                    refine At.ret1 (L1 := []) rfl (.tmp rfl .nil) (.refl _) (.refl _) ?_
                    first
                      | exact ⟨by rw [nm_push (by omega) (by omega)]; rfl, rfl⟩
                      | exact ⟨by rw [nm_dup (by omega) (by omega)]; rfl, rfl⟩
                      | exact ⟨by rw [nm_swap (by omega) (by omega)]; rfl, rfl⟩
                      | exact ⟨by rw [nm_log (by omega) (by omega)]; rfl, rfl⟩
                      | exact ⟨by rw [nm_row (fun h => by have := of_decide_eq_true h.2; omega) hlo], rfl⟩
                  · refine At.skip ?_
                    refine At.inNorm ?_
                    refine At.norm (hk_4 ?_)
                    refine At.seq fun K19 hk_19 => ?_
                    refine At.region ?_
                    have hlo : ¬ (95 < n ∧ n ≤ 164) := by omega
                    have hir : inRow n = true := by rw [inRow, hi, decide_eq_false hlo]; rfl
                    obtain ⟨hx1, hx2⟩ := in_rows n hn hir
                    obtain ⟨hf1, hf2, hf3, hf4⟩ := row_fields hx2
                    have hlen : (Lib.fields (rowT (16 * (n / 16) : Nat))).length ≤ 16 := by rw [hf1]; exact hf4
                    refine op_move (nxlf rfl) rfl rfl ?_
                    refine op_bits (by simp) (nxlf rfl) rfl rfl rfl ?_
                    rw [hb.1]
                    refine op_callA (nxla rfl) (.cons rfl .nil) (FNames_f (16 * (n / 16) : Nat)) Tryd.func41 rfl rfl (by simp) rfl ?_
                    rintro v64 L64 ⟨rfl, rfl⟩
                    change At _ _ _ [R] _
                    refine op_callA (nxla rfl) (.cons rfl .nil) (FFields_f hN hf2 hf3 (by omega)) Tryd.func40 rfl rfl (by simp) rfl ?_
                    rintro v65 L65 ⟨N65, a65, c65, rfl, rfl, s65⟩
                    change At _ _ _ [N65, R] _
                    rw [hf1] at s65 ⊢
                    refine op_move (nxlf rfl) rfl rfl ?_
                    refine op_bits (by simp) (nxlf rfl) rfl rfl rfl ?_
                    rw [hb.2]
                    refine op_idx1 (nxlf rfl) se31 rfl rfl s65 (show _ = (((n % 16 : Nat)) : Int) from by omega) (by omega) rfl ?_
                    refine op_loadE (nxlf rfl) sc9 rfl s65 (by first | exact get8 (by omega) | exact get64 (by omega) | exact get32 (by omega) | exact strs_get hx1) (by first | exact mem0 | exact mem1 | exact mem2 | exact mem3 | exact mem4 | exact mem5 | exact mem6 | exact mem7 | exact mem8 | exact mem9) rfl ?_
                    refine op_assign (nxlf rfl) rfl rfl ?_
                    refine At.opsNil ?_
                    refine At.norm (hk_19 ?_)
                    refine At.ret (?_)
                    refine At.sub (L' := [R]) (.cons _ (.cons_cons _ (.slnil))) ?_
                    refine At.ret1 (L1 := []) rfl (.tmp rfl .nil) (.refl _) (.refl _) ?_
                    first
                      | exact ⟨by rw [nm_push (by omega) (by omega)]; rfl, rfl⟩
                      | exact ⟨by rw [nm_dup (by omega) (by omega)]; rfl, rfl⟩
                      | exact ⟨by rw [nm_swap (by omega) (by omega)]; rfl, rfl⟩
                      | exact ⟨by rw [nm_log (by omega) (by omega)]; rfl, rfl⟩
                      | exact ⟨by rw [nm_row (fun h => by have := of_decide_eq_true h.2; omega) hlo], rfl⟩
                · refine op_skip rfl rfl rfl rfl rfl rfl rfl ?_
                  refine op_skip rfl rfl rfl rfl rfl rfl rfl ?_
                  refine op_pickF (nxlf rfl) rfl rfl rfl ?_
                  refine op_assign (nxlf rfl) rfl rfl ?_
                  refine At.opsNil ?_
                  refine At.norm (hk_17 ?_)
                  refine At.condF rfl ?_
                  refine At.skip ?_
                  refine At.inNorm ?_
                  refine At.norm (hk_4 ?_)
                  refine At.seq fun K20 hk_20 => ?_
                  refine At.region ?_
                  have hlo : ¬ (95 < n ∧ n ≤ 164) := by omega
                  have hir : inRow n = true := by rw [inRow, hi, decide_eq_false hlo]; rfl
                  obtain ⟨hx1, hx2⟩ := in_rows n hn hir
                  obtain ⟨hf1, hf2, hf3, hf4⟩ := row_fields hx2
                  have hlen : (Lib.fields (rowT (16 * (n / 16) : Nat))).length ≤ 16 := by rw [hf1]; exact hf4
                  refine op_move (nxlf rfl) rfl rfl ?_
                  refine op_bits (by simp) (nxlf rfl) rfl rfl rfl ?_
                  rw [hb.1]
                  refine op_callA (nxla rfl) (.cons rfl .nil) (FNames_f (16 * (n / 16) : Nat)) Tryd.func41 rfl rfl (by simp) rfl ?_
                  rintro v64 L64 ⟨rfl, rfl⟩
                  change At _ _ _ [R] _
                  refine op_callA (nxla rfl) (.cons rfl .nil) (FFields_f hN hf2 hf3 (by omega)) Tryd.func40 rfl rfl (by simp) rfl ?_
                  rintro v65 L65 ⟨N65, a65, c65, rfl, rfl, s65⟩
                  change At _ _ _ [N65, R] _
                  rw [hf1] at s65 ⊢
                  refine op_move (nxlf rfl) rfl rfl ?_
                  refine op_bits (by simp) (nxlf rfl) rfl rfl rfl ?_
                  rw [hb.2]
                  refine op_idx1 (nxlf rfl) se31 rfl rfl s65 (show _ = (((n % 16 : Nat)) : Int) from by omega) (by omega) rfl ?_
                  refine op_loadE (nxlf rfl) sc9 rfl s65 (by first | exact get8 (by omega) | exact get64 (by omega) | exact get32 (by omega) | exact strs_get hx1) (by first | exact mem0 | exact mem1 | exact mem2 | exact mem3 | exact mem4 | exact mem5 | exact mem6 | exact mem7 | exact mem8 | exact mem9) rfl ?_
                  refine op_assign (nxlf rfl) rfl rfl ?_
                  refine At.opsNil ?_
                  refine At.norm (hk_20 ?_)
                  refine At.ret (?_)
                  refine At.sub (L' := [R]) (.cons _ (.cons_cons _ (.slnil))) ?_
                  refine At.ret1 (L1 := []) rfl (.tmp rfl .nil) (.refl _) (.refl _) ?_
                  first
                    | exact ⟨by rw [nm_push (by omega) (by omega)]; rfl, rfl⟩
                    | exact ⟨by rw [nm_dup (by omega) (by omega)]; rfl, rfl⟩
                    | exact ⟨by rw [nm_swap (by omega) (by omega)]; rfl, rfl⟩
                    | exact ⟨by rw [nm_log (by omega) (by omega)]; rfl, rfl⟩
                    | exact ⟨by rw [nm_row (fun h => by have := of_decide_eq_true h.2; omega) hlo], rfl⟩
          · refine op_skip rfl rfl rfl rfl rfl rfl rfl ?_
            refine op_skip rfl rfl rfl rfl rfl rfl rfl ?_
            refine op_pickF (nxlf rfl) rfl rfl rfl ?_
            refine op_assign (nxlf rfl) rfl rfl ?_
            refine At.opsNil ?_
            refine At.norm (hk_9 ?_)
            refine At.condF rfl ?_
            refine At.seq fun K21 hk_21 => ?_
            refine At.region ?_
            refine op_move (nxlf rfl) rfl rfl ?_
            refine op_geq (nxlf rfl) rfl rfl rfl ?_
            refine op_move (nxlf rfl) rfl rfl ?_
            refine At.partP (d := 42) rfl (fun g42 => ?_) (fun g42 => ?_)
            · refine op_move (nxgf rfl rfl rfl rfl) rfl rfl ?_
              refine op_lss (nxgf rfl rfl rfl rfl) rfl rfl rfl ?_
              refine op_pickT (nxlf rfl) rfl rfl rfl ?_
              refine op_assign (nxlf rfl) rfl rfl ?_
              refine At.opsNil ?_
              refine At.norm (hk_21 ?_)
              refine At.condP rfl (fun c39 => ?_) (fun c39 => ?_)
              · refine At.seq fun K22 hk_22 => ?_
                refine At.region ?_
                refine op_move (nxlf rfl) rfl rfl ?_
                refine op_subI (nxlf rfl) rfl rfl (by omega) (by omega) rfl ?_
                refine op_addI (nxlf rfl) rfl rfl (by omega) (by omega) rfl ?_
                rw [show (n : Int) - 144 + 1 = ((n - 143 : Nat) : Int) by omega]
                refine op_callA (nxla rfl) (.cons rfl .nil) (Itoa2_f (k := n - 143) (by omega)) Tryd.func32 rfl rfl (by simp) rfl ?_
                rintro v49 L49 ⟨rfl, rfl⟩
                change At _ _ _ [R] _
                have hd := dec2_le (n - 143)
                refine op_addS (a := [83, 87, 65, 80]) (nxlf rfl) rfl rfl (by simp; omega) rfl ?_
                refine op_assign (nxlf rfl) rfl rfl ?_
                refine At.opsNil ?_
                refine At.norm (hk_22 ?_)
                refine At.ret (At.inRet (At.thenRet (?_)))
                refine At.ret1 (L1 := []) rfl (.tmp rfl .nil) (.refl _) (.refl _) ?_
                first
                  | exact ⟨by rw [nm_push (by omega) (by omega)]; rfl, rfl⟩
                  | exact ⟨by rw [nm_dup (by omega) (by omega)]; rfl, rfl⟩
                  | exact ⟨by rw [nm_swap (by omega) (by omega)]; rfl, rfl⟩
                  | exact ⟨by rw [nm_log (by omega) (by omega)]; rfl, rfl⟩
                  | exact ⟨by rw [nm_row (fun h => by have := of_decide_eq_true h.2; omega) hlo], rfl⟩
              · refine At.seq fun K23 hk_23 => ?_
                refine At.region ?_
                refine op_move (nxlf rfl) rfl rfl ?_
                refine op_geq (nxlf rfl) rfl rfl rfl ?_
                refine op_move (nxlf rfl) rfl rfl ?_
                refine At.partP (d := 54) rfl (fun g54 => ?_) (fun g54 => ?_)
                · refine op_move (nxgf rfl rfl rfl rfl) rfl rfl ?_
                  refine op_leq (nxgf rfl rfl rfl rfl) rfl rfl rfl ?_
                  refine op_pickT (nxlf rfl) rfl rfl rfl ?_
                  refine op_assign (nxlf rfl) rfl rfl ?_
                  refine At.opsNil ?_
                  refine At.norm (hk_23 ?_)
                  refine At.condP rfl (fun c51 => ?_) (fun c51 => ?_)
                  · refine At.seq fun K24 hk_24 => ?_
                    refine At.region ?_
                    refine op_move (nxlf rfl) rfl rfl ?_
                    refine op_subI (nxlf rfl) rfl rfl (by omega) (by omega) rfl ?_
                    rw [show (n : Int) - 160 = ((n - 160 : Nat) : Int) by omega]
                    refine op_callA (nxla rfl) (.cons rfl .nil) (Itoa2_f (k := n - 160) (by omega)) Tryd.func32 rfl rfl (by simp) rfl ?_
                    rintro v60 L60 ⟨rfl, rfl⟩
                    change At _ _ _ [R] _
                    have hd := dec2_le (n - 160)
                    refine op_addS (a := [76, 79, 71]) (nxlf rfl) rfl rfl (by simp; omega) rfl ?_
                    refine op_assign (nxlf rfl) rfl rfl ?_
                    refine At.opsNil ?_
                    refine At.norm (hk_24 ?_)
                    refine At.ret (At.inRet (At.thenRet (?_)))
                    refine At.ret1 (L1 := []) rfl (.tmp rfl .nil) (.refl _) (.refl _) ?_
                    first
                      | exact ⟨by rw [nm_push (by omega) (by omega)]; rfl, rfl⟩
                      | exact ⟨by rw [nm_dup (by omega) (by omega)]; rfl, rfl⟩
                      | exact ⟨by rw [nm_swap (by omega) (by omega)]; rfl, rfl⟩
                      | exact ⟨by rw [nm_log (by omega) (by omega)]; rfl, rfl⟩
                      | exact ⟨by rw [nm_row (fun h => by have := of_decide_eq_true h.2; omega) hlo], rfl⟩
                  · refine At.skip ?_
                    refine At.inNorm ?_
                    refine At.norm (hk_4 ?_)
                    refine At.seq fun K25 hk_25 => ?_
                    refine At.region ?_
                    have hlo : ¬ (95 < n ∧ n ≤ 164) := by omega
                    have hir : inRow n = true := by rw [inRow, hi, decide_eq_false hlo]; rfl
                    obtain ⟨hx1, hx2⟩ := in_rows n hn hir
                    obtain ⟨hf1, hf2, hf3, hf4⟩ := row_fields hx2
                    have hlen : (Lib.fields (rowT (16 * (n / 16) : Nat))).length ≤ 16 := by rw [hf1]; exact hf4
                    refine op_move (nxlf rfl) rfl rfl ?_
                    refine op_bits (by simp) (nxlf rfl) rfl rfl rfl ?_
                    rw [hb.1]
                    refine op_callA (nxla rfl) (.cons rfl .nil) (FNames_f (16 * (n / 16) : Nat)) Tryd.func41 rfl rfl (by simp) rfl ?_
                    rintro v64 L64 ⟨rfl, rfl⟩
                    change At _ _ _ [R] _
                    refine op_callA (nxla rfl) (.cons rfl .nil) (FFields_f hN hf2 hf3 (by omega)) Tryd.func40 rfl rfl (by simp) rfl ?_
                    rintro v65 L65 ⟨N65, a65, c65, rfl, rfl, s65⟩
                    change At _ _ _ [N65, R] _
                    rw [hf1] at s65 ⊢
                    refine op_move (nxlf rfl) rfl rfl ?_
                    refine op_bits (by simp) (nxlf rfl) rfl rfl rfl ?_
                    rw [hb.2]
                    refine op_idx1 (nxlf rfl) se31 rfl rfl s65 (show _ = (((n % 16 : Nat)) : Int) from by omega) (by omega) rfl ?_
                    refine op_loadE (nxlf rfl) sc9 rfl s65 (by first | exact get8 (by omega) | exact get64 (by omega) | exact get32 (by omega) | exact strs_get hx1) (by first | exact mem0 | exact mem1 | exact mem2 | exact mem3 | exact mem4 | exact mem5 | exact mem6 | exact mem7 | exact mem8 | exact mem9) rfl ?_
                    refine op_assign (nxlf rfl) rfl rfl ?_
                    refine At.opsNil ?_
                    refine At.norm (hk_25 ?_)
                    refine At.ret (?_)
                    refine At.sub (L' := [R]) (.cons _ (.cons_cons _ (.slnil))) ?_
                    refine At.ret1 (L1 := []) rfl (.tmp rfl .nil) (.refl _) (.refl _) ?_
                    first
                      | exact ⟨by rw [nm_push (by omega) (by omega)]; rfl, rfl⟩
                      | exact ⟨by rw [nm_dup (by omega) (by omega)]; rfl, rfl⟩
                      | exact ⟨by rw [nm_swap (by omega) (by omega)]; rfl, rfl⟩
                      | exact ⟨by rw [nm_log (by omega) (by omega)]; rfl, rfl⟩
                      | exact ⟨by rw [nm_row (fun h => by have := of_decide_eq_true h.2; omega) hlo], rfl⟩
                · refine op_skip rfl rfl rfl rfl rfl rfl rfl ?_
                  refine op_skip rfl rfl rfl rfl rfl rfl rfl ?_
                  refine op_pickF (nxlf rfl) rfl rfl rfl ?_
                  refine op_assign (nxlf rfl) rfl rfl ?_
                  refine At.opsNil ?_
                  refine At.norm (hk_23 ?_)
                  refine At.condF rfl ?_
                  refine At.skip ?_
                  refine At.inNorm ?_
                  refine At.norm (hk_4 ?_)
                  refine At.seq fun K26 hk_26 => ?_
                  refine At.region ?_
                  have hlo : ¬ (95 < n ∧ n ≤ 164) := by omega
                  have hir : inRow n = true := by rw [inRow, hi, decide_eq_false hlo]; rfl
                  obtain ⟨hx1, hx2⟩ := in_rows n hn hir
                  obtain ⟨hf1, hf2, hf3, hf4⟩ := row_fields hx2
                  have hlen : (Lib.fields (rowT (16 * (n / 16) : Nat))).length ≤ 16 := by rw [hf1]; exact hf4
                  refine op_move (nxlf rfl) rfl rfl ?_
                  refine op_bits (by simp) (nxlf rfl) rfl rfl rfl ?_
                  rw [hb.1]
                  refine op_callA (nxla rfl) (.cons rfl .nil) (FNames_f (16 * (n / 16) : Nat)) Tryd.func41 rfl rfl (by simp) rfl ?_
                  rintro v64 L64 ⟨rfl, rfl⟩
                  change At _ _ _ [R] _
                  refine op_callA (nxla rfl) (.cons rfl .nil) (FFields_f hN hf2 hf3 (by omega)) Tryd.func40 rfl rfl (by simp) rfl ?_
                  rintro v65 L65 ⟨N65, a65, c65, rfl, rfl, s65⟩
                  change At _ _ _ [N65, R] _
                  rw [hf1] at s65 ⊢
                  refine op_move (nxlf rfl) rfl rfl ?_
                  refine op_bits (by simp) (nxlf rfl) rfl rfl rfl ?_
                  rw [hb.2]
                  refine op_idx1 (nxlf rfl) se31 rfl rfl s65 (show _ = (((n % 16 : Nat)) : Int) from by omega) (by omega) rfl ?_
                  refine op_loadE (nxlf rfl) sc9 rfl s65 (by first | exact get8 (by omega) | exact get64 (by omega) | exact get32 (by omega) | exact strs_get hx1) (by first | exact mem0 | exact mem1 | exact mem2 | exact mem3 | exact mem4 | exact mem5 | exact mem6 | exact mem7 | exact mem8 | exact mem9) rfl ?_
                  refine op_assign (nxlf rfl) rfl rfl ?_
                  refine At.opsNil ?_
                  refine At.norm (hk_26 ?_)
                  refine At.ret (?_)
                  refine At.sub (L' := [R]) (.cons _ (.cons_cons _ (.slnil))) ?_
                  refine At.ret1 (L1 := []) rfl (.tmp rfl .nil) (.refl _) (.refl _) ?_
                  first
                    | exact ⟨by rw [nm_push (by omega) (by omega)]; rfl, rfl⟩
                    | exact ⟨by rw [nm_dup (by omega) (by omega)]; rfl, rfl⟩
                    | exact ⟨by rw [nm_swap (by omega) (by omega)]; rfl, rfl⟩
                    | exact ⟨by rw [nm_log (by omega) (by omega)]; rfl, rfl⟩
                    | exact ⟨by rw [nm_row (fun h => by have := of_decide_eq_true h.2; omega) hlo], rfl⟩
            · refine op_skip rfl rfl rfl rfl rfl rfl rfl ?_
              refine op_skip rfl rfl rfl rfl rfl rfl rfl ?_
              refine op_pickF (nxlf rfl) rfl rfl rfl ?_
              refine op_assign (nxlf rfl) rfl rfl ?_
              refine At.opsNil ?_
              refine At.norm (hk_21 ?_)
              refine At.condF rfl ?_
              refine At.seq fun K27 hk_27 => ?_
              refine At.region ?_
              refine op_move (nxlf rfl) rfl rfl ?_
              refine op_geq (nxlf rfl) rfl rfl rfl ?_
              refine op_move (nxlf rfl) rfl rfl ?_
              refine At.partP (d := 54) rfl (fun g54 => ?_) (fun g54 => ?_)
              · refine op_move (nxgf rfl rfl rfl rfl) rfl rfl ?_
                refine op_leq (nxgf rfl rfl rfl rfl) rfl rfl rfl ?_
                refine op_pickT (nxlf rfl) rfl rfl rfl ?_
                refine op_assign (nxlf rfl) rfl rfl ?_
                refine At.opsNil ?_
                refine At.norm (hk_27 ?_)
                refine At.condP rfl (fun c51 => ?_) (fun c51 => ?_)
                · refine At.seq fun K28 hk_28 => ?_
                  refine At.region ?_
                  refine op_move (nxlf rfl) rfl rfl ?_
                  refine op_subI (nxlf rfl) rfl rfl (by omega) (by omega) rfl ?_
                  rw [show (n : Int) - 160 = ((n - 160 : Nat) : Int) by omega]
                  refine op_callA (nxla rfl) (.cons rfl .nil) (Itoa2_f (k := n - 160) (by omega)) Tryd.func32 rfl rfl (by simp) rfl ?_
                  rintro v60 L60 ⟨rfl, rfl⟩
                  change At _ _ _ [R] _
                  have hd := dec2_le (n - 160)
                  refine op_addS (a := [76, 79, 71]) (nxlf rfl) rfl rfl (by simp; omega) rfl ?_
                  refine op_assign (nxlf rfl) rfl rfl ?_
                  refine At.opsNil ?_
                  refine At.norm (hk_28 ?_)
                  refine At.ret (At.inRet (At.thenRet (?_)))
                  refine At.ret1 (L1 := []) rfl (.tmp rfl .nil) (.refl _) (.refl _) ?_
                  first
                    | exact ⟨by rw [nm_push (by omega) (by omega)]; rfl, rfl⟩
                    | exact ⟨by rw [nm_dup (by omega) (by omega)]; rfl, rfl⟩
                    | exact ⟨by rw [nm_swap (by omega) (by omega)]; rfl, rfl⟩
                    | exact ⟨by rw [nm_log (by omega) (by omega)]; rfl, rfl⟩
                    | exact ⟨by rw [nm_row (fun h => by have := of_decide_eq_true h.2; omega) hlo], rfl⟩
                · refine At.skip ?_
                  refine At.inNorm ?_
                  refine At.norm (hk_4 ?_)
                  refine At.seq fun K29 hk_29 => ?_
                  refine At.region ?_
                  have hlo : ¬ (95 < n ∧ n ≤ 164) := by omega
                  have hir : inRow n = true := by rw [inRow, hi, decide_eq_false hlo]; rfl
                  obtain ⟨hx1, hx2⟩ := in_rows n hn hir
                  obtain ⟨hf1, hf2, hf3, hf4⟩ := row_fields hx2
                  have hlen : (Lib.fields (rowT (16 * (n / 16) : Nat))).length ≤ 16 := by rw [hf1]; exact hf4
                  refine op_move (nxlf rfl) rfl rfl ?_
                  refine op_bits (by simp) (nxlf rfl) rfl rfl rfl ?_
                  rw [hb.1]
                  refine op_callA (nxla rfl) (.cons rfl .nil) (FNames_f (16 * (n / 16) : Nat)) Tryd.func41 rfl rfl (by simp) rfl ?_
                  rintro v64 L64 ⟨rfl, rfl⟩
                  change At _ _ _ [R] _
                  refine op_callA (nxla rfl) (.cons rfl .nil) (FFields_f hN hf2 hf3 (by omega)) Tryd.func40 rfl rfl (by simp) rfl ?_
                  rintro v65 L65 ⟨N65, a65, c65, rfl, rfl, s65⟩
                  change At _ _ _ [N65, R] _
                  rw [hf1] at s65 ⊢
                  refine op_move (nxlf rfl) rfl rfl ?_
                  refine op_bits (by simp) (nxlf rfl) rfl rfl rfl ?_
                  rw [hb.2]
                  refine op_idx1 (nxlf rfl) se31 rfl rfl s65 (show _ = (((n % 16 : Nat)) : Int) from by omega) (by omega) rfl ?_
                  refine op_loadE (nxlf rfl) sc9 rfl s65 (by first | exact get8 (by omega) | exact get64 (by omega) | exact get32 (by omega) | exact strs_get hx1) (by first | exact mem0 | exact mem1 | exact mem2 | exact mem3 | exact mem4 | exact mem5 | exact mem6 | exact mem7 | exact mem8 | exact mem9) rfl ?_
                  refine op_assign (nxlf rfl) rfl rfl ?_
                  refine At.opsNil ?_
                  refine At.norm (hk_29 ?_)
                  refine At.ret (?_)
                  refine At.sub (L' := [R]) (.cons _ (.cons_cons _ (.slnil))) ?_
                  refine At.ret1 (L1 := []) rfl (.tmp rfl .nil) (.refl _) (.refl _) ?_
                  first
                    | exact ⟨by rw [nm_push (by omega) (by omega)]; rfl, rfl⟩
                    | exact ⟨by rw [nm_dup (by omega) (by omega)]; rfl, rfl⟩
                    | exact ⟨by rw [nm_swap (by omega) (by omega)]; rfl, rfl⟩
                    | exact ⟨by rw [nm_log (by omega) (by omega)]; rfl, rfl⟩
                    | exact ⟨by rw [nm_row (fun h => by have := of_decide_eq_true h.2; omega) hlo], rfl⟩
              · refine op_skip rfl rfl rfl rfl rfl rfl rfl ?_
                refine op_skip rfl rfl rfl rfl rfl rfl rfl ?_
                refine op_pickF (nxlf rfl) rfl rfl rfl ?_
                refine op_assign (nxlf rfl) rfl rfl ?_
                refine At.opsNil ?_
                refine At.norm (hk_27 ?_)
                refine At.condF rfl ?_
                refine At.skip ?_
                refine At.inNorm ?_
                refine At.norm (hk_4 ?_)
                refine At.seq fun K30 hk_30 => ?_
                refine At.region ?_
                have hlo : ¬ (95 < n ∧ n ≤ 164) := by omega
                have hir : inRow n = true := by rw [inRow, hi, decide_eq_false hlo]; rfl
                obtain ⟨hx1, hx2⟩ := in_rows n hn hir
                obtain ⟨hf1, hf2, hf3, hf4⟩ := row_fields hx2
                have hlen : (Lib.fields (rowT (16 * (n / 16) : Nat))).length ≤ 16 := by rw [hf1]; exact hf4
                refine op_move (nxlf rfl) rfl rfl ?_
                refine op_bits (by simp) (nxlf rfl) rfl rfl rfl ?_
                rw [hb.1]
                refine op_callA (nxla rfl) (.cons rfl .nil) (FNames_f (16 * (n / 16) : Nat)) Tryd.func41 rfl rfl (by simp) rfl ?_
                rintro v64 L64 ⟨rfl, rfl⟩
                change At _ _ _ [R] _
                refine op_callA (nxla rfl) (.cons rfl .nil) (FFields_f hN hf2 hf3 (by omega)) Tryd.func40 rfl rfl (by simp) rfl ?_
                rintro v65 L65 ⟨N65, a65, c65, rfl, rfl, s65⟩
                change At _ _ _ [N65, R] _
                rw [hf1] at s65 ⊢
                refine op_move (nxlf rfl) rfl rfl ?_
                refine op_bits (by simp) (nxlf rfl) rfl rfl rfl ?_
                rw [hb.2]
                refine op_idx1 (nxlf rfl) se31 rfl rfl s65 (show _ = (((n % 16 : Nat)) : Int) from by omega) (by omega) rfl ?_
                refine op_loadE (nxlf rfl) sc9 rfl s65 (by first | exact get8 (by omega) | exact get64 (by omega) | exact get32 (by omega) | exact strs_get hx1) (by first | exact mem0 | exact mem1 | exact mem2 | exact mem3 | exact mem4 | exact mem5 | exact mem6 | exact mem7 | exact mem8 | exact mem9) rfl ?_
                refine op_assign (nxlf rfl) rfl rfl ?_
                refine At.opsNil ?_
                refine At.norm (hk_30 ?_)
                refine At.ret (?_)
                refine At.sub (L' := [R]) (.cons _ (.cons_cons _ (.slnil))) ?_
                refine At.ret1 (L1 := []) rfl (.tmp rfl .nil) (.refl _) (.refl _) ?_
                first
                  | exact ⟨by rw [nm_push (by omega) (by omega)]; rfl, rfl⟩
                  | exact ⟨by rw [nm_dup (by omega) (by omega)]; rfl, rfl⟩
                  | exact ⟨by rw [nm_swap (by omega) (by omega)]; rfl, rfl⟩
                  | exact ⟨by rw [nm_log (by omega) (by omega)]; rfl, rfl⟩
                  | exact ⟨by rw [nm_row (fun h => by have := of_decide_eq_true h.2; omega) hlo], rfl⟩
      · refine op_skip rfl rfl rfl rfl rfl rfl rfl ?_
        refine op_skip rfl rfl rfl rfl rfl rfl rfl ?_
        refine op_pickF (nxlf rfl) rfl rfl rfl ?_
        refine op_assign (nxlf rfl) rfl rfl ?_
        refine At.opsNil ?_
        refine At.norm (hk_7 ?_)
        refine At.condF rfl ?_
        refine At.seq fun K31 hk_31 => ?_
        refine At.region ?_
        refine op_move (nxlf rfl) rfl rfl ?_
        refine op_geq (nxlf rfl) rfl rfl rfl ?_
        refine op_move (nxlf rfl) rfl rfl ?_
        refine At.partP (d := 30) rfl (fun g30 => ?_) (fun g30 => ?_)
        · refine op_move (nxgf rfl rfl rfl rfl) rfl rfl ?_
          refine op_lss (nxgf rfl rfl rfl rfl) rfl rfl rfl ?_
          refine op_pickT (nxlf rfl) rfl rfl rfl ?_
          refine op_assign (nxlf rfl) rfl rfl ?_
          refine At.opsNil ?_
          refine At.norm (hk_31 ?_)
          refine At.condP rfl (fun c27 => ?_) (fun c27 => ?_)
          · refine At.seq fun K32 hk_32 => ?_
            refine At.region ?_
            refine op_move (nxlf rfl) rfl rfl ?_
            refine op_subI (nxlf rfl) rfl rfl (by omega) (by omega) rfl ?_
            refine op_addI (nxlf rfl) rfl rfl (by omega) (by omega) rfl ?_
            rw [show (n : Int) - 128 + 1 = ((n - 127 : Nat) : Int) by omega]
            refine op_callA (nxla rfl) (.cons rfl .nil) (Itoa2_f (k := n - 127) (by omega)) Tryd.func32 rfl rfl (by simp) rfl ?_
            rintro v37 L37 ⟨rfl, rfl⟩
            change At _ _ _ [R] _
            have hd := dec2_le (n - 127)
            refine op_addS (a := [68, 85, 80]) (nxlf rfl) rfl rfl (by simp; omega) rfl ?_
            refine op_assign (nxlf rfl) rfl rfl ?_
            refine At.opsNil ?_
            refine At.norm (hk_32 ?_)
            refine At.ret (At.inRet (At.thenRet (?_)))
            refine At.ret1 (L1 := []) rfl (.tmp rfl .nil) (.refl _) (.refl _) ?_
            first
              | exact ⟨by rw [nm_push (by omega) (by omega)]; rfl, rfl⟩
              | exact ⟨by rw [nm_dup (by omega) (by omega)]; rfl, rfl⟩
              | exact ⟨by rw [nm_swap (by omega) (by omega)]; rfl, rfl⟩
              | exact ⟨by rw [nm_log (by omega) (by omega)]; rfl, rfl⟩
              | exact ⟨by rw [nm_row (fun h => by have := of_decide_eq_true h.2; omega) hlo], rfl⟩
          · refine At.seq fun K33 hk_33 => ?_
            refine At.region ?_
            refine op_move (nxlf rfl) rfl rfl ?_
            refine op_geq (nxlf rfl) rfl rfl rfl ?_
            refine op_move (nxlf rfl) rfl rfl ?_
            refine At.partP (d := 42) rfl (fun g42 => ?_) (fun g42 => ?_)
            · refine op_move (nxgf rfl rfl rfl rfl) rfl rfl ?_
              refine op_lss (nxgf rfl rfl rfl rfl) rfl rfl rfl ?_
              refine op_pickT (nxlf rfl) rfl rfl rfl ?_
              refine op_assign (nxlf rfl) rfl rfl ?_
              refine At.opsNil ?_
              refine At.norm (hk_33 ?_)
              refine At.condP rfl (fun c39 => ?_) (fun c39 => ?_)
              · refine At.seq fun K34 hk_34 => ?_
                refine At.region ?_
                refine op_move (nxlf rfl) rfl rfl ?_
                refine op_subI (nxlf rfl) rfl rfl (by omega) (by omega) rfl ?_
                refine op_addI (nxlf rfl) rfl rfl (by omega) (by omega) rfl ?_
                rw [show (n : Int) - 144 + 1 = ((n - 143 : Nat) : Int) by omega]
                refine op_callA (nxla rfl) (.cons rfl .nil) (Itoa2_f (k := n - 143) (by omega)) Tryd.func32 rfl rfl (by simp) rfl ?_
                rintro v49 L49 ⟨rfl, rfl⟩
                change At _ _ _ [R] _
                have hd := dec2_le (n - 143)
                refine op_addS (a := [83, 87, 65, 80]) (nxlf rfl) rfl rfl (by simp; omega) rfl ?_
                refine op_assign (nxlf rfl) rfl rfl ?_
                refine At.opsNil ?_
                refine At.norm (hk_34 ?_)
                refine At.ret (At.inRet (At.thenRet (?_)))
                refine At.ret1 (L1 := []) rfl (.tmp rfl .nil) (.refl _) (.refl _) ?_
                first
                  | exact ⟨by rw [nm_push (by omega) (by omega)]; rfl, rfl⟩
                  | exact ⟨by rw [nm_dup (by omega) (by omega)]; rfl, rfl⟩
                  | exact ⟨by rw [nm_swap (by omega) (by omega)]; rfl, rfl⟩
                  | exact ⟨by rw [nm_log (by omega) (by omega)]; rfl, rfl⟩
                  | exact ⟨by rw [nm_row (fun h => by have := of_decide_eq_true h.2; omega) hlo], rfl⟩
              · refine At.seq fun K35 hk_35 => ?_
                refine At.region ?_
                refine op_move (nxlf rfl) rfl rfl ?_
                refine op_geq (nxlf rfl) rfl rfl rfl ?_
                refine op_move (nxlf rfl) rfl rfl ?_
                refine At.partP (d := 54) rfl (fun g54 => ?_) (fun g54 => ?_)
                · refine op_move (nxgf rfl rfl rfl rfl) rfl rfl ?_
                  refine op_leq (nxgf rfl rfl rfl rfl) rfl rfl rfl ?_
                  refine op_pickT (nxlf rfl) rfl rfl rfl ?_
                  refine op_assign (nxlf rfl) rfl rfl ?_
                  refine At.opsNil ?_
                  refine At.norm (hk_35 ?_)
                  refine At.condP rfl (fun c51 => ?_) (fun c51 => ?_)
                  · refine At.seq fun K36 hk_36 => ?_
                    refine At.region ?_
                    refine op_move (nxlf rfl) rfl rfl ?_
                    refine op_subI (nxlf rfl) rfl rfl (by omega) (by omega) rfl ?_
                    rw [show (n : Int) - 160 = ((n - 160 : Nat) : Int) by omega]
                    refine op_callA (nxla rfl) (.cons rfl .nil) (Itoa2_f (k := n - 160) (by omega)) Tryd.func32 rfl rfl (by simp) rfl ?_
                    rintro v60 L60 ⟨rfl, rfl⟩
                    change At _ _ _ [R] _
                    have hd := dec2_le (n - 160)
                    refine op_addS (a := [76, 79, 71]) (nxlf rfl) rfl rfl (by simp; omega) rfl ?_
                    refine op_assign (nxlf rfl) rfl rfl ?_
                    refine At.opsNil ?_
                    refine At.norm (hk_36 ?_)
                    refine At.ret (At.inRet (At.thenRet (?_)))
                    refine At.ret1 (L1 := []) rfl (.tmp rfl .nil) (.refl _) (.refl _) ?_
                    first
                      | exact ⟨by rw [nm_push (by omega) (by omega)]; rfl, rfl⟩
                      | exact ⟨by rw [nm_dup (by omega) (by omega)]; rfl, rfl⟩
                      | exact ⟨by rw [nm_swap (by omega) (by omega)]; rfl, rfl⟩
                      | exact ⟨by rw [nm_log (by omega) (by omega)]; rfl, rfl⟩
                      | exact ⟨by rw [nm_row (fun h => by have := of_decide_eq_true h.2; omega) hlo], rfl⟩
                  · refine At.skip ?_
                    refine At.inNorm ?_
                    refine At.norm (hk_4 ?_)
                    refine At.seq fun K37 hk_37 => ?_
                    refine At.region ?_
                    have hlo : ¬ (95 < n ∧ n ≤ 164) := by omega
                    have hir : inRow n = true := by rw [inRow, hi, decide_eq_false hlo]; rfl
                    obtain ⟨hx1, hx2⟩ := in_rows n hn hir
                    obtain ⟨hf1, hf2, hf3, hf4⟩ := row_fields hx2
                    have hlen : (Lib.fields (rowT (16 * (n / 16) : Nat))).length ≤ 16 := by rw [hf1]; exact hf4
                    refine op_move (nxlf rfl) rfl rfl ?_
                    refine op_bits (by simp) (nxlf rfl) rfl rfl rfl ?_
                    rw [hb.1]
                    refine op_callA (nxla rfl) (.cons rfl .nil) (FNames_f (16 * (n / 16) : Nat)) Tryd.func41 rfl rfl (by simp) rfl ?_
                    rintro v64 L64 ⟨rfl, rfl⟩
                    change At _ _ _ [R] _
                    refine op_callA (nxla rfl) (.cons rfl .nil) (FFields_f hN hf2 hf3 (by omega)) Tryd.func40 rfl rfl (by simp) rfl ?_
                    rintro v65 L65 ⟨N65, a65, c65, rfl, rfl, s65⟩
                    change At _ _ _ [N65, R] _
                    rw [hf1] at s65 ⊢
                    refine op_move (nxlf rfl) rfl rfl ?_
                    refine op_bits (by simp) (nxlf rfl) rfl rfl rfl ?_
                    rw [hb.2]
                    refine op_idx1 (nxlf rfl) se31 rfl rfl s65 (show _ = (((n % 16 : Nat)) : Int) from by omega) (by omega) rfl ?_
                    refine op_loadE (nxlf rfl) sc9 rfl s65 (by first | exact get8 (by omega) | exact get64 (by omega) | exact get32 (by omega) | exact strs_get hx1) (by first | exact mem0 | exact mem1 | exact mem2 | exact mem3 | exact mem4 | exact mem5 | exact mem6 | exact mem7 | exact mem8 | exact mem9) rfl ?_
                    refine op_assign (nxlf rfl) rfl rfl ?_
                    refine At.opsNil ?_
                    refine At.norm (hk_37 ?_)
                    refine At.ret (?_)
                    refine At.sub (L' := [R]) (.cons _ (.cons_cons _ (.slnil))) ?_
                    refine At.ret1 (L1 := []) rfl (.tmp rfl .nil) (.refl _) (.refl _) ?_
                    first
                      | exact ⟨by rw [nm_push (by omega) (by omega)]; rfl, rfl⟩
                      | exact ⟨by rw [nm_dup (by omega) (by omega)]; rfl, rfl⟩
                      | exact ⟨by rw [nm_swap (by omega) (by omega)]; rfl, rfl⟩
                      | exact ⟨by rw [nm_log (by omega) (by omega)]; rfl, rfl⟩
                      | exact ⟨by rw [nm_row (fun h => by have := of_decide_eq_true h.2; omega) hlo], rfl⟩
                · refine op_skip rfl rfl rfl rfl rfl rfl rfl ?_
                  refine op_skip rfl rfl rfl rfl rfl rfl rfl ?_
                  refine op_pickF (nxlf rfl) rfl rfl rfl ?_
                  refine op_assign (nxlf rfl) rfl rfl ?_
                  refine At.opsNil ?_
                  refine At.norm (hk_35 ?_)
                  refine At.condF rfl ?_
                  refine At.skip ?_
                  refine At.inNorm ?_
                  refine At.norm (hk_4 ?_)
                  refine At.seq fun K38 hk_38 => ?_
                  refine At.region ?_
                  have hlo : ¬ (95 < n ∧ n ≤ 164) := by omega
                  have hir : inRow n = true := by rw [inRow, hi, decide_eq_false hlo]; rfl
                  obtain ⟨hx1, hx2⟩ := in_rows n hn hir
                  obtain ⟨hf1, hf2, hf3, hf4⟩ := row_fields hx2
                  have hlen : (Lib.fields (rowT (16 * (n / 16) : Nat))).length ≤ 16 := by rw [hf1]; exact hf4
                  refine op_move (nxlf rfl) rfl rfl ?_
                  refine op_bits (by simp) (nxlf rfl) rfl rfl rfl ?_
                  rw [hb.1]
                  refine op_callA (nxla rfl) (.cons rfl .nil) (FNames_f (16 * (n / 16) : Nat)) Tryd.func41 rfl rfl (by simp) rfl ?_
                  rintro v64 L64 ⟨rfl, rfl⟩
                  change At _ _ _ [R] _
                  refine op_callA (nxla rfl) (.cons rfl .nil) (FFields_f hN hf2 hf3 (by omega)) Tryd.func40 rfl rfl (by simp) rfl ?_
                  rintro v65 L65 ⟨N65, a65, c65, rfl, rfl, s65⟩
                  change At _ _ _ [N65, R] _
                  rw [hf1] at s65 ⊢
                  refine op_move (nxlf rfl) rfl rfl ?_
                  refine op_bits (by simp) (nxlf rfl) rfl rfl rfl ?_
                  rw [hb.2]
                  refine op_idx1 (nxlf rfl) se31 rfl rfl s65 (show _ = (((n % 16 : Nat)) : Int) from by omega) (by omega) rfl ?_
                  refine op_loadE (nxlf rfl) sc9 rfl s65 (by first | exact get8 (by omega) | exact get64 (by omega) | exact get32 (by omega) | exact strs_get hx1) (by first | exact mem0 | exact mem1 | exact mem2 | exact mem3 | exact mem4 | exact mem5 | exact mem6 | exact mem7 | exact mem8 | exact mem9) rfl ?_
                  refine op_assign (nxlf rfl) rfl rfl ?_
                  refine At.opsNil ?_
                  refine At.norm (hk_38 ?_)
                  refine At.ret (?_)
                  refine At.sub (L' := [R]) (.cons _ (.cons_cons _ (.slnil))) ?_
                  refine At.ret1 (L1 := []) rfl (.tmp rfl .nil) (.refl _) (.refl _) ?_
                  first
                    | exact ⟨by rw [nm_push (by omega) (by omega)]; rfl, rfl⟩
                    | exact ⟨by rw [nm_dup (by omega) (by omega)]; rfl, rfl⟩
                    | exact ⟨by rw [nm_swap (by omega) (by omega)]; rfl, rfl⟩
                    | exact ⟨by rw [nm_log (by omega) (by omega)]; rfl, rfl⟩
                    | exact ⟨by rw [nm_row (fun h => by have := of_decide_eq_true h.2; omega) hlo], rfl⟩
            · refine op_skip rfl rfl rfl rfl rfl rfl rfl ?_
              refine op_skip rfl rfl rfl rfl rfl rfl rfl ?_
              refine op_pickF (nxlf rfl) rfl rfl rfl ?_
              refine op_assign (nxlf rfl) rfl rfl ?_
              refine At.opsNil ?_
              refine At.norm (hk_33 ?_)
              refine At.condF rfl ?_
              refine At.seq fun K39 hk_39 => ?_
              refine At.region ?_
              refine op_move (nxlf rfl) rfl rfl ?_
              refine op_geq (nxlf rfl) rfl rfl rfl ?_
              refine op_move (nxlf rfl) rfl rfl ?_
              refine At.partP (d := 54) rfl (fun g54 => ?_) (fun g54 => ?_)
              · refine op_move (nxgf rfl rfl rfl rfl) rfl rfl ?_
                refine op_leq (nxgf rfl rfl rfl rfl) rfl rfl rfl ?_
                refine op_pickT (nxlf rfl) rfl rfl rfl ?_
                refine op_assign (nxlf rfl) rfl rfl ?_
                refine At.opsNil ?_
                refine At.norm (hk_39 ?_)
                refine At.condP rfl (fun c51 => ?_) (fun c51 => ?_)
                · refine At.seq fun K40 hk_40 => ?_
                  refine At.region ?_
                  refine op_move (nxlf rfl) rfl rfl ?_
                  refine op_subI (nxlf rfl) rfl rfl (by omega) (by omega) rfl ?_
                  rw [show (n : Int) - 160 = ((n - 160 : Nat) : Int) by omega]
                  refine op_callA (nxla rfl) (.cons rfl .nil) (Itoa2_f (k := n - 160) (by omega)) Tryd.func32 rfl rfl (by simp) rfl ?_
                  rintro v60 L60 ⟨rfl, rfl⟩
                  change At _ _ _ [R] _
                  have hd := dec2_le (n - 160)
                  refine op_addS (a := [76, 79, 71]) (nxlf rfl) rfl rfl (by simp; omega) rfl ?_
                  refine op_assign (nxlf rfl) rfl rfl ?_
                  refine At.opsNil ?_
                  refine At.norm (hk_40 ?_)
                  refine At.ret (At.inRet (At.thenRet (?_)))
                  refine At.ret1 (L1 := []) rfl (.tmp rfl .nil) (.refl _) (.refl _) ?_
                  first
                    | exact ⟨by rw [nm_push (by omega) (by omega)]; rfl, rfl⟩
                    | exact ⟨by rw [nm_dup (by omega) (by omega)]; rfl, rfl⟩
                    | exact ⟨by rw [nm_swap (by omega) (by omega)]; rfl, rfl⟩
                    | exact ⟨by rw [nm_log (by omega) (by omega)]; rfl, rfl⟩
                    | exact ⟨by rw [nm_row (fun h => by have := of_decide_eq_true h.2; omega) hlo], rfl⟩
                · refine At.skip ?_
                  refine At.inNorm ?_
                  refine At.norm (hk_4 ?_)
                  refine At.seq fun K41 hk_41 => ?_
                  refine At.region ?_
                  have hlo : ¬ (95 < n ∧ n ≤ 164) := by omega
                  have hir : inRow n = true := by rw [inRow, hi, decide_eq_false hlo]; rfl
                  obtain ⟨hx1, hx2⟩ := in_rows n hn hir
                  obtain ⟨hf1, hf2, hf3, hf4⟩ := row_fields hx2
                  have hlen : (Lib.fields (rowT (16 * (n / 16) : Nat))).length ≤ 16 := by rw [hf1]; exact hf4
                  refine op_move (nxlf rfl) rfl rfl ?_
                  refine op_bits (by simp) (nxlf rfl) rfl rfl rfl ?_
                  rw [hb.1]
                  refine op_callA (nxla rfl) (.cons rfl .nil) (FNames_f (16 * (n / 16) : Nat)) Tryd.func41 rfl rfl (by simp) rfl ?_
                  rintro v64 L64 ⟨rfl, rfl⟩
                  change At _ _ _ [R] _
                  refine op_callA (nxla rfl) (.cons rfl .nil) (FFields_f hN hf2 hf3 (by omega)) Tryd.func40 rfl rfl (by simp) rfl ?_
                  rintro v65 L65 ⟨N65, a65, c65, rfl, rfl, s65⟩
                  change At _ _ _ [N65, R] _
                  rw [hf1] at s65 ⊢
                  refine op_move (nxlf rfl) rfl rfl ?_
                  refine op_bits (by simp) (nxlf rfl) rfl rfl rfl ?_
                  rw [hb.2]
                  refine op_idx1 (nxlf rfl) se31 rfl rfl s65 (show _ = (((n % 16 : Nat)) : Int) from by omega) (by omega) rfl ?_
                  refine op_loadE (nxlf rfl) sc9 rfl s65 (by first | exact get8 (by omega) | exact get64 (by omega) | exact get32 (by omega) | exact strs_get hx1) (by first | exact mem0 | exact mem1 | exact mem2 | exact mem3 | exact mem4 | exact mem5 | exact mem6 | exact mem7 | exact mem8 | exact mem9) rfl ?_
                  refine op_assign (nxlf rfl) rfl rfl ?_
                  refine At.opsNil ?_
                  refine At.norm (hk_41 ?_)
                  refine At.ret (?_)
                  refine At.sub (L' := [R]) (.cons _ (.cons_cons _ (.slnil))) ?_
                  refine At.ret1 (L1 := []) rfl (.tmp rfl .nil) (.refl _) (.refl _) ?_
                  first
                    | exact ⟨by rw [nm_push (by omega) (by omega)]; rfl, rfl⟩
                    | exact ⟨by rw [nm_dup (by omega) (by omega)]; rfl, rfl⟩
                    | exact ⟨by rw [nm_swap (by omega) (by omega)]; rfl, rfl⟩
                    | exact ⟨by rw [nm_log (by omega) (by omega)]; rfl, rfl⟩
                    | exact ⟨by rw [nm_row (fun h => by have := of_decide_eq_true h.2; omega) hlo], rfl⟩
              · refine op_skip rfl rfl rfl rfl rfl rfl rfl ?_
                refine op_skip rfl rfl rfl rfl rfl rfl rfl ?_
                refine op_pickF (nxlf rfl) rfl rfl rfl ?_
                refine op_assign (nxlf rfl) rfl rfl ?_
                refine At.opsNil ?_
                refine At.norm (hk_39 ?_)
                refine At.condF rfl ?_
                refine At.skip ?_
                refine At.inNorm ?_
                refine At.norm (hk_4 ?_)
                refine At.seq fun K42 hk_42 => ?_
                refine At.region ?_
                have hlo : ¬ (95 < n ∧ n ≤ 164) := by omega
                have hir : inRow n = true := by rw [inRow, hi, decide_eq_false hlo]; rfl
                obtain ⟨hx1, hx2⟩ := in_rows n hn hir
                obtain ⟨hf1, hf2, hf3, hf4⟩ := row_fields hx2
                have hlen : (Lib.fields (rowT (16 * (n / 16) : Nat))).length ≤ 16 := by rw [hf1]; exact hf4
                refine op_move (nxlf rfl) rfl rfl ?_
                refine op_bits (by simp) (nxlf rfl) rfl rfl rfl ?_
                rw [hb.1]
                refine op_callA (nxla rfl) (.cons rfl .nil) (FNames_f (16 * (n / 16) : Nat)) Tryd.func41 rfl rfl (by simp) rfl ?_
                rintro v64 L64 ⟨rfl, rfl⟩
                change At _ _ _ [R] _
                refine op_callA (nxla rfl) (.cons rfl .nil) (FFields_f hN hf2 hf3 (by omega)) Tryd.func40 rfl rfl (by simp) rfl ?_
                rintro v65 L65 ⟨N65, a65, c65, rfl, rfl, s65⟩
                change At _ _ _ [N65, R] _
                rw [hf1] at s65 ⊢
                refine op_move (nxlf rfl) rfl rfl ?_
                refine op_bits (by simp) (nxlf rfl) rfl rfl rfl ?_
                rw [hb.2]
                refine op_idx1 (nxlf rfl) se31 rfl rfl s65 (show _ = (((n % 16 : Nat)) : Int) from by omega) (by omega) rfl ?_
                refine op_loadE (nxlf rfl) sc9 rfl s65 (by first | exact get8 (by omega) | exact get64 (by omega) | exact get32 (by omega) | exact strs_get hx1) (by first | exact mem0 | exact mem1 | exact mem2 | exact mem3 | exact mem4 | exact mem5 | exact mem6 | exact mem7 | exact mem8 | exact mem9) rfl ?_
                refine op_assign (nxlf rfl) rfl rfl ?_
                refine At.opsNil ?_
                refine At.norm (hk_42 ?_)
                refine At.ret (?_)
                refine At.sub (L' := [R]) (.cons _ (.cons_cons _ (.slnil))) ?_
                refine At.ret1 (L1 := []) rfl (.tmp rfl .nil) (.refl _) (.refl _) ?_
                first
                  | exact ⟨by rw [nm_push (by omega) (by omega)]; rfl, rfl⟩
                  | exact ⟨by rw [nm_dup (by omega) (by omega)]; rfl, rfl⟩
                  | exact ⟨by rw [nm_swap (by omega) (by omega)]; rfl, rfl⟩
                  | exact ⟨by rw [nm_log (by omega) (by omega)]; rfl, rfl⟩
                  | exact ⟨by rw [nm_row (fun h => by have := of_decide_eq_true h.2; omega) hlo], rfl⟩
        · refine op_skip rfl rfl rfl rfl rfl rfl rfl ?_
          refine op_skip rfl rfl rfl rfl rfl rfl rfl ?_
          refine op_pickF (nxlf rfl) rfl rfl rfl ?_
          refine op_assign (nxlf rfl) rfl rfl ?_
          refine At.opsNil ?_
          refine At.norm (hk_31 ?_)
          refine At.condF rfl ?_
          refine At.seq fun K43 hk_43 => ?_
          refine At.region ?_
          refine op_move (nxlf rfl) rfl rfl ?_
          refine op_geq (nxlf rfl) rfl rfl rfl ?_
          refine op_move (nxlf rfl) rfl rfl ?_
          refine At.partP (d := 42) rfl (fun g42 => ?_) (fun g42 => ?_)
          · refine op_move (nxgf rfl rfl rfl rfl) rfl rfl ?_
            refine op_lss (nxgf rfl rfl rfl rfl) rfl rfl rfl ?_
            refine op_pickT (nxlf rfl) rfl rfl rfl ?_
            refine op_assign (nxlf rfl) rfl rfl ?_
            refine At.opsNil ?_
            refine At.norm (hk_43 ?_)
            refine At.condP rfl (fun c39 => ?_) (fun c39 => ?_)
            · refine At.seq fun K44 hk_44 => ?_
              refine At.region ?_
              refine op_move (nxlf rfl) rfl rfl ?_
              refine op_subI (nxlf rfl) rfl rfl (by omega) (by omega) rfl ?_
              refine op_addI (nxlf rfl) rfl rfl (by omega) (by omega) rfl ?_
              rw [show (n : Int) - 144 + 1 = ((n - 143 : Nat) : Int) by omega]
              refine op_callA (nxla rfl) (.cons rfl .nil) (Itoa2_f (k := n - 143) (by omega)) Tryd.func32 rfl rfl (by simp) rfl ?_
              rintro v49 L49 ⟨rfl, rfl⟩
              change At _ _ _ [R] _
              have hd := dec2_le (n - 143)
              refine op_addS (a := [83, 87, 65, 80]) (nxlf rfl) rfl rfl (by simp; omega) rfl ?_
              refine op_assign (nxlf rfl) rfl rfl ?_
              refine At.opsNil ?_
              refine At.norm (hk_44 ?_)
              refine At.ret (At.inRet (At.thenRet (?_)))
              refine At.ret1 (L1 := []) rfl (.tmp rfl .nil) (.refl _) (.refl _) ?_
              first
                | exact ⟨by rw [nm_push (by omega) (by omega)]; rfl, rfl⟩
                | exact ⟨by rw [nm_dup (by omega) (by omega)]; rfl, rfl⟩
                | exact ⟨by rw [nm_swap (by omega) (by omega)]; rfl, rfl⟩
                | exact ⟨by rw [nm_log (by omega) (by omega)]; rfl, rfl⟩
                | exact ⟨by rw [nm_row (fun h => by have := of_decide_eq_true h.2; omega) hlo], rfl⟩
            · refine At.seq fun K45 hk_45 => ?_
              refine At.region ?_
              refine op_move (nxlf rfl) rfl rfl ?_
              refine op_geq (nxlf rfl) rfl rfl rfl ?_
              refine op_move (nxlf rfl) rfl rfl ?_
              refine At.partP (d := 54) rfl (fun g54 => ?_) (fun g54 => ?_)
              · refine op_move (nxgf rfl rfl rfl rfl) rfl rfl ?_
                refine op_leq (nxgf rfl rfl rfl rfl) rfl rfl rfl ?_
                refine op_pickT (nxlf rfl) rfl rfl rfl ?_
                refine op_assign (nxlf rfl) rfl rfl ?_
                refine At.opsNil ?_
                refine At.norm (hk_45 ?_)
                refine At.condP rfl (fun c51 => ?_) (fun c51 => ?_)
                · refine At.seq fun K46 hk_46 => ?_
                  refine At.region ?_
                  refine op_move (nxlf rfl) rfl rfl ?_
                  refine op_subI (nxlf rfl) rfl rfl (by omega) (by omega) rfl ?_
                  rw [show (n : Int) - 160 = ((n - 160 : Nat) : Int) by omega]
                  refine op_callA (nxla rfl) (.cons rfl .nil) (Itoa2_f (k := n - 160) (by omega)) Tryd.func32 rfl rfl (by simp) rfl ?_
                  rintro v60 L60 ⟨rfl, rfl⟩
                  change At _ _ _ [R] _
                  have hd := dec2_le (n - 160)
                  refine op_addS (a := [76, 79, 71]) (nxlf rfl) rfl rfl (by simp; omega) rfl ?_
                  refine op_assign (nxlf rfl) rfl rfl ?_
                  refine At.opsNil ?_
                  refine At.norm (hk_46 ?_)
                  refine At.ret (At.inRet (At.thenRet (?_)))
                  refine At.ret1 (L1 := []) rfl (.tmp rfl .nil) (.refl _) (.refl _) ?_
                  first
                    | exact ⟨by rw [nm_push (by omega) (by omega)]; rfl, rfl⟩
                    | exact ⟨by rw [nm_dup (by omega) (by omega)]; rfl, rfl⟩
                    | exact ⟨by rw [nm_swap (by omega) (by omega)]; rfl, rfl⟩
                    | exact ⟨by rw [nm_log (by omega) (by omega)]; rfl, rfl⟩
                    | exact ⟨by rw [nm_row (fun h => by have := of_decide_eq_true h.2; omega) hlo], rfl⟩
                · refine At.skip ?_
                  refine At.inNorm ?_
                  refine At.norm (hk_4 ?_)
                  refine At.seq fun K47 hk_47 => ?_
                  refine At.region ?_
                  have hlo : ¬ (95 < n ∧ n ≤ 164) := by omega
                  have hir : inRow n = true := by rw [inRow, hi, decide_eq_false hlo]; rfl
                  obtain ⟨hx1, hx2⟩ := in_rows n hn hir
                  obtain ⟨hf1, hf2, hf3, hf4⟩ := row_fields hx2
                  have hlen : (Lib.fields (rowT (16 * (n / 16) : Nat))).length ≤ 16 := by rw [hf1]; exact hf4
                  refine op_move (nxlf rfl) rfl rfl ?_
                  refine op_bits (by simp) (nxlf rfl) rfl rfl rfl ?_
                  rw [hb.1]
                  refine op_callA (nxla rfl) (.cons rfl .nil) (FNames_f (16 * (n / 16) : Nat)) Tryd.func41 rfl rfl (by simp) rfl ?_
                  rintro v64 L64 ⟨rfl, rfl⟩
                  change At _ _ _ [R] _
                  refine op_callA (nxla rfl) (.cons rfl .nil) (FFields_f hN hf2 hf3 (by omega)) Tryd.func40 rfl rfl (by simp) rfl ?_
                  rintro v65 L65 ⟨N65, a65, c65, rfl, rfl, s65⟩
                  change At _ _ _ [N65, R] _
                  rw [hf1] at s65 ⊢
                  refine op_move (nxlf rfl) rfl rfl ?_
                  refine op_bits (by simp) (nxlf rfl) rfl rfl rfl ?_
                  rw [hb.2]
                  refine op_idx1 (nxlf rfl) se31 rfl rfl s65 (show _ = (((n % 16 : Nat)) : Int) from by omega) (by omega) rfl ?_
                  refine op_loadE (nxlf rfl) sc9 rfl s65 (by first | exact get8 (by omega) | exact get64 (by omega) | exact get32 (by omega) | exact strs_get hx1) (by first | exact mem0 | exact mem1 | exact mem2 | exact mem3 | exact mem4 | exact mem5 | exact mem6 | exact mem7 | exact mem8 | exact mem9) rfl ?_
                  refine op_assign (nxlf rfl) rfl rfl ?_
                  refine At.opsNil ?_
                  refine At.norm (hk_47 ?_)
                  refine At.ret (?_)
                  refine At.sub (L' := [R]) (.cons _ (.cons_cons _ (.slnil))) ?_
                  refine At.ret1 (L1 := []) rfl (.tmp rfl .nil) (.refl _) (.refl _) ?_
                  first
                    | exact ⟨by rw [nm_push (by omega) (by omega)]; rfl, rfl⟩
                    | exact ⟨by rw [nm_dup (by omega) (by omega)]; rfl, rfl⟩
                    | exact ⟨by rw [nm_swap (by omega) (by omega)]; rfl, rfl⟩
                    | exact ⟨by rw [nm_log (by omega) (by omega)]; rfl, rfl⟩
                    | exact ⟨by rw [nm_row (fun h => by have := of_decide_eq_true h.2; omega) hlo], rfl⟩
              · refine op_skip rfl rfl rfl rfl rfl rfl rfl ?_
                refine op_skip rfl rfl rfl rfl rfl rfl rfl ?_
                refine op_pickF (nxlf rfl) rfl rfl rfl ?_
                refine op_assign (nxlf rfl) rfl rfl ?_
                refine At.opsNil ?_
                refine At.norm (hk_45 ?_)
                refine At.condF rfl ?_
                refine At.skip ?_
                refine At.inNorm ?_
                refine At.norm (hk_4 ?_)
                refine At.seq fun K48 hk_48 => ?_
                refine At.region ?_
                have hlo : ¬ (95 < n ∧ n ≤ 164) := by omega
                have hir : inRow n = true := by rw [inRow, hi, decide_eq_false hlo]; rfl
                obtain ⟨hx1, hx2⟩ := in_rows n hn hir
                obtain ⟨hf1, hf2, hf3, hf4⟩ := row_fields hx2
                have hlen : (Lib.fields (rowT (16 * (n / 16) : Nat))).length ≤ 16 := by rw [hf1]; exact hf4
                refine op_move (nxlf rfl) rfl rfl ?_
                refine op_bits (by simp) (nxlf rfl) rfl rfl rfl ?_
                rw [hb.1]
                refine op_callA (nxla rfl) (.cons rfl .nil) (FNames_f (16 * (n / 16) : Nat)) Tryd.func41 rfl rfl (by simp) rfl ?_
                rintro v64 L64 ⟨rfl, rfl⟩
                change At _ _ _ [R] _
                refine op_callA (nxla rfl) (.cons rfl .nil) (FFields_f hN hf2 hf3 (by omega)) Tryd.func40 rfl rfl (by simp) rfl ?_
                rintro v65 L65 ⟨N65, a65, c65, rfl, rfl, s65⟩
                change At _ _ _ [N65, R] _
                rw [hf1] at s65 ⊢
                refine op_move (nxlf rfl) rfl rfl ?_
                refine op_bits (by simp) (nxlf rfl) rfl rfl rfl ?_
                rw [hb.2]
                refine op_idx1 (nxlf rfl) se31 rfl rfl s65 (show _ = (((n % 16 : Nat)) : Int) from by omega) (by omega) rfl ?_
                refine op_loadE (nxlf rfl) sc9 rfl s65 (by first | exact get8 (by omega) | exact get64 (by omega) | exact get32 (by omega) | exact strs_get hx1) (by first | exact mem0 | exact mem1 | exact mem2 | exact mem3 | exact mem4 | exact mem5 | exact mem6 | exact mem7 | exact mem8 | exact mem9) rfl ?_
                refine op_assign (nxlf rfl) rfl rfl ?_
                refine At.opsNil ?_
                refine At.norm (hk_48 ?_)
                refine At.ret (?_)
                refine At.sub (L' := [R]) (.cons _ (.cons_cons _ (.slnil))) ?_
                refine At.ret1 (L1 := []) rfl (.tmp rfl .nil) (.refl _) (.refl _) ?_
                first
                  | exact ⟨by rw [nm_push (by omega) (by omega)]; rfl, rfl⟩
                  | exact ⟨by rw [nm_dup (by omega) (by omega)]; rfl, rfl⟩
                  | exact ⟨by rw [nm_swap (by omega) (by omega)]; rfl, rfl⟩
                  | exact ⟨by rw [nm_log (by omega) (by omega)]; rfl, rfl⟩
                  | exact ⟨by rw [nm_row (fun h => by have := of_decide_eq_true h.2; omega) hlo], rfl⟩
          · refine op_skip rfl rfl rfl rfl rfl rfl rfl ?_
            refine op_skip rfl rfl rfl rfl rfl rfl rfl ?_
            refine op_pickF (nxlf rfl) rfl rfl rfl ?_
            refine op_assign (nxlf rfl) rfl rfl ?_
            refine At.opsNil ?_
            refine At.norm (hk_43 ?_)
            refine At.condF rfl ?_
            refine At.seq fun K49 hk_49 => ?_
            refine At.region ?_
            refine op_move (nxlf rfl) rfl rfl ?_
            refine op_geq (nxlf rfl) rfl rfl rfl ?_
            refine op_move (nxlf rfl) rfl rfl ?_
            refine At.partP (d := 54) rfl (fun g54 => ?_) (fun g54 => ?_)
            · refine op_move (nxgf rfl rfl rfl rfl) rfl rfl ?_
              refine op_leq (nxgf rfl rfl rfl rfl) rfl rfl rfl ?_
              refine op_pickT (nxlf rfl) rfl rfl rfl ?_
              refine op_assign (nxlf rfl) rfl rfl ?_
              refine At.opsNil ?_
              refine At.norm (hk_49 ?_)
              refine At.condP rfl (fun c51 => ?_) (fun c51 => ?_)
              · refine At.seq fun K50 hk_50 => ?_
                refine At.region ?_
                refine op_move (nxlf rfl) rfl rfl ?_
                refine op_subI (nxlf rfl) rfl rfl (by omega) (by omega) rfl ?_
                rw [show (n : Int) - 160 = ((n - 160 : Nat) : Int) by omega]
                refine op_callA (nxla rfl) (.cons rfl .nil) (Itoa2_f (k := n - 160) (by omega)) Tryd.func32 rfl rfl (by simp) rfl ?_
                rintro v60 L60 ⟨rfl, rfl⟩
                change At _ _ _ [R] _
                have hd := dec2_le (n - 160)
                refine op_addS (a := [76, 79, 71]) (nxlf rfl) rfl rfl (by simp; omega) rfl ?_
                refine op_assign (nxlf rfl) rfl rfl ?_
                refine At.opsNil ?_
                refine At.norm (hk_50 ?_)
                refine At.ret (At.inRet (At.thenRet (?_)))
                refine At.ret1 (L1 := []) rfl (.tmp rfl .nil) (.refl _) (.refl _) ?_
                first
                  | exact ⟨by rw [nm_push (by omega) (by omega)]; rfl, rfl⟩
                  | exact ⟨by rw [nm_dup (by omega) (by omega)]; rfl, rfl⟩
                  | exact ⟨by rw [nm_swap (by omega) (by omega)]; rfl, rfl⟩
                  | exact ⟨by rw [nm_log (by omega) (by omega)]; rfl, rfl⟩
                  | exact ⟨by rw [nm_row (fun h => by have := of_decide_eq_true h.2; omega) hlo], rfl⟩
              · refine At.skip ?_
                refine At.inNorm ?_
                refine At.norm (hk_4 ?_)
                refine At.seq fun K51 hk_51 => ?_
                refine At.region ?_
                have hlo : ¬ (95 < n ∧ n ≤ 164) := by omega
                have hir : inRow n = true := by rw [inRow, hi, decide_eq_false hlo]; rfl
                obtain ⟨hx1, hx2⟩ := in_rows n hn hir
                obtain ⟨hf1, hf2, hf3, hf4⟩ := row_fields hx2
                have hlen : (Lib.fields (rowT (16 * (n / 16) : Nat))).length ≤ 16 := by rw [hf1]; exact hf4
                refine op_move (nxlf rfl) rfl rfl ?_
                refine op_bits (by simp) (nxlf rfl) rfl rfl rfl ?_
                rw [hb.1]
                refine op_callA (nxla rfl) (.cons rfl .nil) (FNames_f (16 * (n / 16) : Nat)) Tryd.func41 rfl rfl (by simp) rfl ?_
                rintro v64 L64 ⟨rfl, rfl⟩
                change At _ _ _ [R] _
                refine op_callA (nxla rfl) (.cons rfl .nil) (FFields_f hN hf2 hf3 (by omega)) Tryd.func40 rfl rfl (by simp) rfl ?_
                rintro v65 L65 ⟨N65, a65, c65, rfl, rfl, s65⟩
                change At _ _ _ [N65, R] _
                rw [hf1] at s65 ⊢
                refine op_move (nxlf rfl) rfl rfl ?_
                refine op_bits (by simp) (nxlf rfl) rfl rfl rfl ?_
                rw [hb.2]
                refine op_idx1 (nxlf rfl) se31 rfl rfl s65 (show _ = (((n % 16 : Nat)) : Int) from by omega) (by omega) rfl ?_
                refine op_loadE (nxlf rfl) sc9 rfl s65 (by first | exact get8 (by omega) | exact get64 (by omega) | exact get32 (by omega) | exact strs_get hx1) (by first | exact mem0 | exact mem1 | exact mem2 | exact mem3 | exact mem4 | exact mem5 | exact mem6 | exact mem7 | exact mem8 | exact mem9) rfl ?_
                refine op_assign (nxlf rfl) rfl rfl ?_
                refine At.opsNil ?_
                refine At.norm (hk_51 ?_)
                refine At.ret (?_)
                refine At.sub (L' := [R]) (.cons _ (.cons_cons _ (.slnil))) ?_
                refine At.ret1 (L1 := []) rfl (.tmp rfl .nil) (.refl _) (.refl _) ?_
                first
                  | exact ⟨by rw [nm_push (by omega) (by omega)]; rfl, rfl⟩
                  | exact ⟨by rw [nm_dup (by omega) (by omega)]; rfl, rfl⟩
                  | exact ⟨by rw [nm_swap (by omega) (by omega)]; rfl, rfl⟩
                  | exact ⟨by rw [nm_log (by omega) (by omega)]; rfl, rfl⟩
                  | exact ⟨by rw [nm_row (fun h => by have := of_decide_eq_true h.2; omega) hlo], rfl⟩
            · refine op_skip rfl rfl rfl rfl rfl rfl rfl ?_
              refine op_skip rfl rfl rfl rfl rfl rfl rfl ?_
              refine op_pickF (nxlf rfl) rfl rfl rfl ?_
              refine op_assign (nxlf rfl) rfl rfl ?_
              refine At.opsNil ?_
              refine At.norm (hk_49 ?_)
              refine At.condF rfl ?_
              refine At.skip ?_
              refine At.inNorm ?_
              refine At.norm (hk_4 ?_)
              refine At.seq fun K52 hk_52 => ?_
              refine At.region ?_
              have hlo : ¬ (95 < n ∧ n ≤ 164) := by omega
              have hir : inRow n = true := by rw [inRow, hi, decide_eq_false hlo]; rfl
              obtain ⟨hx1, hx2⟩ := in_rows n hn hir
              obtain ⟨hf1, hf2, hf3, hf4⟩ := row_fields hx2
              have hlen : (Lib.fields (rowT (16 * (n / 16) : Nat))).length ≤ 16 := by rw [hf1]; exact hf4
              refine op_move (nxlf rfl) rfl rfl ?_
              refine op_bits (by simp) (nxlf rfl) rfl rfl rfl ?_
              rw [hb.1]
              refine op_callA (nxla rfl) (.cons rfl .nil) (FNames_f (16 * (n / 16) : Nat)) Tryd.func41 rfl rfl (by simp) rfl ?_
              rintro v64 L64 ⟨rfl, rfl⟩
              change At _ _ _ [R] _
              refine op_callA (nxla rfl) (.cons rfl .nil) (FFields_f hN hf2 hf3 (by omega)) Tryd.func40 rfl rfl (by simp) rfl ?_
              rintro v65 L65 ⟨N65, a65, c65, rfl, rfl, s65⟩
              change At _ _ _ [N65, R] _
              rw [hf1] at s65 ⊢
              refine op_move (nxlf rfl) rfl rfl ?_
              refine op_bits (by simp) (nxlf rfl) rfl rfl rfl ?_
              rw [hb.2]
              refine op_idx1 (nxlf rfl) se31 rfl rfl s65 (show _ = (((n % 16 : Nat)) : Int) from by omega) (by omega) rfl ?_
              refine op_loadE (nxlf rfl) sc9 rfl s65 (by first | exact get8 (by omega) | exact get64 (by omega) | exact get32 (by omega) | exact strs_get hx1) (by first | exact mem0 | exact mem1 | exact mem2 | exact mem3 | exact mem4 | exact mem5 | exact mem6 | exact mem7 | exact mem8 | exact mem9) rfl ?_
              refine op_assign (nxlf rfl) rfl rfl ?_
              refine At.opsNil ?_
              refine At.norm (hk_52 ?_)
              refine At.ret (?_)
              refine At.sub (L' := [R]) (.cons _ (.cons_cons _ (.slnil))) ?_
              refine At.ret1 (L1 := []) rfl (.tmp rfl .nil) (.refl _) (.refl _) ?_
              first
                | exact ⟨by rw [nm_push (by omega) (by omega)]; rfl, rfl⟩
                | exact ⟨by rw [nm_dup (by omega) (by omega)]; rfl, rfl⟩
                | exact ⟨by rw [nm_swap (by omega) (by omega)]; rfl, rfl⟩
                | exact ⟨by rw [nm_log (by omega) (by omega)]; rfl, rfl⟩
                | exact ⟨by rw [nm_row (fun h => by have := of_decide_eq_true h.2; omega) hlo], rfl⟩
  · refine op_skip rfl rfl rfl rfl rfl rfl rfl ?_
    refine op_skip rfl rfl rfl rfl rfl rfl rfl ?_
    refine op_pickF (nxlf rfl) rfl rfl rfl ?_
    refine op_assign (nxlf rfl) rfl rfl ?_
    refine At.opsNil ?_
    refine At.norm (hk_5 ?_)
    refine At.condF rfl ?_
    refine At.seq fun K53 hk_53 => ?_
    refine At.region ?_
    refine op_move (nxlf rfl) rfl rfl ?_
    refine op_gtr (nxlf rfl) rfl rfl rfl ?_
    refine op_move (nxlf rfl) rfl rfl ?_
    refine At.partP (d := 19) rfl (fun g19 => ?_) (fun g19 => ?_)
    · refine op_move (nxgf rfl rfl rfl rfl) rfl rfl ?_
      refine op_leq (nxgf rfl rfl rfl rfl) rfl rfl rfl ?_
      refine op_pickT (nxlf rfl) rfl rfl rfl ?_
      refine op_assign (nxlf rfl) rfl rfl ?_
      refine At.opsNil ?_
      refine At.norm (hk_53 ?_)
      refine At.condP rfl (fun c16 => ?_) (fun c16 => ?_)
      · refine At.seq fun K54 hk_54 => ?_
        refine At.region ?_
        refine op_move (nxlf rfl) rfl rfl ?_
        refine op_subI (nxlf rfl) rfl rfl (by omega) (by omega) rfl ?_
        rw [show (n : Int) - 95 = ((n - 95 : Nat) : Int) by omega]
        refine op_callA (nxla rfl) (.cons rfl .nil) (Itoa2_f (k := n - 95) (by omega)) Tryd.func32 rfl rfl (by simp) rfl ?_
        rintro v25 L25 ⟨rfl, rfl⟩
        change At _ _ _ [R] _
        have hd := dec2_le (n - 95)
        refine op_addS (a := [80, 85, 83, 72]) (nxlf rfl) rfl rfl (by simp; omega) rfl ?_
        refine op_assign (nxlf rfl) rfl rfl ?_
        refine At.opsNil ?_
        refine At.norm (hk_54 ?_)
        refine At.ret (At.inRet (At.thenRet (?_)))
        refine At.ret1 (L1 := []) rfl (.tmp rfl .nil) (.refl _) (.refl _) ?_
        first
          | exact ⟨by rw [nm_push (by omega) (by omega)]; rfl, rfl⟩
          | exact ⟨by rw [nm_dup (by omega) (by omega)]; rfl, rfl⟩
          | exact ⟨by rw [nm_swap (by omega) (by omega)]; rfl, rfl⟩
          | exact ⟨by rw [nm_log (by omega) (by omega)]; rfl, rfl⟩
          | exact ⟨by rw [nm_row (fun h => by have := of_decide_eq_true h.2; omega) hlo], rfl⟩
      · refine At.seq fun K55 hk_55 => ?_
        refine At.region ?_
        refine op_move (nxlf rfl) rfl rfl ?_
        refine op_geq (nxlf rfl) rfl rfl rfl ?_
        refine op_move (nxlf rfl) rfl rfl ?_
        refine At.partP (d := 30) rfl (fun g30 => ?_) (fun g30 => ?_)
        · refine op_move (nxgf rfl rfl rfl rfl) rfl rfl ?_
          refine op_lss (nxgf rfl rfl rfl rfl) rfl rfl rfl ?_
          refine op_pickT (nxlf rfl) rfl rfl rfl ?_
          refine op_assign (nxlf rfl) rfl rfl ?_
          refine At.opsNil ?_
          refine At.norm (hk_55 ?_)
          refine At.condP rfl (fun c27 => ?_) (fun c27 => ?_)
          · refine At.seq fun K56 hk_56 => ?_
            refine At.region ?_
            refine op_move (nxlf rfl) rfl rfl ?_
            refine op_subI (nxlf rfl) rfl rfl (by omega) (by omega) rfl ?_
            refine op_addI (nxlf rfl) rfl rfl (by omega) (by omega) rfl ?_
            rw [show (n : Int) - 128 + 1 = ((n - 127 : Nat) : Int) by omega]
            refine op_callA (nxla rfl) (.cons rfl .nil) (Itoa2_f (k := n - 127) (by omega)) Tryd.func32 rfl rfl (by simp) rfl ?_
            rintro v37 L37 ⟨rfl, rfl⟩
            change At _ _ _ [R] _
            have hd := dec2_le (n - 127)
            refine op_addS (a := [68, 85, 80]) (nxlf rfl) rfl rfl (by simp; omega) rfl ?_
            refine op_assign (nxlf rfl) rfl rfl ?_
            refine At.opsNil ?_
            refine At.norm (hk_56 ?_)
            refine At.ret (At.inRet (At.thenRet (?_)))
            refine At.ret1 (L1 := []) rfl (.tmp rfl .nil) (.refl _) (.refl _) ?_
            first
              | exact ⟨by rw [nm_push (by omega) (by omega)]; rfl, rfl⟩
              | exact ⟨by rw [nm_dup (by omega) (by omega)]; rfl, rfl⟩
              | exact ⟨by rw [nm_swap (by omega) (by omega)]; rfl, rfl⟩
              | exact ⟨by rw [nm_log (by omega) (by omega)]; rfl, rfl⟩
              | exact ⟨by rw [nm_row (fun h => by have := of_decide_eq_true h.2; omega) hlo], rfl⟩
          · refine At.seq fun K57 hk_57 => ?_
            refine At.region ?_
            refine op_move (nxlf rfl) rfl rfl ?_
            refine op_geq (nxlf rfl) rfl rfl rfl ?_
            refine op_move (nxlf rfl) rfl rfl ?_
            refine At.partP (d := 42) rfl (fun g42 => ?_) (fun g42 => ?_)
            · refine op_move (nxgf rfl rfl rfl rfl) rfl rfl ?_
              refine op_lss (nxgf rfl rfl rfl rfl) rfl rfl rfl ?_
              refine op_pickT (nxlf rfl) rfl rfl rfl ?_
              refine op_assign (nxlf rfl) rfl rfl ?_
              refine At.opsNil ?_
              refine At.norm (hk_57 ?_)
              refine At.condP rfl (fun c39 => ?_) (fun c39 => ?_)
              · refine At.seq fun K58 hk_58 => ?_
                refine At.region ?_
                refine op_move (nxlf rfl) rfl rfl ?_
                refine op_subI (nxlf rfl) rfl rfl (by omega) (by omega) rfl ?_
                refine op_addI (nxlf rfl) rfl rfl (by omega) (by omega) rfl ?_
                rw [show (n : Int) - 144 + 1 = ((n - 143 : Nat) : Int) by omega]
                refine op_callA (nxla rfl) (.cons rfl .nil) (Itoa2_f (k := n - 143) (by omega)) Tryd.func32 rfl rfl (by simp) rfl ?_
                rintro v49 L49 ⟨rfl, rfl⟩
                change At _ _ _ [R] _
                have hd := dec2_le (n - 143)
                refine op_addS (a := [83, 87, 65, 80]) (nxlf rfl) rfl rfl (by simp; omega) rfl ?_
                refine op_assign (nxlf rfl) rfl rfl ?_
                refine At.opsNil ?_
                refine At.norm (hk_58 ?_)
                refine At.ret (At.inRet (At.thenRet (?_)))
                refine At.ret1 (L1 := []) rfl (.tmp rfl .nil) (.refl _) (.refl _) ?_
                first
                  | exact ⟨by rw [nm_push (by omega) (by omega)]; rfl, rfl⟩
                  | exact ⟨by rw [nm_dup (by omega) (by omega)]; rfl, rfl⟩
                  | exact ⟨by rw [nm_swap (by omega) (by omega)]; rfl, rfl⟩
                  | exact ⟨by rw [nm_log (by omega) (by omega)]; rfl, rfl⟩
                  | exact ⟨by rw [nm_row (fun h => by have := of_decide_eq_true h.2; omega) hlo], rfl⟩
              · refine At.seq fun K59 hk_59 => ?_
                refine At.region ?_
                refine op_move (nxlf rfl) rfl rfl ?_
                refine op_geq (nxlf rfl) rfl rfl rfl ?_
                refine op_move (nxlf rfl) rfl rfl ?_
                refine At.partP (d := 54) rfl (fun g54 => ?_) (fun g54 => ?_)
                · refine op_move (nxgf rfl rfl rfl rfl) rfl rfl ?_
                  refine op_leq (nxgf rfl rfl rfl rfl) rfl rfl rfl ?_
                  refine op_pickT (nxlf rfl) rfl rfl rfl ?_
                  refine op_assign (nxlf rfl) rfl rfl ?_
                  refine At.opsNil ?_
                  refine At.norm (hk_59 ?_)
                  refine At.condP rfl (fun c51 => ?_) (fun c51 => ?_)
                  · refine At.seq fun K60 hk_60 => ?_
                    refine At.region ?_
                    refine op_move (nxlf rfl) rfl rfl ?_
                    refine op_subI (nxlf rfl) rfl rfl (by omega) (by omega) rfl ?_
                    rw [show (n : Int) - 160 = ((n - 160 : Nat) : Int) by omega]
                    refine op_callA (nxla rfl) (.cons rfl .nil) (Itoa2_f (k := n - 160) (by omega)) Tryd.func32 rfl rfl (by simp) rfl ?_
                    rintro v60 L60 ⟨rfl, rfl⟩
                    change At _ _ _ [R] _
                    have hd := dec2_le (n - 160)
                    refine op_addS (a := [76, 79, 71]) (nxlf rfl) rfl rfl (by simp; omega) rfl ?_
                    refine op_assign (nxlf rfl) rfl rfl ?_
                    refine At.opsNil ?_
                    refine At.norm (hk_60 ?_)
                    refine At.ret (At.inRet (At.thenRet (?_)))
                    refine At.ret1 (L1 := []) rfl (.tmp rfl .nil) (.refl _) (.refl _) ?_
                    first
                      | exact ⟨by rw [nm_push (by omega) (by omega)]; rfl, rfl⟩
                      | exact ⟨by rw [nm_dup (by omega) (by omega)]; rfl, rfl⟩
                      | exact ⟨by rw [nm_swap (by omega) (by omega)]; rfl, rfl⟩
                      | exact ⟨by rw [nm_log (by omega) (by omega)]; rfl, rfl⟩
                      | exact ⟨by rw [nm_row (fun h => by have := of_decide_eq_true h.2; omega) hlo], rfl⟩
                  · refine At.skip ?_
                    refine At.inNorm ?_
                    refine At.norm (hk_4 ?_)
                    refine At.seq fun K61 hk_61 => ?_
                    refine At.region ?_
                    have hlo : ¬ (95 < n ∧ n ≤ 164) := by omega
                    have hir : inRow n = true := by rw [inRow, hi, decide_eq_false hlo]; rfl
                    obtain ⟨hx1, hx2⟩ := in_rows n hn hir
                    obtain ⟨hf1, hf2, hf3, hf4⟩ := row_fields hx2
                    have hlen : (Lib.fields (rowT (16 * (n / 16) : Nat))).length ≤ 16 := by rw [hf1]; exact hf4
                    refine op_move (nxlf rfl) rfl rfl ?_
                    refine op_bits (by simp) (nxlf rfl) rfl rfl rfl ?_
                    rw [hb.1]
                    refine op_callA (nxla rfl) (.cons rfl .nil) (FNames_f (16 * (n / 16) : Nat)) Tryd.func41 rfl rfl (by simp) rfl ?_
                    rintro v64 L64 ⟨rfl, rfl⟩
                    change At _ _ _ [R] _
                    refine op_callA (nxla rfl) (.cons rfl .nil) (FFields_f hN hf2 hf3 (by omega)) Tryd.func40 rfl rfl (by simp) rfl ?_
                    rintro v65 L65 ⟨N65, a65, c65, rfl, rfl, s65⟩
                    change At _ _ _ [N65, R] _
                    rw [hf1] at s65 ⊢
                    refine op_move (nxlf rfl) rfl rfl ?_
                    refine op_bits (by simp) (nxlf rfl) rfl rfl rfl ?_
                    rw [hb.2]
                    refine op_idx1 (nxlf rfl) se31 rfl rfl s65 (show _ = (((n % 16 : Nat)) : Int) from by omega) (by omega) rfl ?_
                    refine op_loadE (nxlf rfl) sc9 rfl s65 (by first | exact get8 (by omega) | exact get64 (by omega) | exact get32 (by omega) | exact strs_get hx1) (by first | exact mem0 | exact mem1 | exact mem2 | exact mem3 | exact mem4 | exact mem5 | exact mem6 | exact mem7 | exact mem8 | exact mem9) rfl ?_
                    refine op_assign (nxlf rfl) rfl rfl ?_
                    refine At.opsNil ?_
                    refine At.norm (hk_61 ?_)
                    refine At.ret (?_)
                    refine At.sub (L' := [R]) (.cons _ (.cons_cons _ (.slnil))) ?_
                    refine At.ret1 (L1 := []) rfl (.tmp rfl .nil) (.refl _) (.refl _) ?_
                    first
                      | exact ⟨by rw [nm_push (by omega) (by omega)]; rfl, rfl⟩
                      | exact ⟨by rw [nm_dup (by omega) (by omega)]; rfl, rfl⟩
                      | exact ⟨by rw [nm_swap (by omega) (by omega)]; rfl, rfl⟩
                      | exact ⟨by rw [nm_log (by omega) (by omega)]; rfl, rfl⟩
                      | exact ⟨by rw [nm_row (fun h => by have := of_decide_eq_true h.2; omega) hlo], rfl⟩
                · refine op_skip rfl rfl rfl rfl rfl rfl rfl ?_
                  refine op_skip rfl rfl rfl rfl rfl rfl rfl ?_
                  refine op_pickF (nxlf rfl) rfl rfl rfl ?_
                  refine op_assign (nxlf rfl) rfl rfl ?_
                  refine At.opsNil ?_
                  refine At.norm (hk_59 ?_)
                  refine At.condF rfl ?_
                  refine At.skip ?_
                  refine At.inNorm ?_
                  refine At.norm (hk_4 ?_)
                  refine At.seq fun K62 hk_62 => ?_
                  refine At.region ?_
                  have hlo : ¬ (95 < n ∧ n ≤ 164) := by omega
                  have hir : inRow n = true := by rw [inRow, hi, decide_eq_false hlo]; rfl
                  obtain ⟨hx1, hx2⟩ := in_rows n hn hir
                  obtain ⟨hf1, hf2, hf3, hf4⟩ := row_fields hx2
                  have hlen : (Lib.fields (rowT (16 * (n / 16) : Nat))).length ≤ 16 := by rw [hf1]; exact hf4
                  refine op_move (nxlf rfl) rfl rfl ?_
                  refine op_bits (by simp) (nxlf rfl) rfl rfl rfl ?_
                  rw [hb.1]
                  refine op_callA (nxla rfl) (.cons rfl .nil) (FNames_f (16 * (n / 16) : Nat)) Tryd.func41 rfl rfl (by simp) rfl ?_
                  rintro v64 L64 ⟨rfl, rfl⟩
                  change At _ _ _ [R] _
                  refine op_callA (nxla rfl) (.cons rfl .nil) (FFields_f hN hf2 hf3 (by omega)) Tryd.func40 rfl rfl (by simp) rfl ?_
                  rintro v65 L65 ⟨N65, a65, c65, rfl, rfl, s65⟩
                  change At _ _ _ [N65, R] _
                  rw [hf1] at s65 ⊢
                  refine op_move (nxlf rfl) rfl rfl ?_
                  refine op_bits (by simp) (nxlf rfl) rfl rfl rfl ?_
                  rw [hb.2]
                  refine op_idx1 (nxlf rfl) se31 rfl rfl s65 (show _ = (((n % 16 : Nat)) : Int) from by omega) (by omega) rfl ?_
                  refine op_loadE (nxlf rfl) sc9 rfl s65 (by first | exact get8 (by omega) | exact get64 (by omega) | exact get32 (by omega) | exact strs_get hx1) (by first | exact mem0 | exact mem1 | exact mem2 | exact mem3 | exact mem4 | exact mem5 | exact mem6 | exact mem7 | exact mem8 | exact mem9) rfl ?_
                  refine op_assign (nxlf rfl) rfl rfl ?_
                  refine At.opsNil ?_
                  refine At.norm (hk_62 ?_)
                  refine At.ret (?_)
                  refine At.sub (L' := [R]) (.cons _ (.cons_cons _ (.slnil))) ?_
                  refine At.ret1 (L1 := []) rfl (.tmp rfl .nil) (.refl _) (.refl _) ?_
                  first
                    | exact ⟨by rw [nm_push (by omega) (by omega)]; rfl, rfl⟩
                    | exact ⟨by rw [nm_dup (by omega) (by omega)]; rfl, rfl⟩
                    | exact ⟨by rw [nm_swap (by omega) (by omega)]; rfl, rfl⟩
                    | exact ⟨by rw [nm_log (by omega) (by omega)]; rfl, rfl⟩
                    | exact ⟨by rw [nm_row (fun h => by have := of_decide_eq_true h.2; omega) hlo], rfl⟩
            · refine op_skip rfl rfl rfl rfl rfl rfl rfl ?_
              refine op_skip rfl rfl rfl rfl rfl rfl rfl ?_
              refine op_pickF (nxlf rfl) rfl rfl rfl ?_
              refine op_assign (nxlf rfl) rfl rfl ?_
              refine At.opsNil ?_
              refine At.norm (hk_57 ?_)
              refine At.condF rfl ?_
              refine At.seq fun K63 hk_63 => ?_
              refine At.region ?_
              refine op_move (nxlf rfl) rfl rfl ?_
              refine op_geq (nxlf rfl) rfl rfl rfl ?_
              refine op_move (nxlf rfl) rfl rfl ?_
              refine At.partP (d := 54) rfl (fun g54 => ?_) (fun g54 => ?_)
              · refine op_move (nxgf rfl rfl rfl rfl) rfl rfl ?_
                refine op_leq (nxgf rfl rfl rfl rfl) rfl rfl rfl ?_
                refine op_pickT (nxlf rfl) rfl rfl rfl ?_
                refine op_assign (nxlf rfl) rfl rfl ?_
                refine At.opsNil ?_
                refine At.norm (hk_63 ?_)
                refine At.condP rfl (fun c51 => ?_) (fun c51 => ?_)
                · refine At.seq fun K64 hk_64 => ?_
                  refine At.region ?_
                  refine op_move (nxlf rfl) rfl rfl ?_
                  refine op_subI (nxlf rfl) rfl rfl (by omega) (by omega) rfl ?_
                  rw [show (n : Int) - 160 = ((n - 160 : Nat) : Int) by omega]
                  refine op_callA (nxla rfl) (.cons rfl .nil) (Itoa2_f (k := n - 160) (by omega)) Tryd.func32 rfl rfl (by simp) rfl ?_
                  rintro v60 L60 ⟨rfl, rfl⟩
                  change At _ _ _ [R] _
                  have hd := dec2_le (n - 160)
                  refine op_addS (a := [76, 79, 71]) (nxlf rfl) rfl rfl (by simp; omega) rfl ?_
                  refine op_assign (nxlf rfl) rfl rfl ?_
                  refine At.opsNil ?_
                  refine At.norm (hk_64 ?_)
                  refine At.ret (At.inRet (At.thenRet (?_)))
                  refine At.ret1 (L1 := []) rfl (.tmp rfl .nil) (.refl _) (.refl _) ?_
                  first
                    | exact ⟨by rw [nm_push (by omega) (by omega)]; rfl, rfl⟩
                    | exact ⟨by rw [nm_dup (by omega) (by omega)]; rfl, rfl⟩
                    | exact ⟨by rw [nm_swap (by omega) (by omega)]; rfl, rfl⟩
                    | exact ⟨by rw [nm_log (by omega) (by omega)]; rfl, rfl⟩
                    | exact ⟨by rw [nm_row (fun h => by have := of_decide_eq_true h.2; omega) hlo], rfl⟩
                · refine At.skip ?_
                  refine At.inNorm ?_
                  refine At.norm (hk_4 ?_)
                  refine At.seq fun K65 hk_65 => ?_
                  refine At.region ?_
                  have hlo : ¬ (95 < n ∧ n ≤ 164) := by omega
                  have hir : inRow n = true := by rw [inRow, hi, decide_eq_false hlo]; rfl
                  obtain ⟨hx1, hx2⟩ := in_rows n hn hir
                  obtain ⟨hf1, hf2, hf3, hf4⟩ := row_fields hx2
                  have hlen : (Lib.fields (rowT (16 * (n / 16) : Nat))).length ≤ 16 := by rw [hf1]; exact hf4
                  refine op_move (nxlf rfl) rfl rfl ?_
                  refine op_bits (by simp) (nxlf rfl) rfl rfl rfl ?_
                  rw [hb.1]
                  refine op_callA (nxla rfl) (.cons rfl .nil) (FNames_f (16 * (n / 16) : Nat)) Tryd.func41 rfl rfl (by simp) rfl ?_
                  rintro v64 L64 ⟨rfl, rfl⟩
                  change At _ _ _ [R] _
                  refine op_callA (nxla rfl) (.cons rfl .nil) (FFields_f hN hf2 hf3 (by omega)) Tryd.func40 rfl rfl (by simp) rfl ?_
                  rintro v65 L65 ⟨N65, a65, c65, rfl, rfl, s65⟩
                  change At _ _ _ [N65, R] _
                  rw [hf1] at s65 ⊢
                  refine op_move (nxlf rfl) rfl rfl ?_
                  refine op_bits (by simp) (nxlf rfl) rfl rfl rfl ?_
                  rw [hb.2]
                  refine op_idx1 (nxlf rfl) se31 rfl rfl s65 (show _ = (((n % 16 : Nat)) : Int) from by omega) (by omega) rfl ?_
                  refine op_loadE (nxlf rfl) sc9 rfl s65 (by first | exact get8 (by omega) | exact get64 (by omega) | exact get32 (by omega) | exact strs_get hx1) (by first | exact mem0 | exact mem1 | exact mem2 | exact mem3 | exact mem4 | exact mem5 | exact mem6 | exact mem7 | exact mem8 | exact mem9) rfl ?_
                  refine op_assign (nxlf rfl) rfl rfl ?_
                  refine At.opsNil ?_
                  refine At.norm (hk_65 ?_)
                  refine At.ret (?_)
                  refine At.sub (L' := [R]) (.cons _ (.cons_cons _ (.slnil))) ?_
                  refine At.ret1 (L1 := []) rfl (.tmp rfl .nil) (.refl _) (.refl _) ?_
                  first
                    | exact ⟨by rw [nm_push (by omega) (by omega)]; rfl, rfl⟩
                    | exact ⟨by rw [nm_dup (by omega) (by omega)]; rfl, rfl⟩
                    | exact ⟨by rw [nm_swap (by omega) (by omega)]; rfl, rfl⟩
                    | exact ⟨by rw [nm_log (by omega) (by omega)]; rfl, rfl⟩
                    | exact ⟨by rw [nm_row (fun h => by have := of_decide_eq_true h.2; omega) hlo], rfl⟩
              · refine op_skip rfl rfl rfl rfl rfl rfl rfl ?_
                refine op_skip rfl rfl rfl rfl rfl rfl rfl ?_
                refine op_pickF (nxlf rfl) rfl rfl rfl ?_
                refine op_assign (nxlf rfl) rfl rfl ?_
                refine At.opsNil ?_
                refine At.norm (hk_63 ?_)
                refine At.condF rfl ?_
                refine At.skip ?_
                refine At.inNorm ?_
                refine At.norm (hk_4 ?_)
                refine At.seq fun K66 hk_66 => ?_
                refine At.region ?_
                have hlo : ¬ (95 < n ∧ n ≤ 164) := by omega
                have hir : inRow n = true := by rw [inRow, hi, decide_eq_false hlo]; rfl
                obtain ⟨hx1, hx2⟩ := in_rows n hn hir
                obtain ⟨hf1, hf2, hf3, hf4⟩ := row_fields hx2
                have hlen : (Lib.fields (rowT (16 * (n / 16) : Nat))).length ≤ 16 := by rw [hf1]; exact hf4
                refine op_move (nxlf rfl) rfl rfl ?_
                refine op_bits (by simp) (nxlf rfl) rfl rfl rfl ?_
                rw [hb.1]
                refine op_callA (nxla rfl) (.cons rfl .nil) (FNames_f (16 * (n / 16) : Nat)) Tryd.func41 rfl rfl (by simp) rfl ?_
                rintro v64 L64 ⟨rfl, rfl⟩
                change At _ _ _ [R] _
                refine op_callA (nxla rfl) (.cons rfl .nil) (FFields_f hN hf2 hf3 (by omega)) Tryd.func40 rfl rfl (by simp) rfl ?_
                rintro v65 L65 ⟨N65, a65, c65, rfl, rfl, s65⟩
                change At _ _ _ [N65, R] _
                rw [hf1] at s65 ⊢
                refine op_move (nxlf rfl) rfl rfl ?_
                refine op_bits (by simp) (nxlf rfl) rfl rfl rfl ?_
                rw [hb.2]
                refine op_idx1 (nxlf rfl) se31 rfl rfl s65 (show _ = (((n % 16 : Nat)) : Int) from by omega) (by omega) rfl ?_
                refine op_loadE (nxlf rfl) sc9 rfl s65 (by first | exact get8 (by omega) | exact get64 (by omega) | exact get32 (by omega) | exact strs_get hx1) (by first | exact mem0 | exact mem1 | exact mem2 | exact mem3 | exact mem4 | exact mem5 | exact mem6 | exact mem7 | exact mem8 | exact mem9) rfl ?_
                refine op_assign (nxlf rfl) rfl rfl ?_
                refine At.opsNil ?_
                refine At.norm (hk_66 ?_)
                refine At.ret (?_)
                refine At.sub (L' := [R]) (.cons _ (.cons_cons _ (.slnil))) ?_
                refine At.ret1 (L1 := []) rfl (.tmp rfl .nil) (.refl _) (.refl _) ?_
                first
                  | exact ⟨by rw [nm_push (by omega) (by omega)]; rfl, rfl⟩
                  | exact ⟨by rw [nm_dup (by omega) (by omega)]; rfl, rfl⟩
                  | exact ⟨by rw [nm_swap (by omega) (by omega)]; rfl, rfl⟩
                  | exact ⟨by rw [nm_log (by omega) (by omega)]; rfl, rfl⟩
                  | exact ⟨by rw [nm_row (fun h => by have := of_decide_eq_true h.2; omega) hlo], rfl⟩
        · refine op_skip rfl rfl rfl rfl rfl rfl rfl ?_
          refine op_skip rfl rfl rfl rfl rfl rfl rfl ?_
          refine op_pickF (nxlf rfl) rfl rfl rfl ?_
          refine op_assign (nxlf rfl) rfl rfl ?_
          refine At.opsNil ?_
          refine At.norm (hk_55 ?_)
          refine At.condF rfl ?_
          refine At.seq fun K67 hk_67 => ?_
          refine At.region ?_
          refine op_move (nxlf rfl) rfl rfl ?_
          refine op_geq (nxlf rfl) rfl rfl rfl ?_
          refine op_move (nxlf rfl) rfl rfl ?_
          refine At.partP (d := 42) rfl (fun g42 => ?_) (fun g42 => ?_)
          · refine op_move (nxgf rfl rfl rfl rfl) rfl rfl ?_
            refine op_lss (nxgf rfl rfl rfl rfl) rfl rfl rfl ?_
            refine op_pickT (nxlf rfl) rfl rfl rfl ?_
            refine op_assign (nxlf rfl) rfl rfl ?_
            refine At.opsNil ?_
            refine At.norm (hk_67 ?_)
            refine At.condP rfl (fun c39 => ?_) (fun c39 => ?_)
            · refine At.seq fun K68 hk_68 => ?_
              refine At.region ?_
              refine op_move (nxlf rfl) rfl rfl ?_
              refine op_subI (nxlf rfl) rfl rfl (by omega) (by omega) rfl ?_
              refine op_addI (nxlf rfl) rfl rfl (by omega) (by omega) rfl ?_
              rw [show (n : Int) - 144 + 1 = ((n - 143 : Nat) : Int) by omega]
              refine op_callA (nxla rfl) (.cons rfl .nil) (Itoa2_f (k := n - 143) (by omega)) Tryd.func32 rfl rfl (by simp) rfl ?_
              rintro v49 L49 ⟨rfl, rfl⟩
              change At _ _ _ [R] _
              have hd := dec2_le (n - 143)
              refine op_addS (a := [83, 87, 65, 80]) (nxlf rfl) rfl rfl (by simp; omega) rfl ?_
              refine op_assign (nxlf rfl) rfl rfl ?_
              refine At.opsNil ?_
              refine At.norm (hk_68 ?_)
              refine At.ret (At.inRet (At.thenRet (?_)))
              refine At.ret1 (L1 := []) rfl (.tmp rfl .nil) (.refl _) (.refl _) ?_
              first
                | exact ⟨by rw [nm_push (by omega) (by omega)]; rfl, rfl⟩
                | exact ⟨by rw [nm_dup (by omega) (by omega)]; rfl, rfl⟩
                | exact ⟨by rw [nm_swap (by omega) (by omega)]; rfl, rfl⟩
                | exact ⟨by rw [nm_log (by omega) (by omega)]; rfl, rfl⟩
                | exact ⟨by rw [nm_row (fun h => by have := of_decide_eq_true h.2; omega) hlo], rfl⟩
            · refine At.seq fun K69 hk_69 => ?_
              refine At.region ?_
              refine op_move (nxlf rfl) rfl rfl ?_
              refine op_geq (nxlf rfl) rfl rfl rfl ?_
              refine op_move (nxlf rfl) rfl rfl ?_
              refine At.partP (d := 54) rfl (fun g54 => ?_) (fun g54 => ?_)
              · refine op_move (nxgf rfl rfl rfl rfl) rfl rfl ?_
                refine op_leq (nxgf rfl rfl rfl rfl) rfl rfl rfl ?_
                refine op_pickT (nxlf rfl) rfl rfl rfl ?_
                refine op_assign (nxlf rfl) rfl rfl ?_
                refine At.opsNil ?_
                refine At.norm (hk_69 ?_)
                refine At.condP rfl (fun c51 => ?_) (fun c51 => ?_)
                · refine At.seq fun K70 hk_70 => ?_
                  refine At.region ?_
                  refine op_move (nxlf rfl) rfl rfl ?_
                  refine op_subI (nxlf rfl) rfl rfl (by omega) (by omega) rfl ?_
                  rw [show (n : Int) - 160 = ((n - 160 : Nat) : Int) by omega]
                  refine op_callA (nxla rfl) (.cons rfl .nil) (Itoa2_f (k := n - 160) (by omega)) Tryd.func32 rfl rfl (by simp) rfl ?_
                  rintro v60 L60 ⟨rfl, rfl⟩
                  change At _ _ _ [R] _
                  have hd := dec2_le (n - 160)
                  refine op_addS (a := [76, 79, 71]) (nxlf rfl) rfl rfl (by simp; omega) rfl ?_
                  refine op_assign (nxlf rfl) rfl rfl ?_
                  refine At.opsNil ?_
                  refine At.norm (hk_70 ?_)
                  refine At.ret (At.inRet (At.thenRet (?_)))
                  refine At.ret1 (L1 := []) rfl (.tmp rfl .nil) (.refl _) (.refl _) ?_
                  first
                    | exact ⟨by rw [nm_push (by omega) (by omega)]; rfl, rfl⟩
                    | exact ⟨by rw [nm_dup (by omega) (by omega)]; rfl, rfl⟩
                    | exact ⟨by rw [nm_swap (by omega) (by omega)]; rfl, rfl⟩
                    | exact ⟨by rw [nm_log (by omega) (by omega)]; rfl, rfl⟩
                    | exact ⟨by rw [nm_row (fun h => by have := of_decide_eq_true h.2; omega) hlo], rfl⟩
                · refine At.skip ?_
                  refine At.inNorm ?_
                  refine At.norm (hk_4 ?_)
                  refine At.seq fun K71 hk_71 => ?_
                  refine At.region ?_
                  have hlo : ¬ (95 < n ∧ n ≤ 164) := by omega
                  have hir : inRow n = true := by rw [inRow, hi, decide_eq_false hlo]; rfl
                  obtain ⟨hx1, hx2⟩ := in_rows n hn hir
                  obtain ⟨hf1, hf2, hf3, hf4⟩ := row_fields hx2
                  have hlen : (Lib.fields (rowT (16 * (n / 16) : Nat))).length ≤ 16 := by rw [hf1]; exact hf4
                  refine op_move (nxlf rfl) rfl rfl ?_
                  refine op_bits (by simp) (nxlf rfl) rfl rfl rfl ?_
                  rw [hb.1]
                  refine op_callA (nxla rfl) (.cons rfl .nil) (FNames_f (16 * (n / 16) : Nat)) Tryd.func41 rfl rfl (by simp) rfl ?_
                  rintro v64 L64 ⟨rfl, rfl⟩
                  change At _ _ _ [R] _
                  refine op_callA (nxla rfl) (.cons rfl .nil) (FFields_f hN hf2 hf3 (by omega)) Tryd.func40 rfl rfl (by simp) rfl ?_
                  rintro v65 L65 ⟨N65, a65, c65, rfl, rfl, s65⟩
                  change At _ _ _ [N65, R] _
                  rw [hf1] at s65 ⊢
                  refine op_move (nxlf rfl) rfl rfl ?_
                  refine op_bits (by simp) (nxlf rfl) rfl rfl rfl ?_
                  rw [hb.2]
                  refine op_idx1 (nxlf rfl) se31 rfl rfl s65 (show _ = (((n % 16 : Nat)) : Int) from by omega) (by omega) rfl ?_
                  refine op_loadE (nxlf rfl) sc9 rfl s65 (by first | exact get8 (by omega) | exact get64 (by omega) | exact get32 (by omega) | exact strs_get hx1) (by first | exact mem0 | exact mem1 | exact mem2 | exact mem3 | exact mem4 | exact mem5 | exact mem6 | exact mem7 | exact mem8 | exact mem9) rfl ?_
                  refine op_assign (nxlf rfl) rfl rfl ?_
                  refine At.opsNil ?_
                  refine At.norm (hk_71 ?_)
                  refine At.ret (?_)
                  refine At.sub (L' := [R]) (.cons _ (.cons_cons _ (.slnil))) ?_
                  refine At.ret1 (L1 := []) rfl (.tmp rfl .nil) (.refl _) (.refl _) ?_
                  first
                    | exact ⟨by rw [nm_push (by omega) (by omega)]; rfl, rfl⟩
                    | exact ⟨by rw [nm_dup (by omega) (by omega)]; rfl, rfl⟩
                    | exact ⟨by rw [nm_swap (by omega) (by omega)]; rfl, rfl⟩
                    | exact ⟨by rw [nm_log (by omega) (by omega)]; rfl, rfl⟩
                    | exact ⟨by rw [nm_row (fun h => by have := of_decide_eq_true h.2; omega) hlo], rfl⟩
              · refine op_skip rfl rfl rfl rfl rfl rfl rfl ?_
                refine op_skip rfl rfl rfl rfl rfl rfl rfl ?_
                refine op_pickF (nxlf rfl) rfl rfl rfl ?_
                refine op_assign (nxlf rfl) rfl rfl ?_
                refine At.opsNil ?_
                refine At.norm (hk_69 ?_)
                refine At.condF rfl ?_
                refine At.skip ?_
                refine At.inNorm ?_
                refine At.norm (hk_4 ?_)
                refine At.seq fun K72 hk_72 => ?_
                refine At.region ?_
                have hlo : ¬ (95 < n ∧ n ≤ 164) := by omega
                have hir : inRow n = true := by rw [inRow, hi, decide_eq_false hlo]; rfl
                obtain ⟨hx1, hx2⟩ := in_rows n hn hir
                obtain ⟨hf1, hf2, hf3, hf4⟩ := row_fields hx2
                have hlen : (Lib.fields (rowT (16 * (n / 16) : Nat))).length ≤ 16 := by rw [hf1]; exact hf4
                refine op_move (nxlf rfl) rfl rfl ?_
                refine op_bits (by simp) (nxlf rfl) rfl rfl rfl ?_
                rw [hb.1]
                refine op_callA (nxla rfl) (.cons rfl .nil) (FNames_f (16 * (n / 16) : Nat)) Tryd.func41 rfl rfl (by simp) rfl ?_
                rintro v64 L64 ⟨rfl, rfl⟩
                change At _ _ _ [R] _
                refine op_callA (nxla rfl) (.cons rfl .nil) (FFields_f hN hf2 hf3 (by omega)) Tryd.func40 rfl rfl (by simp) rfl ?_
                rintro v65 L65 ⟨N65, a65, c65, rfl, rfl, s65⟩
                change At _ _ _ [N65, R] _
                rw [hf1] at s65 ⊢
                refine op_move (nxlf rfl) rfl rfl ?_
                refine op_bits (by simp) (nxlf rfl) rfl rfl rfl ?_
                rw [hb.2]
                refine op_idx1 (nxlf rfl) se31 rfl rfl s65 (show _ = (((n % 16 : Nat)) : Int) from by omega) (by omega) rfl ?_
                refine op_loadE (nxlf rfl) sc9 rfl s65 (by first | exact get8 (by omega) | exact get64 (by omega) | exact get32 (by omega) | exact strs_get hx1) (by first | exact mem0 | exact mem1 | exact mem2 | exact mem3 | exact mem4 | exact mem5 | exact mem6 | exact mem7 | exact mem8 | exact mem9) rfl ?_
                refine op_assign (nxlf rfl) rfl rfl ?_
                refine At.opsNil ?_
                refine At.norm (hk_72 ?_)
                refine At.ret (?_)
                refine At.sub (L' := [R]) (.cons _ (.cons_cons _ (.slnil))) ?_
                refine At.ret1 (L1 := []) rfl (.tmp rfl .nil) (.refl _) (.refl _) ?_
                first
                  | exact ⟨by rw [nm_push (by omega) (by omega)]; rfl, rfl⟩
                  | exact ⟨by rw [nm_dup (by omega) (by omega)]; rfl, rfl⟩
                  | exact ⟨by rw [nm_swap (by omega) (by omega)]; rfl, rfl⟩
                  | exact ⟨by rw [nm_log (by omega) (by omega)]; rfl, rfl⟩
                  | exact ⟨by rw [nm_row (fun h => by have := of_decide_eq_true h.2; omega) hlo], rfl⟩
          · refine op_skip rfl rfl rfl rfl rfl rfl rfl ?_
            refine op_skip rfl rfl rfl rfl rfl rfl rfl ?_
            refine op_pickF (nxlf rfl) rfl rfl rfl ?_
            refine op_assign (nxlf rfl) rfl rfl ?_
            refine At.opsNil ?_
            refine At.norm (hk_67 ?_)
            refine At.condF rfl ?_
            refine At.seq fun K73 hk_73 => ?_
            refine At.region ?_
            refine op_move (nxlf rfl) rfl rfl ?_
            refine op_geq (nxlf rfl) rfl rfl rfl ?_
            refine op_move (nxlf rfl) rfl rfl ?_
            refine At.partP (d := 54) rfl (fun g54 => ?_) (fun g54 => ?_)
            · refine op_move (nxgf rfl rfl rfl rfl) rfl rfl ?_
              refine op_leq (nxgf rfl rfl rfl rfl) rfl rfl rfl ?_
              refine op_pickT (nxlf rfl) rfl rfl rfl ?_
              refine op_assign (nxlf rfl) rfl rfl ?_
              refine At.opsNil ?_
              refine At.norm (hk_73 ?_)
              refine At.condP rfl (fun c51 => ?_) (fun c51 => ?_)
              · refine At.seq fun K74 hk_74 => ?_
                refine At.region ?_
                refine op_move (nxlf rfl) rfl rfl ?_
                refine op_subI (nxlf rfl) rfl rfl (by omega) (by omega) rfl ?_
                rw [show (n : Int) - 160 = ((n - 160 : Nat) : Int) by omega]
                refine op_callA (nxla rfl) (.cons rfl .nil) (Itoa2_f (k := n - 160) (by omega)) Tryd.func32 rfl rfl (by simp) rfl ?_
                rintro v60 L60 ⟨rfl, rfl⟩
                change At _ _ _ [R] _
                have hd := dec2_le (n - 160)
                refine op_addS (a := [76, 79, 71]) (nxlf rfl) rfl rfl (by simp; omega) rfl ?_
                refine op_assign (nxlf rfl) rfl rfl ?_
                refine At.opsNil ?_
                refine At.norm (hk_74 ?_)
                refine At.ret (At.inRet (At.thenRet (?_)))
                refine At.ret1 (L1 := []) rfl (.tmp rfl .nil) (.refl _) (.refl _) ?_
                first
                  | exact ⟨by rw [nm_push (by omega) (by omega)]; rfl, rfl⟩
                  | exact ⟨by rw [nm_dup (by omega) (by omega)]; rfl, rfl⟩
                  | exact ⟨by rw [nm_swap (by omega) (by omega)]; rfl, rfl⟩
                  | exact ⟨by rw [nm_log (by omega) (by omega)]; rfl, rfl⟩
                  | exact ⟨by rw [nm_row (fun h => by have := of_decide_eq_true h.2; omega) hlo], rfl⟩
              · refine At.skip ?_
                refine At.inNorm ?_
                refine At.norm (hk_4 ?_)
                refine At.seq fun K75 hk_75 => ?_
                refine At.region ?_
                have hlo : ¬ (95 < n ∧ n ≤ 164) := by omega
                have hir : inRow n = true := by rw [inRow, hi, decide_eq_false hlo]; rfl
                obtain ⟨hx1, hx2⟩ := in_rows n hn hir
                obtain ⟨hf1, hf2, hf3, hf4⟩ := row_fields hx2
                have hlen : (Lib.fields (rowT (16 * (n / 16) : Nat))).length ≤ 16 := by rw [hf1]; exact hf4
                refine op_move (nxlf rfl) rfl rfl ?_
                refine op_bits (by simp) (nxlf rfl) rfl rfl rfl ?_
                rw [hb.1]
                refine op_callA (nxla rfl) (.cons rfl .nil) (FNames_f (16 * (n / 16) : Nat)) Tryd.func41 rfl rfl (by simp) rfl ?_
                rintro v64 L64 ⟨rfl, rfl⟩
                change At _ _ _ [R] _
                refine op_callA (nxla rfl) (.cons rfl .nil) (FFields_f hN hf2 hf3 (by omega)) Tryd.func40 rfl rfl (by simp) rfl ?_
                rintro v65 L65 ⟨N65, a65, c65, rfl, rfl, s65⟩
                change At _ _ _ [N65, R] _
                rw [hf1] at s65 ⊢
                refine op_move (nxlf rfl) rfl rfl ?_
                refine op_bits (by simp) (nxlf rfl) rfl rfl rfl ?_
                rw [hb.2]
                refine op_idx1 (nxlf rfl) se31 rfl rfl s65 (show _ = (((n % 16 : Nat)) : Int) from by omega) (by omega) rfl ?_
                refine op_loadE (nxlf rfl) sc9 rfl s65 (by first | exact get8 (by omega) | exact get64 (by omega) | exact get32 (by omega) | exact strs_get hx1) (by first | exact mem0 | exact mem1 | exact mem2 | exact mem3 | exact mem4 | exact mem5 | exact mem6 | exact mem7 | exact mem8 | exact mem9) rfl ?_
                refine op_assign (nxlf rfl) rfl rfl ?_
                refine At.opsNil ?_
                refine At.norm (hk_75 ?_)
                refine At.ret (?_)
                refine At.sub (L' := [R]) (.cons _ (.cons_cons _ (.slnil))) ?_
                refine At.ret1 (L1 := []) rfl (.tmp rfl .nil) (.refl _) (.refl _) ?_
                first
                  | exact ⟨by rw [nm_push (by omega) (by omega)]; rfl, rfl⟩
                  | exact ⟨by rw [nm_dup (by omega) (by omega)]; rfl, rfl⟩
                  | exact ⟨by rw [nm_swap (by omega) (by omega)]; rfl, rfl⟩
                  | exact ⟨by rw [nm_log (by omega) (by omega)]; rfl, rfl⟩
                  | exact ⟨by rw [nm_row (fun h => by have := of_decide_eq_true h.2; omega) hlo], rfl⟩
            · refine op_skip rfl rfl rfl rfl rfl rfl rfl ?_
              refine op_skip rfl rfl rfl rfl rfl rfl rfl ?_
              refine op_pickF (nxlf rfl) rfl rfl rfl ?_
              refine op_assign (nxlf rfl) rfl rfl ?_
              refine At.opsNil ?_
              refine At.norm (hk_73 ?_)
              refine At.condF rfl ?_
              refine At.skip ?_
              refine At.inNorm ?_
              refine At.norm (hk_4 ?_)
              refine At.seq fun K76 hk_76 => ?_
              refine At.region ?_
              have hlo : ¬ (95 < n ∧ n ≤ 164) := by omega
              have hir : inRow n = true := by rw [inRow, hi, decide_eq_false hlo]; rfl
              obtain ⟨hx1, hx2⟩ := in_rows n hn hir
              obtain ⟨hf1, hf2, hf3, hf4⟩ := row_fields hx2
              have hlen : (Lib.fields (rowT (16 * (n / 16) : Nat))).length ≤ 16 := by rw [hf1]; exact hf4
              refine op_move (nxlf rfl) rfl rfl ?_
              refine op_bits (by simp) (nxlf rfl) rfl rfl rfl ?_
              rw [hb.1]
              refine op_callA (nxla rfl) (.cons rfl .nil) (FNames_f (16 * (n / 16) : Nat)) Tryd.func41 rfl rfl (by simp) rfl ?_
              rintro v64 L64 ⟨rfl, rfl⟩
              change At _ _ _ [R] _
              refine op_callA (nxla rfl) (.cons rfl .nil) (FFields_f hN hf2 hf3 (by omega)) Tryd.func40 rfl rfl (by simp) rfl ?_
              rintro v65 L65 ⟨N65, a65, c65, rfl, rfl, s65⟩
              change At _ _ _ [N65, R] _
              rw [hf1] at s65 ⊢
              refine op_move (nxlf rfl) rfl rfl ?_
              refine op_bits (by simp) (nxlf rfl) rfl rfl rfl ?_
              rw [hb.2]
              refine op_idx1 (nxlf rfl) se31 rfl rfl s65 (show _ = (((n % 16 : Nat)) : Int) from by omega) (by omega) rfl ?_
              refine op_loadE (nxlf rfl) sc9 rfl s65 (by first | exact get8 (by omega) | exact get64 (by omega) | exact get32 (by omega) | exact strs_get hx1) (by first | exact mem0 | exact mem1 | exact mem2 | exact mem3 | exact mem4 | exact mem5 | exact mem6 | exact mem7 | exact mem8 | exact mem9) rfl ?_
              refine op_assign (nxlf rfl) rfl rfl ?_
              refine At.opsNil ?_
              refine At.norm (hk_76 ?_)
              refine At.ret (?_)
              refine At.sub (L' := [R]) (.cons _ (.cons_cons _ (.slnil))) ?_
              refine At.ret1 (L1 := []) rfl (.tmp rfl .nil) (.refl _) (.refl _) ?_
              first
                | exact ⟨by rw [nm_push (by omega) (by omega)]; rfl, rfl⟩
                | exact ⟨by rw [nm_dup (by omega) (by omega)]; rfl, rfl⟩
                | exact ⟨by rw [nm_swap (by omega) (by omega)]; rfl, rfl⟩
                | exact ⟨by rw [nm_log (by omega) (by omega)]; rfl, rfl⟩
                | exact ⟨by rw [nm_row (fun h => by have := of_decide_eq_true h.2; omega) hlo], rfl⟩
    · refine op_skip rfl rfl rfl rfl rfl rfl rfl ?_
      refine op_skip rfl rfl rfl rfl rfl rfl rfl ?_
      refine op_pickF (nxlf rfl) rfl rfl rfl ?_
      refine op_assign (nxlf rfl) rfl rfl ?_
      refine At.opsNil ?_
      refine At.norm (hk_53 ?_)
      refine At.condF rfl ?_
      refine At.seq fun K77 hk_77 => ?_
      refine At.region ?_
      refine op_move (nxlf rfl) rfl rfl ?_
      refine op_geq (nxlf rfl) rfl rfl rfl ?_
      refine op_move (nxlf rfl) rfl rfl ?_
      refine At.partP (d := 30) rfl (fun g30 => ?_) (fun g30 => ?_)
      · refine op_move (nxgf rfl rfl rfl rfl) rfl rfl ?_
        refine op_lss (nxgf rfl rfl rfl rfl) rfl rfl rfl ?_
        refine op_pickT (nxlf rfl) rfl rfl rfl ?_
        refine op_assign (nxlf rfl) rfl rfl ?_
        refine At.opsNil ?_
        refine At.norm (hk_77 ?_)
        refine At.condP rfl (fun c27 => ?_) (fun c27 => ?_)
        · refine At.seq fun K78 hk_78 => ?_
          refine At.region ?_
          refine op_move (nxlf rfl) rfl rfl ?_
          refine op_subI (nxlf rfl) rfl rfl (by omega) (by omega) rfl ?_
          refine op_addI (nxlf rfl) rfl rfl (by omega) (by omega) rfl ?_
          rw [show (n : Int) - 128 + 1 = ((n - 127 : Nat) : Int) by omega]
          refine op_callA (nxla rfl) (.cons rfl .nil) (Itoa2_f (k := n - 127) (by omega)) Tryd.func32 rfl rfl (by simp) rfl ?_
          rintro v37 L37 ⟨rfl, rfl⟩
          change At _ _ _ [R] _
          have hd := dec2_le (n - 127)
          refine op_addS (a := [68, 85, 80]) (nxlf rfl) rfl rfl (by simp; omega) rfl ?_
          refine op_assign (nxlf rfl) rfl rfl ?_
          refine At.opsNil ?_
          refine At.norm (hk_78 ?_)
          refine At.ret (At.inRet (At.thenRet (?_)))
          refine At.ret1 (L1 := []) rfl (.tmp rfl .nil) (.refl _) (.refl _) ?_
          first
            | exact ⟨by rw [nm_push (by omega) (by omega)]; rfl, rfl⟩
            | exact ⟨by rw [nm_dup (by omega) (by omega)]; rfl, rfl⟩
            | exact ⟨by rw [nm_swap (by omega) (by omega)]; rfl, rfl⟩
            | exact ⟨by rw [nm_log (by omega) (by omega)]; rfl, rfl⟩
            | exact ⟨by rw [nm_row (fun h => by have := of_decide_eq_true h.2; omega) hlo], rfl⟩
        · refine At.seq fun K79 hk_79 => ?_
          refine At.region ?_
          refine op_move (nxlf rfl) rfl rfl ?_
          refine op_geq (nxlf rfl) rfl rfl rfl ?_
          refine op_move (nxlf rfl) rfl rfl ?_
          refine At.partP (d := 42) rfl (fun g42 => ?_) (fun g42 => ?_)
          · refine op_move (nxgf rfl rfl rfl rfl) rfl rfl ?_
            refine op_lss (nxgf rfl rfl rfl rfl) rfl rfl rfl ?_
            refine op_pickT (nxlf rfl) rfl rfl rfl ?_
            refine op_assign (nxlf rfl) rfl rfl ?_
            refine At.opsNil ?_
            refine At.norm (hk_79 ?_)
            refine At.condP rfl (fun c39 => ?_) (fun c39 => ?_)
            · refine At.seq fun K80 hk_80 => ?_
              refine At.region ?_
              refine op_move (nxlf rfl) rfl rfl ?_
              refine op_subI (nxlf rfl) rfl rfl (by omega) (by omega) rfl ?_
              refine op_addI (nxlf rfl) rfl rfl (by omega) (by omega) rfl ?_
              rw [show (n : Int) - 144 + 1 = ((n - 143 : Nat) : Int) by omega]
              refine op_callA (nxla rfl) (.cons rfl .nil) (Itoa2_f (k := n - 143) (by omega)) Tryd.func32 rfl rfl (by simp) rfl ?_
              rintro v49 L49 ⟨rfl, rfl⟩
              change At _ _ _ [R] _
              have hd := dec2_le (n - 143)
              refine op_addS (a := [83, 87, 65, 80]) (nxlf rfl) rfl rfl (by simp; omega) rfl ?_
              refine op_assign (nxlf rfl) rfl rfl ?_
              refine At.opsNil ?_
              refine At.norm (hk_80 ?_)
              refine At.ret (At.inRet (At.thenRet (?_)))
              refine At.ret1 (L1 := []) rfl (.tmp rfl .nil) (.refl _) (.refl _) ?_
              first
                | exact ⟨by rw [nm_push (by omega) (by omega)]; rfl, rfl⟩
                | exact ⟨by rw [nm_dup (by omega) (by omega)]; rfl, rfl⟩
                | exact ⟨by rw [nm_swap (by omega) (by omega)]; rfl, rfl⟩
                | exact ⟨by rw [nm_log (by omega) (by omega)]; rfl, rfl⟩
                | exact ⟨by rw [nm_row (fun h => by have := of_decide_eq_true h.2; omega) hlo], rfl⟩
            · refine At.seq fun K81 hk_81 => ?_
              refine At.region ?_
              refine op_move (nxlf rfl) rfl rfl ?_
              refine op_geq (nxlf rfl) rfl rfl rfl ?_
              refine op_move (nxlf rfl) rfl rfl ?_
              refine At.partP (d := 54) rfl (fun g54 => ?_) (fun g54 => ?_)
              · refine op_move (nxgf rfl rfl rfl rfl) rfl rfl ?_
                refine op_leq (nxgf rfl rfl rfl rfl) rfl rfl rfl ?_
                refine op_pickT (nxlf rfl) rfl rfl rfl ?_
                refine op_assign (nxlf rfl) rfl rfl ?_
                refine At.opsNil ?_
                refine At.norm (hk_81 ?_)
                refine At.condP rfl (fun c51 => ?_) (fun c51 => ?_)
                · refine At.seq fun K82 hk_82 => ?_
                  refine At.region ?_
                  refine op_move (nxlf rfl) rfl rfl ?_
                  refine op_subI (nxlf rfl) rfl rfl (by omega) (by omega) rfl ?_
                  rw [show (n : Int) - 160 = ((n - 160 : Nat) : Int) by omega]
                  refine op_callA (nxla rfl) (.cons rfl .nil) (Itoa2_f (k := n - 160) (by omega)) Tryd.func32 rfl rfl (by simp) rfl ?_
                  rintro v60 L60 ⟨rfl, rfl⟩
                  change At _ _ _ [R] _
                  have hd := dec2_le (n - 160)
                  refine op_addS (a := [76, 79, 71]) (nxlf rfl) rfl rfl (by simp; omega) rfl ?_
                  refine op_assign (nxlf rfl) rfl rfl ?_
                  refine At.opsNil ?_
                  refine At.norm (hk_82 ?_)
                  refine At.ret (At.inRet (At.thenRet (?_)))
                  refine At.ret1 (L1 := []) rfl (.tmp rfl .nil) (.refl _) (.refl _) ?_
                  first
                    | exact ⟨by rw [nm_push (by omega) (by omega)]; rfl, rfl⟩
                    | exact ⟨by rw [nm_dup (by omega) (by omega)]; rfl, rfl⟩
                    | exact ⟨by rw [nm_swap (by omega) (by omega)]; rfl, rfl⟩
                    | exact ⟨by rw [nm_log (by omega) (by omega)]; rfl, rfl⟩
                    | exact ⟨by rw [nm_row (fun h => by have := of_decide_eq_true h.2; omega) hlo], rfl⟩
                · refine At.skip ?_
                  refine At.inNorm ?_
                  refine At.norm (hk_4 ?_)
                  refine At.seq fun K83 hk_83 => ?_
                  refine At.region ?_
                  have hlo : ¬ (95 < n ∧ n ≤ 164) := by omega
                  have hir : inRow n = true := by rw [inRow, hi, decide_eq_false hlo]; rfl
                  obtain ⟨hx1, hx2⟩ := in_rows n hn hir
                  obtain ⟨hf1, hf2, hf3, hf4⟩ := row_fields hx2
                  have hlen : (Lib.fields (rowT (16 * (n / 16) : Nat))).length ≤ 16 := by rw [hf1]; exact hf4
                  refine op_move (nxlf rfl) rfl rfl ?_
                  refine op_bits (by simp) (nxlf rfl) rfl rfl rfl ?_
                  rw [hb.1]
                  refine op_callA (nxla rfl) (.cons rfl .nil) (FNames_f (16 * (n / 16) : Nat)) Tryd.func41 rfl rfl (by simp) rfl ?_
                  rintro v64 L64 ⟨rfl, rfl⟩
                  change At _ _ _ [R] _
                  refine op_callA (nxla rfl) (.cons rfl .nil) (FFields_f hN hf2 hf3 (by omega)) Tryd.func40 rfl rfl (by simp) rfl ?_
                  rintro v65 L65 ⟨N65, a65, c65, rfl, rfl, s65⟩
                  change At _ _ _ [N65, R] _
                  rw [hf1] at s65 ⊢
                  refine op_move (nxlf rfl) rfl rfl ?_
                  refine op_bits (by simp) (nxlf rfl) rfl rfl rfl ?_
                  rw [hb.2]
                  refine op_idx1 (nxlf rfl) se31 rfl rfl s65 (show _ = (((n % 16 : Nat)) : Int) from by omega) (by omega) rfl ?_
                  refine op_loadE (nxlf rfl) sc9 rfl s65 (by first | exact get8 (by omega) | exact get64 (by omega) | exact get32 (by omega) | exact strs_get hx1) (by first | exact mem0 | exact mem1 | exact mem2 | exact mem3 | exact mem4 | exact mem5 | exact mem6 | exact mem7 | exact mem8 | exact mem9) rfl ?_
                  refine op_assign (nxlf rfl) rfl rfl ?_
                  refine At.opsNil ?_
                  refine At.norm (hk_83 ?_)
                  refine At.ret (?_)
                  refine At.sub (L' := [R]) (.cons _ (.cons_cons _ (.slnil))) ?_
                  refine At.ret1 (L1 := []) rfl (.tmp rfl .nil) (.refl _) (.refl _) ?_
                  first
                    | exact ⟨by rw [nm_push (by omega) (by omega)]; rfl, rfl⟩
                    | exact ⟨by rw [nm_dup (by omega) (by omega)]; rfl, rfl⟩
                    | exact ⟨by rw [nm_swap (by omega) (by omega)]; rfl, rfl⟩
                    | exact ⟨by rw [nm_log (by omega) (by omega)]; rfl, rfl⟩
                    | exact ⟨by rw [nm_row (fun h => by have := of_decide_eq_true h.2; omega) hlo], rfl⟩
              · refine op_skip rfl rfl rfl rfl rfl rfl rfl ?_
                refine op_skip rfl rfl rfl rfl rfl rfl rfl ?_
                refine op_pickF (nxlf rfl) rfl rfl rfl ?_
                refine op_assign (nxlf rfl) rfl rfl ?_
                refine At.opsNil ?_
                refine At.norm (hk_81 ?_)
                refine At.condF rfl ?_
                refine At.skip ?_
                refine At.inNorm ?_
                refine At.norm (hk_4 ?_)
                refine At.seq fun K84 hk_84 => ?_
                refine At.region ?_
                have hlo : ¬ (95 < n ∧ n ≤ 164) := by omega
                have hir : inRow n = true := by rw [inRow, hi, decide_eq_false hlo]; rfl
                obtain ⟨hx1, hx2⟩ := in_rows n hn hir
                obtain ⟨hf1, hf2, hf3, hf4⟩ := row_fields hx2
                have hlen : (Lib.fields (rowT (16 * (n / 16) : Nat))).length ≤ 16 := by rw [hf1]; exact hf4
                refine op_move (nxlf rfl) rfl rfl ?_
                refine op_bits (by simp) (nxlf rfl) rfl rfl rfl ?_
                rw [hb.1]
                refine op_callA (nxla rfl) (.cons rfl .nil) (FNames_f (16 * (n / 16) : Nat)) Tryd.func41 rfl rfl (by simp) rfl ?_
                rintro v64 L64 ⟨rfl, rfl⟩
                change At _ _ _ [R] _
                refine op_callA (nxla rfl) (.cons rfl .nil) (FFields_f hN hf2 hf3 (by omega)) Tryd.func40 rfl rfl (by simp) rfl ?_
                rintro v65 L65 ⟨N65, a65, c65, rfl, rfl, s65⟩
                change At _ _ _ [N65, R] _
                rw [hf1] at s65 ⊢
                refine op_move (nxlf rfl) rfl rfl ?_
                refine op_bits (by simp) (nxlf rfl) rfl rfl rfl ?_
                rw [hb.2]
                refine op_idx1 (nxlf rfl) se31 rfl rfl s65 (show _ = (((n % 16 : Nat)) : Int) from by omega) (by omega) rfl ?_
                refine op_loadE (nxlf rfl) sc9 rfl s65 (by first | exact get8 (by omega) | exact get64 (by omega) | exact get32 (by omega) | exact strs_get hx1) (by first | exact mem0 | exact mem1 | exact mem2 | exact mem3 | exact mem4 | exact mem5 | exact mem6 | exact mem7 | exact mem8 | exact mem9) rfl ?_
                refine op_assign (nxlf rfl) rfl rfl ?_
                refine At.opsNil ?_
                refine At.norm (hk_84 ?_)
                refine At.ret (?_)
                refine At.sub (L' := [R]) (.cons _ (.cons_cons _ (.slnil))) ?_
                refine At.ret1 (L1 := []) rfl (.tmp rfl .nil) (.refl _) (.refl _) ?_
                first
                  | exact ⟨by rw [nm_push (by omega) (by omega)]; rfl, rfl⟩
                  | exact ⟨by rw [nm_dup (by omega) (by omega)]; rfl, rfl⟩
                  | exact ⟨by rw [nm_swap (by omega) (by omega)]; rfl, rfl⟩
                  | exact ⟨by rw [nm_log (by omega) (by omega)]; rfl, rfl⟩
                  | exact ⟨by rw [nm_row (fun h => by have := of_decide_eq_true h.2; omega) hlo], rfl⟩
          · refine op_skip rfl rfl rfl rfl rfl rfl rfl ?_
            refine op_skip rfl rfl rfl rfl rfl rfl rfl ?_
            refine op_pickF (nxlf rfl) rfl rfl rfl ?_
            refine op_assign (nxlf rfl) rfl rfl ?_
            refine At.opsNil ?_
            refine At.norm (hk_79 ?_)
            refine At.condF rfl ?_
            refine At.seq fun K85 hk_85 => ?_
            refine At.region ?_
            refine op_move (nxlf rfl) rfl rfl ?_
            refine op_geq (nxlf rfl) rfl rfl rfl ?_
            refine op_move (nxlf rfl) rfl rfl ?_
            refine At.partP (d := 54) rfl (fun g54 => ?_) (fun g54 => ?_)
            · refine op_move (nxgf rfl rfl rfl rfl) rfl rfl ?_
              refine op_leq (nxgf rfl rfl rfl rfl) rfl rfl rfl ?_
              refine op_pickT (nxlf rfl) rfl rfl rfl ?_
              refine op_assign (nxlf rfl) rfl rfl ?_
              refine At.opsNil ?_
              refine At.norm (hk_85 ?_)
              refine At.condP rfl (fun c51 => ?_) (fun c51 => ?_)
              · refine At.seq fun K86 hk_86 => ?_
                refine At.region ?_
                refine op_move (nxlf rfl) rfl rfl ?_
                refine op_subI (nxlf rfl) rfl rfl (by omega) (by omega) rfl ?_
                rw [show (n : Int) - 160 = ((n - 160 : Nat) : Int) by omega]
                refine op_callA (nxla rfl) (.cons rfl .nil) (Itoa2_f (k := n - 160) (by omega)) Tryd.func32 rfl rfl (by simp) rfl ?_
                rintro v60 L60 ⟨rfl, rfl⟩
                change At _ _ _ [R] _
                have hd := dec2_le (n - 160)
                refine op_addS (a := [76, 79, 71]) (nxlf rfl) rfl rfl (by simp; omega) rfl ?_
                refine op_assign (nxlf rfl) rfl rfl ?_
                refine At.opsNil ?_
                refine At.norm (hk_86 ?_)
                refine At.ret (At.inRet (At.thenRet (?_)))
                refine At.ret1 (L1 := []) rfl (.tmp rfl .nil) (.refl _) (.refl _) ?_
                first
                  | exact ⟨by rw [nm_push (by omega) (by omega)]; rfl, rfl⟩
                  | exact ⟨by rw [nm_dup (by omega) (by omega)]; rfl, rfl⟩
                  | exact ⟨by rw [nm_swap (by omega) (by omega)]; rfl, rfl⟩
                  | exact ⟨by rw [nm_log (by omega) (by omega)]; rfl, rfl⟩
                  | exact ⟨by rw [nm_row (fun h => by have := of_decide_eq_true h.2; omega) hlo], rfl⟩
              · refine At.skip ?_
                refine At.inNorm ?_
                refine At.norm (hk_4 ?_)
                refine At.seq fun K87 hk_87 => ?_
                refine At.region ?_
                have hlo : ¬ (95 < n ∧ n ≤ 164) := by omega
                have hir : inRow n = true := by rw [inRow, hi, decide_eq_false hlo]; rfl
                obtain ⟨hx1, hx2⟩ := in_rows n hn hir
                obtain ⟨hf1, hf2, hf3, hf4⟩ := row_fields hx2
                have hlen : (Lib.fields (rowT (16 * (n / 16) : Nat))).length ≤ 16 := by rw [hf1]; exact hf4
                refine op_move (nxlf rfl) rfl rfl ?_
                refine op_bits (by simp) (nxlf rfl) rfl rfl rfl ?_
                rw [hb.1]
                refine op_callA (nxla rfl) (.cons rfl .nil) (FNames_f (16 * (n / 16) : Nat)) Tryd.func41 rfl rfl (by simp) rfl ?_
                rintro v64 L64 ⟨rfl, rfl⟩
                change At _ _ _ [R] _
                refine op_callA (nxla rfl) (.cons rfl .nil) (FFields_f hN hf2 hf3 (by omega)) Tryd.func40 rfl rfl (by simp) rfl ?_
                rintro v65 L65 ⟨N65, a65, c65, rfl, rfl, s65⟩
                change At _ _ _ [N65, R] _
                rw [hf1] at s65 ⊢
                refine op_move (nxlf rfl) rfl rfl ?_
                refine op_bits (by simp) (nxlf rfl) rfl rfl rfl ?_
                rw [hb.2]
                refine op_idx1 (nxlf rfl) se31 rfl rfl s65 (show _ = (((n % 16 : Nat)) : Int) from by omega) (by omega) rfl ?_
                refine op_loadE (nxlf rfl) sc9 rfl s65 (by first | exact get8 (by omega) | exact get64 (by omega) | exact get32 (by omega) | exact strs_get hx1) (by first | exact mem0 | exact mem1 | exact mem2 | exact mem3 | exact mem4 | exact mem5 | exact mem6 | exact mem7 | exact mem8 | exact mem9) rfl ?_
                refine op_assign (nxlf rfl) rfl rfl ?_
                refine At.opsNil ?_
                refine At.norm (hk_87 ?_)
                refine At.ret (?_)
                refine At.sub (L' := [R]) (.cons _ (.cons_cons _ (.slnil))) ?_
                refine At.ret1 (L1 := []) rfl (.tmp rfl .nil) (.refl _) (.refl _) ?_
                first
                  | exact ⟨by rw [nm_push (by omega) (by omega)]; rfl, rfl⟩
                  | exact ⟨by rw [nm_dup (by omega) (by omega)]; rfl, rfl⟩
                  | exact ⟨by rw [nm_swap (by omega) (by omega)]; rfl, rfl⟩
                  | exact ⟨by rw [nm_log (by omega) (by omega)]; rfl, rfl⟩
                  | exact ⟨by rw [nm_row (fun h => by have := of_decide_eq_true h.2; omega) hlo], rfl⟩
            · refine op_skip rfl rfl rfl rfl rfl rfl rfl ?_
              refine op_skip rfl rfl rfl rfl rfl rfl rfl ?_
              refine op_pickF (nxlf rfl) rfl rfl rfl ?_
              refine op_assign (nxlf rfl) rfl rfl ?_
              refine At.opsNil ?_
              refine At.norm (hk_85 ?_)
              refine At.condF rfl ?_
              refine At.skip ?_
              refine At.inNorm ?_
              refine At.norm (hk_4 ?_)
              refine At.seq fun K88 hk_88 => ?_
              refine At.region ?_
              have hlo : ¬ (95 < n ∧ n ≤ 164) := by omega
              have hir : inRow n = true := by rw [inRow, hi, decide_eq_false hlo]; rfl
              obtain ⟨hx1, hx2⟩ := in_rows n hn hir
              obtain ⟨hf1, hf2, hf3, hf4⟩ := row_fields hx2
              have hlen : (Lib.fields (rowT (16 * (n / 16) : Nat))).length ≤ 16 := by rw [hf1]; exact hf4
              refine op_move (nxlf rfl) rfl rfl ?_
              refine op_bits (by simp) (nxlf rfl) rfl rfl rfl ?_
              rw [hb.1]
              refine op_callA (nxla rfl) (.cons rfl .nil) (FNames_f (16 * (n / 16) : Nat)) Tryd.func41 rfl rfl (by simp) rfl ?_
              rintro v64 L64 ⟨rfl, rfl⟩
              change At _ _ _ [R] _
              refine op_callA (nxla rfl) (.cons rfl .nil) (FFields_f hN hf2 hf3 (by omega)) Tryd.func40 rfl rfl (by simp) rfl ?_
              rintro v65 L65 ⟨N65, a65, c65, rfl, rfl, s65⟩
              change At _ _ _ [N65, R] _
              rw [hf1] at s65 ⊢
              refine op_move (nxlf rfl) rfl rfl ?_
              refine op_bits (by simp) (nxlf rfl) rfl rfl rfl ?_
              rw [hb.2]
              refine op_idx1 (nxlf rfl) se31 rfl rfl s65 (show _ = (((n % 16 : Nat)) : Int) from by omega) (by omega) rfl ?_
              refine op_loadE (nxlf rfl) sc9 rfl s65 (by first | exact get8 (by omega) | exact get64 (by omega) | exact get32 (by omega) | exact strs_get hx1) (by first | exact mem0 | exact mem1 | exact mem2 | exact mem3 | exact mem4 | exact mem5 | exact mem6 | exact mem7 | exact mem8 | exact mem9) rfl ?_
              refine op_assign (nxlf rfl) rfl rfl ?_
              refine At.opsNil ?_
              refine At.norm (hk_88 ?_)
              refine At.ret (?_)
              refine At.sub (L' := [R]) (.cons _ (.cons_cons _ (.slnil))) ?_
              refine At.ret1 (L1 := []) rfl (.tmp rfl .nil) (.refl _) (.refl _) ?_
              first
                | exact ⟨by rw [nm_push (by omega) (by omega)]; rfl, rfl⟩
                | exact ⟨by rw [nm_dup (by omega) (by omega)]; rfl, rfl⟩
                | exact ⟨by rw [nm_swap (by omega) (by omega)]; rfl, rfl⟩
                | exact ⟨by rw [nm_log (by omega) (by omega)]; rfl, rfl⟩
                | exact ⟨by rw [nm_row (fun h => by have := of_decide_eq_true h.2; omega) hlo], rfl⟩
      · refine op_skip rfl rfl rfl rfl rfl rfl rfl ?_
        refine op_skip rfl rfl rfl rfl rfl rfl rfl ?_
        refine op_pickF (nxlf rfl) rfl rfl rfl ?_
        refine op_assign (nxlf rfl) rfl rfl ?_
        refine At.opsNil ?_
        refine At.norm (hk_77 ?_)
        refine At.condF rfl ?_
        refine At.seq fun K89 hk_89 => ?_
        refine At.region ?_
        refine op_move (nxlf rfl) rfl rfl ?_
        refine op_geq (nxlf rfl) rfl rfl rfl ?_
        refine op_move (nxlf rfl) rfl rfl ?_
        refine At.partP (d := 42) rfl (fun g42 => ?_) (fun g42 => ?_)
        · refine op_move (nxgf rfl rfl rfl rfl) rfl rfl ?_
          refine op_lss (nxgf rfl rfl rfl rfl) rfl rfl rfl ?_
          refine op_pickT (nxlf rfl) rfl rfl rfl ?_
          refine op_assign (nxlf rfl) rfl rfl ?_
          refine At.opsNil ?_
          refine At.norm (hk_89 ?_)
          refine At.condP rfl (fun c39 => ?_) (fun c39 => ?_)
          · refine At.seq fun K90 hk_90 => ?_
            refine At.region ?_
            refine op_move (nxlf rfl) rfl rfl ?_
            refine op_subI (nxlf rfl) rfl rfl (by omega) (by omega) rfl ?_
            refine op_addI (nxlf rfl) rfl rfl (by omega) (by omega) rfl ?_
            rw [show (n : Int) - 144 + 1 = ((n - 143 : Nat) : Int) by omega]
            refine op_callA (nxla rfl) (.cons rfl .nil) (Itoa2_f (k := n - 143) (by omega)) Tryd.func32 rfl rfl (by simp) rfl ?_
            rintro v49 L49 ⟨rfl, rfl⟩
            change At _ _ _ [R] _
            have hd := dec2_le (n - 143)
            refine op_addS (a := [83, 87, 65, 80]) (nxlf rfl) rfl rfl (by simp; omega) rfl ?_
            refine op_assign (nxlf rfl) rfl rfl ?_
            refine At.opsNil ?_
            refine At.norm (hk_90 ?_)
            refine At.ret (At.inRet (At.thenRet (?_)))
            refine At.ret1 (L1 := []) rfl (.tmp rfl .nil) (.refl _) (.refl _) ?_
            first
              | exact ⟨by rw [nm_push (by omega) (by omega)]; rfl, rfl⟩
              | exact ⟨by rw [nm_dup (by omega) (by omega)]; rfl, rfl⟩
              | exact ⟨by rw [nm_swap (by omega) (by omega)]; rfl, rfl⟩
              | exact ⟨by rw [nm_log (by omega) (by omega)]; rfl, rfl⟩
              | exact ⟨by rw [nm_row (fun h => by have := of_decide_eq_true h.2; omega) hlo], rfl⟩
          · refine At.seq fun K91 hk_91 => ?_
            refine At.region ?_
            refine op_move (nxlf rfl) rfl rfl ?_
            refine op_geq (nxlf rfl) rfl rfl rfl ?_
            refine op_move (nxlf rfl) rfl rfl ?_
            refine At.partP (d := 54) rfl (fun g54 => ?_) (fun g54 => ?_)
            · refine op_move (nxgf rfl rfl rfl rfl) rfl rfl ?_
              refine op_leq (nxgf rfl rfl rfl rfl) rfl rfl rfl ?_
              refine op_pickT (nxlf rfl) rfl rfl rfl ?_
              refine op_assign (nxlf rfl) rfl rfl ?_
              refine At.opsNil ?_
              refine At.norm (hk_91 ?_)
              refine At.condP rfl (fun c51 => ?_) (fun c51 => ?_)
              · refine At.seq fun K92 hk_92 => ?_
                refine At.region ?_
                refine op_move (nxlf rfl) rfl rfl ?_
                refine op_subI (nxlf rfl) rfl rfl (by omega) (by omega) rfl ?_
                rw [show (n : Int) - 160 = ((n - 160 : Nat) : Int) by omega]
                refine op_callA (nxla rfl) (.cons rfl .nil) (Itoa2_f (k := n - 160) (by omega)) Tryd.func32 rfl rfl (by simp) rfl ?_
                rintro v60 L60 ⟨rfl, rfl⟩
                change At _ _ _ [R] _
                have hd := dec2_le (n - 160)
                refine op_addS (a := [76, 79, 71]) (nxlf rfl) rfl rfl (by simp; omega) rfl ?_
                refine op_assign (nxlf rfl) rfl rfl ?_
                refine At.opsNil ?_
                refine At.norm (hk_92 ?_)
                refine At.ret (At.inRet (At.thenRet (?_)))
                refine At.ret1 (L1 := []) rfl (.tmp rfl .nil) (.refl _) (.refl _) ?_
                first
                  | exact ⟨by rw [nm_push (by omega) (by omega)]; rfl, rfl⟩
                  | exact ⟨by rw [nm_dup (by omega) (by omega)]; rfl, rfl⟩
                  | exact ⟨by rw [nm_swap (by omega) (by omega)]; rfl, rfl⟩
                  | exact ⟨by rw [nm_log (by omega) (by omega)]; rfl, rfl⟩
                  | exact ⟨by rw [nm_row (fun h => by have := of_decide_eq_true h.2; omega) hlo], rfl⟩
              · refine At.skip ?_
                refine At.inNorm ?_
                refine At.norm (hk_4 ?_)
                refine At.seq fun K93 hk_93 => ?_
                refine At.region ?_
                have hlo : ¬ (95 < n ∧ n ≤ 164) := by omega
                have hir : inRow n = true := by rw [inRow, hi, decide_eq_false hlo]; rfl
                obtain ⟨hx1, hx2⟩ := in_rows n hn hir
                obtain ⟨hf1, hf2, hf3, hf4⟩ := row_fields hx2
                have hlen : (Lib.fields (rowT (16 * (n / 16) : Nat))).length ≤ 16 := by rw [hf1]; exact hf4
                refine op_move (nxlf rfl) rfl rfl ?_
                refine op_bits (by simp) (nxlf rfl) rfl rfl rfl ?_
                rw [hb.1]
                refine op_callA (nxla rfl) (.cons rfl .nil) (FNames_f (16 * (n / 16) : Nat)) Tryd.func41 rfl rfl (by simp) rfl ?_
                rintro v64 L64 ⟨rfl, rfl⟩
                change At _ _ _ [R] _
                refine op_callA (nxla rfl) (.cons rfl .nil) (FFields_f hN hf2 hf3 (by omega)) Tryd.func40 rfl rfl (by simp) rfl ?_
                rintro v65 L65 ⟨N65, a65, c65, rfl, rfl, s65⟩
                change At _ _ _ [N65, R] _
                rw [hf1] at s65 ⊢
                refine op_move (nxlf rfl) rfl rfl ?_
                refine op_bits (by simp) (nxlf rfl) rfl rfl rfl ?_
                rw [hb.2]
                refine op_idx1 (nxlf rfl) se31 rfl rfl s65 (show _ = (((n % 16 : Nat)) : Int) from by omega) (by omega) rfl ?_
                refine op_loadE (nxlf rfl) sc9 rfl s65 (by first | exact get8 (by omega) | exact get64 (by omega) | exact get32 (by omega) | exact strs_get hx1) (by first | exact mem0 | exact mem1 | exact mem2 | exact mem3 | exact mem4 | exact mem5 | exact mem6 | exact mem7 | exact mem8 | exact mem9) rfl ?_
                refine op_assign (nxlf rfl) rfl rfl ?_
                refine At.opsNil ?_
                refine At.norm (hk_93 ?_)
                refine At.ret (?_)
                refine At.sub (L' := [R]) (.cons _ (.cons_cons _ (.slnil))) ?_
                refine At.ret1 (L1 := []) rfl (.tmp rfl .nil) (.refl _) (.refl _) ?_
                first
                  | exact ⟨by rw [nm_push (by omega) (by omega)]; rfl, rfl⟩
                  | exact ⟨by rw [nm_dup (by omega) (by omega)]; rfl, rfl⟩
                  | exact ⟨by rw [nm_swap (by omega) (by omega)]; rfl, rfl⟩
                  | exact ⟨by rw [nm_log (by omega) (by omega)]; rfl, rfl⟩
                  | exact ⟨by rw [nm_row (fun h => by have := of_decide_eq_true h.2; omega) hlo], rfl⟩
            · refine op_skip rfl rfl rfl rfl rfl rfl rfl ?_
              refine op_skip rfl rfl rfl rfl rfl rfl rfl ?_
              refine op_pickF (nxlf rfl) rfl rfl rfl ?_
              refine op_assign (nxlf rfl) rfl rfl ?_
              refine At.opsNil ?_
              refine At.norm (hk_91 ?_)
              refine At.condF rfl ?_
              refine At.skip ?_
              refine At.inNorm ?_
              refine At.norm (hk_4 ?_)
              refine At.seq fun K94 hk_94 => ?_
              refine At.region ?_
              have hlo : ¬ (95 < n ∧ n ≤ 164) := by omega
              have hir : inRow n = true := by rw [inRow, hi, decide_eq_false hlo]; rfl
              obtain ⟨hx1, hx2⟩ := in_rows n hn hir
              obtain ⟨hf1, hf2, hf3, hf4⟩ := row_fields hx2
              have hlen : (Lib.fields (rowT (16 * (n / 16) : Nat))).length ≤ 16 := by rw [hf1]; exact hf4
              refine op_move (nxlf rfl) rfl rfl ?_
              refine op_bits (by simp) (nxlf rfl) rfl rfl rfl ?_
              rw [hb.1]
              refine op_callA (nxla rfl) (.cons rfl .nil) (FNames_f (16 * (n / 16) : Nat)) Tryd.func41 rfl rfl (by simp) rfl ?_
              rintro v64 L64 ⟨rfl, rfl⟩
              change At _ _ _ [R] _
              refine op_callA (nxla rfl) (.cons rfl .nil) (FFields_f hN hf2 hf3 (by omega)) Tryd.func40 rfl rfl (by simp) rfl ?_
              rintro v65 L65 ⟨N65, a65, c65, rfl, rfl, s65⟩
              change At _ _ _ [N65, R] _
              rw [hf1] at s65 ⊢
              refine op_move (nxlf rfl) rfl rfl ?_
              refine op_bits (by simp) (nxlf rfl) rfl rfl rfl ?_
              rw [hb.2]
              refine op_idx1 (nxlf rfl) se31 rfl rfl s65 (show _ = (((n % 16 : Nat)) : Int) from by omega) (by omega) rfl ?_
              refine op_loadE (nxlf rfl) sc9 rfl s65 (by first | exact get8 (by omega) | exact get64 (by omega) | exact get32 (by omega) | exact strs_get hx1) (by first | exact mem0 | exact mem1 | exact mem2 | exact mem3 | exact mem4 | exact mem5 | exact mem6 | exact mem7 | exact mem8 | exact mem9) rfl ?_
              refine op_assign (nxlf rfl) rfl rfl ?_
              refine At.opsNil ?_
              refine At.norm (hk_94 ?_)
              refine At.ret (?_)
              refine At.sub (L' := [R]) (.cons _ (.cons_cons _ (.slnil))) ?_
              refine At.ret1 (L1 := []) rfl (.tmp rfl .nil) (.refl _) (.refl _) ?_
              first
                | exact ⟨by rw [nm_push (by omega) (by omega)]; rfl, rfl⟩
                | exact ⟨by rw [nm_dup (by omega) (by omega)]; rfl, rfl⟩
                | exact ⟨by rw [nm_swap (by omega) (by omega)]; rfl, rfl⟩
                | exact ⟨by rw [nm_log (by omega) (by omega)]; rfl, rfl⟩
                | exact ⟨by rw [nm_row (fun h => by have := of_decide_eq_true h.2; omega) hlo], rfl⟩
        · refine op_skip rfl rfl rfl rfl rfl rfl rfl ?_
          refine op_skip rfl rfl rfl rfl rfl rfl rfl ?_
          refine op_pickF (nxlf rfl) rfl rfl rfl ?_
          refine op_assign (nxlf rfl) rfl rfl ?_
          refine At.opsNil ?_
          refine At.norm (hk_89 ?_)
          refine At.condF rfl ?_
          refine At.seq fun K95 hk_95 => ?_
          refine At.region ?_
          refine op_move (nxlf rfl) rfl rfl ?_
          refine op_geq (nxlf rfl) rfl rfl rfl ?_
          refine op_move (nxlf rfl) rfl rfl ?_
          refine At.partP (d := 54) rfl (fun g54 => ?_) (fun g54 => ?_)
          · refine op_move (nxgf rfl rfl rfl rfl) rfl rfl ?_
            refine op_leq (nxgf rfl rfl rfl rfl) rfl rfl rfl ?_
            refine op_pickT (nxlf rfl) rfl rfl rfl ?_
            refine op_assign (nxlf rfl) rfl rfl ?_
            refine At.opsNil ?_
            refine At.norm (hk_95 ?_)
            refine At.condP rfl (fun c51 => ?_) (fun c51 => ?_)
            · refine At.seq fun K96 hk_96 => ?_
              refine At.region ?_
              refine op_move (nxlf rfl) rfl rfl ?_
              refine op_subI (nxlf rfl) rfl rfl (by omega) (by omega) rfl ?_
              rw [show (n : Int) - 160 = ((n - 160 : Nat) : Int) by omega]
              refine op_callA (nxla rfl) (.cons rfl .nil) (Itoa2_f (k := n - 160) (by omega)) Tryd.func32 rfl rfl (by simp) rfl ?_
              rintro v60 L60 ⟨rfl, rfl⟩
              change At _ _ _ [R] _
              have hd := dec2_le (n - 160)
              refine op_addS (a := [76, 79, 71]) (nxlf rfl) rfl rfl (by simp; omega) rfl ?_
              refine op_assign (nxlf rfl) rfl rfl ?_
              refine At.opsNil ?_
              refine At.norm (hk_96 ?_)
              refine At.ret (At.inRet (At.thenRet (?_)))
              refine At.ret1 (L1 := []) rfl (.tmp rfl .nil) (.refl _) (.refl _) ?_
              first
                | exact ⟨by rw [nm_push (by omega) (by omega)]; rfl, rfl⟩
                | exact ⟨by rw [nm_dup (by omega) (by omega)]; rfl, rfl⟩
                | exact ⟨by rw [nm_swap (by omega) (by omega)]; rfl, rfl⟩
                | exact ⟨by rw [nm_log (by omega) (by omega)]; rfl, rfl⟩
                | exact ⟨by rw [nm_row (fun h => by have := of_decide_eq_true h.2; omega) hlo], rfl⟩
            · refine At.skip ?_
              refine At.inNorm ?_
              refine At.norm (hk_4 ?_)
              refine At.seq fun K97 hk_97 => ?_
              refine At.region ?_
              have hlo : ¬ (95 < n ∧ n ≤ 164) := by omega
              have hir : inRow n = true := by rw [inRow, hi, decide_eq_false hlo]; rfl
              obtain ⟨hx1, hx2⟩ := in_rows n hn hir
              obtain ⟨hf1, hf2, hf3, hf4⟩ := row_fields hx2
              have hlen : (Lib.fields (rowT (16 * (n / 16) : Nat))).length ≤ 16 := by rw [hf1]; exact hf4
              refine op_move (nxlf rfl) rfl rfl ?_
              refine op_bits (by simp) (nxlf rfl) rfl rfl rfl ?_
              rw [hb.1]
              refine op_callA (nxla rfl) (.cons rfl .nil) (FNames_f (16 * (n / 16) : Nat)) Tryd.func41 rfl rfl (by simp) rfl ?_
              rintro v64 L64 ⟨rfl, rfl⟩
              change At _ _ _ [R] _
              refine op_callA (nxla rfl) (.cons rfl .nil) (FFields_f hN hf2 hf3 (by omega)) Tryd.func40 rfl rfl (by simp) rfl ?_
              rintro v65 L65 ⟨N65, a65, c65, rfl, rfl, s65⟩
              change At _ _ _ [N65, R] _
              rw [hf1] at s65 ⊢
              refine op_move (nxlf rfl) rfl rfl ?_
              refine op_bits (by simp) (nxlf rfl) rfl rfl rfl ?_
              rw [hb.2]
              refine op_idx1 (nxlf rfl) se31 rfl rfl s65 (show _ = (((n % 16 : Nat)) : Int) from by omega) (by omega) rfl ?_
              refine op_loadE (nxlf rfl) sc9 rfl s65 (by first | exact get8 (by omega) | exact get64 (by omega) | exact get32 (by omega) | exact strs_get hx1) (by first | exact mem0 | exact mem1 | exact mem2 | exact mem3 | exact mem4 | exact mem5 | exact mem6 | exact mem7 | exact mem8 | exact mem9) rfl ?_
              refine op_assign (nxlf rfl) rfl rfl ?_
              refine At.opsNil ?_
              refine At.norm (hk_97 ?_)
              refine At.ret (?_)
              refine At.sub (L' := [R]) (.cons _ (.cons_cons _ (.slnil))) ?_
              refine At.ret1 (L1 := []) rfl (.tmp rfl .nil) (.refl _) (.refl _) ?_
              first
                | exact ⟨by rw [nm_push (by omega) (by omega)]; rfl, rfl⟩
                | exact ⟨by rw [nm_dup (by omega) (by omega)]; rfl, rfl⟩
                | exact ⟨by rw [nm_swap (by omega) (by omega)]; rfl, rfl⟩
                | exact ⟨by rw [nm_log (by omega) (by omega)]; rfl, rfl⟩
                | exact ⟨by rw [nm_row (fun h => by have := of_decide_eq_true h.2; omega) hlo], rfl⟩
          · refine op_skip rfl rfl rfl rfl rfl rfl rfl ?_
            refine op_skip rfl rfl rfl rfl rfl rfl rfl ?_
            refine op_pickF (nxlf rfl) rfl rfl rfl ?_
            refine op_assign (nxlf rfl) rfl rfl ?_
            refine At.opsNil ?_
            refine At.norm (hk_95 ?_)
            refine At.condF rfl ?_
            refine At.skip ?_
            refine At.inNorm ?_
            refine At.norm (hk_4 ?_)
            refine At.seq fun K98 hk_98 => ?_
            refine At.region ?_
            have hlo : ¬ (95 < n ∧ n ≤ 164) := by omega
            have hir : inRow n = true := by rw [inRow, hi, decide_eq_false hlo]; rfl
            obtain ⟨hx1, hx2⟩ := in_rows n hn hir
            obtain ⟨hf1, hf2, hf3, hf4⟩ := row_fields hx2
            have hlen : (Lib.fields (rowT (16 * (n / 16) : Nat))).length ≤ 16 := by rw [hf1]; exact hf4
            refine op_move (nxlf rfl) rfl rfl ?_
            refine op_bits (by simp) (nxlf rfl) rfl rfl rfl ?_
            rw [hb.1]
            refine op_callA (nxla rfl) (.cons rfl .nil) (FNames_f (16 * (n / 16) : Nat)) Tryd.func41 rfl rfl (by simp) rfl ?_
            rintro v64 L64 ⟨rfl, rfl⟩
            change At _ _ _ [R] _
            refine op_callA (nxla rfl) (.cons rfl .nil) (FFields_f hN hf2 hf3 (by omega)) Tryd.func40 rfl rfl (by simp) rfl ?_
            rintro v65 L65 ⟨N65, a65, c65, rfl, rfl, s65⟩
            change At _ _ _ [N65, R] _
            rw [hf1] at s65 ⊢
            refine op_move (nxlf rfl) rfl rfl ?_
            refine op_bits (by simp) (nxlf rfl) rfl rfl rfl ?_
            rw [hb.2]
            refine op_idx1 (nxlf rfl) se31 rfl rfl s65 (show _ = (((n % 16 : Nat)) : Int) from by omega) (by omega) rfl ?_
            refine op_loadE (nxlf rfl) sc9 rfl s65 (by first | exact get8 (by omega) | exact get64 (by omega) | exact get32 (by omega) | exact strs_get hx1) (by first | exact mem0 | exact mem1 | exact mem2 | exact mem3 | exact mem4 | exact mem5 | exact mem6 | exact mem7 | exact mem8 | exact mem9) rfl ?_
            refine op_assign (nxlf rfl) rfl rfl ?_
            refine At.opsNil ?_
            refine At.norm (hk_98 ?_)
            refine At.ret (?_)
            refine At.sub (L' := [R]) (.cons _ (.cons_cons _ (.slnil))) ?_
            refine At.ret1 (L1 := []) rfl (.tmp rfl .nil) (.refl _) (.refl _) ?_
            first
              | exact ⟨by rw [nm_push (by omega) (by omega)]; rfl, rfl⟩
              | exact ⟨by rw [nm_dup (by omega) (by omega)]; rfl, rfl⟩
              | exact ⟨by rw [nm_swap (by omega) (by omega)]; rfl, rfl⟩
              | exact ⟨by rw [nm_log (by omega) (by omega)]; rfl, rfl⟩
              | exact ⟨by rw [nm_row (fun h => by have := of_decide_eq_true h.2; omega) hlo], rfl⟩
/-- An operation's name. -/
theorem FName_f {N : Heaplet} (hN : TabH N) (f op : Int) : Fn Tryd.prog 21 #[.int .i64 f, .int .i64 op] [] [N] (fun v L => v = str (nameC f op) ∧ L = []) := by
  cases h : opM f op with
  | false => rw [nameC_no h]; exact (FName_no h).more fun N hN => absurd hN List.not_mem_nil
  | true =>
    obtain ⟨n, rfl, hn, hi⟩ := op_range h
    rw [nameC_y h]
    exact FName_y hN h hn hi
theorem jm0 : jumpsOf [91, 96, 91, 91] = [0, 3] := by decide +kernel
theorem nm1 : nameC 1 244 = [68, 69, 76, 69, 71, 65, 84, 69, 67, 65, 76, 76] := by decide +kernel
theorem nm0 : nameC 0 244 = [] := by decide +kernel
set_option maxRecDepth 100000 in
theorem Cwakes_f {N : Heaplet} (hN : TabH N) : Fn Tryd.prog 13 #[] [] [N] (fun v L => v = .bool true ∧ L = []) := by
  refine Fn.enter (vs := []) Tryd.func13 rfl rfl rfl ?_
  intro E R hR
  have hN := hN.le (hR N (by simp))
  change At _ _ E [R] _
  refine At.seq fun K1 hk_1 => ?_
  refine At.region ?_
  refine op_assign (nxlf rfl) rfl rfl ?_
  refine At.opsNil ?_
  refine At.norm (hk_1 ?_)
  refine At.seq fun K2 hk_2 => ?_
  refine At.region ?_
  refine op_lit (nxla rfl) Tryd.underlying22 ze5 sz5 (.cons rfl (.cons rfl (.cons rfl (.cons rfl .nil)))) rfl rfl (by simp [Value.cells]) rfl rfl rfl (fun N2 a2 r2 => ?_)
  simp only [flatV, List.flatMap_cons, List.flatMap_nil, Value.cells, List.append_nil, List.cons_append, List.nil_append] at r2
  have s2 := r2.rsl
  change Row N2 _ 1 a2 4 4 (u8s [91, 96, 91, 91]) at r2
  have s2 := r2.rsl
  refine op_callA (nxla rfl) (.cons rfl .nil) (FJumps_f s2 (by decide)) Tryd.func9 rfl rfl (by simp) rfl ?_
  rintro v3 L3 ⟨N3, a3, c3, rfl, rfl, r3⟩
  change At _ _ _ [N3, N2, R] _
  rw [jm0] at r3 ⊢
  change Row N3 _ 1 a3 2 c3 (ints [0, 3]) at r3
  have s3 := r3.rsl
  refine op_assign (nxlf rfl) rfl rfl ?_
  refine At.opsNil ?_
  refine At.norm (hk_2 ?_)
  refine At.seq fun K3 hk_3 => ?_
  refine At.region ?_
  refine op_callA (nxla rfl) (.cons rfl (.cons rfl .nil)) (FName_f hN 1 244) Tryd.func21 rfl rfl (by simp) rfl ?_
  rintro v4 L4 ⟨rfl, rfl⟩
  change At _ _ _ [N3, N2, R] _
  rw [nm1]
  refine op_eqS (b := [68, 69, 76, 69, 71, 65, 84, 69, 67, 65, 76, 76]) (nxlf rfl) rfl rfl rfl ?_
  refine op_move (nxlf rfl) rfl rfl ?_
  refine At.partP (d := 6) rfl (fun g6 => ?_) (fun g6 => ?_)
  · refine op_callA (nxga rfl rfl rfl rfl) (.cons rfl (.cons rfl .nil)) (FName_f hN 0 244) Tryd.func21 rfl rfl (by simp) rfl ?_
    rintro v7 L7 ⟨rfl, rfl⟩
    change At _ _ _ [N3, N2, R] _
    rw [nm0]
    refine op_eqS (b := []) (nxgf rfl rfl rfl rfl) rfl rfl rfl ?_
    refine op_pickT (nxlf rfl) rfl rfl rfl ?_
    refine op_move (nxlf rfl) rfl rfl ?_
    refine At.partP (d := 10) rfl (fun g10 => ?_) (fun g10 => ?_)
    · refine op_move (nxgf rfl rfl rfl rfl) rfl rfl ?_
      refine op_lenS (nxgf rfl rfl rfl rfl) se27 rfl rfl ?_
      refine op_eql (nxgf rfl rfl rfl rfl) rfl rfl rfl ?_
      refine op_pickT (nxlf rfl) rfl rfl rfl ?_
      refine op_move (nxlf rfl) rfl rfl ?_
      refine At.partP (d := 15) rfl (fun g15 => ?_) (fun g15 => ?_)
      · refine op_move (nxgf rfl rfl rfl rfl) rfl rfl ?_
        refine op_idx1 (nxgf rfl rfl rfl rfl) se27 rfl rfl s3 (show _ = (((0 : Nat)) : Int) from by omega) (by omega) rfl ?_
        refine op_loadE (nxgf rfl rfl rfl rfl) sc3 rfl s3 (by first | exact get8 (by omega) | exact get64 (by omega) | exact get32 (by omega) | exact ints_get (by decide)) (by first | exact mem0 | exact mem1 | exact mem2 | exact mem3 | exact mem4 | exact mem5 | exact mem6 | exact mem7 | exact mem8 | exact mem9) rfl ?_
        refine op_eql (nxgf rfl rfl rfl rfl) rfl rfl rfl ?_
        refine op_pickT (nxlf rfl) rfl rfl rfl ?_
        refine op_move (nxlf rfl) rfl rfl ?_
        refine At.partP (d := 21) rfl (fun g21 => ?_) (fun g21 => ?_)
        · refine op_move (nxgf rfl rfl rfl rfl) rfl rfl ?_
          refine op_idx1 (nxgf rfl rfl rfl rfl) se27 rfl rfl s3 (show _ = (((1 : Nat)) : Int) from by omega) (by omega) rfl ?_
          refine op_loadE (nxgf rfl rfl rfl rfl) sc3 rfl s3 (by first | exact get8 (by omega) | exact get64 (by omega) | exact get32 (by omega) | exact ints_get (by decide)) (by first | exact mem0 | exact mem1 | exact mem2 | exact mem3 | exact mem4 | exact mem5 | exact mem6 | exact mem7 | exact mem8 | exact mem9) rfl ?_
          refine op_eql (nxgf rfl rfl rfl rfl) rfl rfl rfl ?_
          refine op_pickT (nxlf rfl) rfl rfl rfl ?_
          refine op_assign (nxlf rfl) rfl rfl ?_
          refine At.opsNil ?_
          refine At.norm (hk_3 ?_)
          refine At.ret (?_)
          refine At.sub (L' := [R]) (.cons _ (.cons _ (.cons_cons _ (.slnil)))) ?_
          refine At.ret1 (L1 := []) rfl (.tmp rfl .nil) (.refl _) (.refl _) ?_
          exact ⟨rfl, rfl⟩
        · exact absurd rfl g21
      · exact absurd rfl g15
    · exact absurd rfl g10
  · exact absurd rfl g6
end Go.Proofs.YtdplcfineaikjaaDoor
