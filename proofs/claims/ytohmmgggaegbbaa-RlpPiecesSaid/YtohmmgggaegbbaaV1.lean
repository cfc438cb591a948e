/- quarrylaw05.RlpEncode answers true. No condition. -/
import Derived.Test.YtohmmgggaegbbaaW2
namespace Go.Proofs.Ytohmmgggaegbbaa
set_option linter.unusedVariables false
set_option linter.unusedSimpArgs false
open Go Go.RowKit
theorem sizeT_nest (n : Nat) (t : It) : sizeT (nestN n t) = 9 * n + sizeT t := by
  induction n with
  | zero => simp [nestN]
  | succ n ih => simp only [nestN, sizeT, sizesT, ih, List.length_nil]; omega
theorem RlpEncode_f {N : Heaplet} {t : It} {x : IV} (h : ItN N t x) (q : Int) (h1 : -9223372036854775808 ≤ q) (h2 : q ≤ 9223372036854775807) :
    Fn Try.prog 3 #[.agg #[.bool x.l, .slice x.ab x.nb x.cb, .slice x.ai x.ni x.ci], .int .i64 q] [] [N] (fun v L => v = .bool true ∧ L = []) := by
  refine Fn.enter (vs := [.agg #[.bool x.l, .slice x.ab x.nb x.cb, .slice x.ai x.ni x.ci], .int .i64 q]) Try.func3 rfl rfl rfl ?_
  intro E R hR
  have h := h.le (hR N (by simp))
  have ht1 := Int.tmod_lt_of_pos q (show (0 : Int) < 1100 by decide)
  have ht2 := Int.lt_tmod_of_pos q (show (0 : Int) < 1100 by decide)
  have hnil : RSl R 1 none 0 0 (u8s []) := RSl.nil R 1
  change At _ _ E [R] _
  refine At.seq fun K1 hk_1 => ?_
  refine At.region ?_
  refine op_box (nxla rfl) rfl rfl rfl (fun N2 b2 B2 => ?_)
  refine op_assign (nxlf rfl) rfl rfl ?_
  refine At.opsNil ?_
  refine At.norm (hk_1 ?_)
  refine At.seq fun K2 hk_2 => ?_
  refine At.region ?_
  refine op_move (nxlf rfl) rfl rfl ?_
  refine op_remT (nxlf rfl) rfl rfl (by omega) rfl ?_
  refine op_assign (nxlf rfl) rfl rfl ?_
  refine At.opsNil ?_
  refine At.norm (hk_2 ?_)
  refine At.seq fun K3 hk_3 => ?_
  refine At.meet (fun fr_ hp_ => ∃ (n : Nat), fr_ = [(2, .pointer (some ⟨b2, 0, none⟩)), (5, .int .i64 (n : Int))] ∧ hp_ = [N2, R] ∧ (n < 1100)) ?_ (fun K3_ jk_3 => ?_)
  rotate_left
  · skip
    refine At.seq fun K4 hk_4 => ?_
    refine At.region ?_
    refine op_move (nxlf rfl) rfl rfl ?_
    refine op_lss (nxlf rfl) rfl rfl rfl ?_
    refine At.opsNil ?_
    refine At.norm (hk_4 ?_)
    refine At.condP rfl (fun c14 => ?_) (fun c14 => ?_)
    · refine At.region ?_
      refine op_move (nxlf rfl) rfl rfl ?_
      refine op_negI (nxlf rfl) rfl (by omega) (by omega) rfl ?_
      refine op_assign (nxlf rfl) rfl rfl ?_
      refine At.opsNil ?_
      refine At.norm (jk_3 ?_ (.refl _) ⟨(0 - q.tmod 1100).toNat, rfl, rfl, by omega⟩)
      exact .cons (by first | exact lkI rfl (by omega) | rfl) (.cons (by first | exact lkI rfl (by omega) | rfl) .nil)
    · refine At.skip ?_
      refine At.norm (jk_3 ?_ (.refl _) ⟨(q.tmod 1100).toNat, rfl, rfl, by omega⟩)
      exact .cons (by first | exact lkI rfl (by omega) | rfl) (.cons (by first | exact lkI rfl (by omega) | rfl) .nil)
  rintro _ _ ⟨n, rfl, rfl, hn⟩
  refine hk_3 ?_
  refine At.seq fun K5 hk_5 => ?_
  refine At.region ?_
  refine op_loadAggB (ds := [_, _, _]) (nxlf rfl) ag25 rfl B2 rfl rfl mem0 rfl ?_
  refine op_callA (nxla rfl) (.cons rfl .nil) (cut_law_f h) Try.func12 rfl rfl (by simp) rfl ?_
  rintro v18 L18 ⟨M18, y, t', rfl, rfl, hy, hyd, hys⟩
  change At _ _ _ [M18, N2, R] _
  refine op_move (nxlf rfl) rfl rfl ?_
  refine op_call (nxl rfl) (.cons rfl (.cons rfl .nil)) (nested_f hy n (by omega)) (F := [N2, R]) Try.func11 rfl rfl (.refl _) (by simp) rfl ?_
  rintro v20 L20 ⟨M20, z, rfl, rfl, hz⟩
  change At _ _ _ [M20, N2, R] _
  have hsz := sizeT_nest n t'
  have hlen : (nestN n t').form.length ≤ 1099511627776 := Nat.le_trans (form_size _ (by omega)) (by omega)
  refine op_alloc (nxla rfl) ze25 rfl (fun N6 b6 B6 => ?_)
  change Blk N6 b6 _ [.bool false, .slice none 0 0, .slice none 0 0] at B6
  refine op_store (nxl rfl) sz25 rfl rfl rfl rfl rfl B6 (by simp) sel0 (fun N6 B6 => ?_)
  simp only [setL, List.set] at B6
  refine At.opsNil ?_
  refine At.norm (hk_5 ?_)
  refine At.seq fun K6 hk_6 => ?_
  refine At.region ?_
  refine op_loadAggB (ds := [_, _, _]) (nxlf rfl) ag25 rfl B6 rfl rfl mem0 rfl ?_
  refine op_callA (nxla rfl) (.cons rfl .nil) (Encode_f hz hlen) Try.func13 rfl rfl (by simp) rfl ?_
  rintro v23 L23 (⟨M23, a23, p23, rfl, rfl, r23, hd23⟩ | ⟨rfl, rfl, hd23⟩)
  · change At _ _ _ [M23, N6, M20, N2, R] _
    have s23 := r23.rsl
    refine op_move (nxlf rfl) rfl rfl ?_
    refine op_extract (nxlf rfl) rfl rfl rfl ?_
    refine op_extract (nxlf rfl) rfl rfl rfl ?_
    refine op_assign (nxlf rfl) rfl rfl ?_
    refine op_assign (nxlf rfl) rfl rfl ?_
    refine At.opsNil ?_
    refine At.norm (hk_6 ?_)
    refine At.seq fun K7 hk_7 => ?_
    refine At.region ?_
    refine op_loadAggB (ds := [_, _, _]) (nxlf rfl) ag25 rfl B6 rfl rfl mem1 rfl ?_
    refine op_callA (nxla rfl) (.cons rfl .nil) (rEncode_f hz hlen) Try.func14 rfl rfl (by simp) rfl ?_
    rintro v28 L28 (⟨M28, a28, p28, rfl, rfl, r28, hd28⟩ | ⟨rfl, rfl, hd28⟩)
    · change At _ _ _ [M28, M23, N6, M20, N2, R] _
      have s28 := r28.rsl
      refine op_move (nxlf rfl) rfl rfl ?_
      refine op_extract (nxlf rfl) rfl rfl rfl ?_
      refine op_extract (nxlf rfl) rfl rfl rfl ?_
      refine op_assign (nxlf rfl) rfl rfl ?_
      refine op_assign (nxlf rfl) rfl rfl ?_
      refine At.opsNil ?_
      refine At.norm (hk_7 ?_)
      refine At.seq fun K8 hk_8 => ?_
      refine At.region ?_
      refine op_move (nxlf rfl) rfl rfl ?_
      refine op_move (nxlf rfl) rfl rfl ?_
      refine op_eql (nxlf rfl) rfl rfl rfl ?_
      refine op_move (nxlf rfl) rfl rfl ?_
      refine op_move (nxgf rfl rfl rfl rfl) rfl rfl ?_
      refine op_str (nxgf rfl rfl rfl rfl) Try.underlying22 Try.underlying5 Try.underlying9 rfl (by assumption) (by first | exact mem0 | exact mem1 | exact mem2 | exact mem3 | exact mem4 | exact mem5 | exact mem6 | exact mem7 | exact mem8 | exact mem9) rfl ?_
      refine op_move (nxgf rfl rfl rfl rfl) rfl rfl ?_
      refine op_str (nxgf rfl rfl rfl rfl) Try.underlying22 Try.underlying5 Try.underlying9 rfl (by assumption) (by first | exact mem0 | exact mem1 | exact mem2 | exact mem3 | exact mem4 | exact mem5 | exact mem6 | exact mem7 | exact mem8 | exact mem9) rfl ?_
      refine op_eqS (nxgf rfl rfl rfl rfl) rfl rfl rfl ?_
      refine op_pickT (nxlf rfl) rfl rfl rfl ?_
      refine op_move (nxlf rfl) rfl rfl ?_
      refine At.partP (d := 41) rfl (fun g41 => ?_) (fun g41 => ?_)
      · refine op_callA (nxga rfl rfl rfl rfl) .nil (wakes_f) Try.func15 rfl rfl (by simp) rfl ?_
        rintro v42 L42 ⟨rfl, rfl⟩
        change At _ _ _ [M28, M23, N6, M20, N2, R] _
        refine op_pickT (nxlf rfl) rfl rfl rfl ?_
        refine op_assign (nxlf rfl) rfl rfl ?_
        refine At.opsNil ?_
        refine At.norm (hk_8 ?_)
        refine At.ret (?_)
        refine At.sub (L' := [R]) (.cons _ (.cons _ (.cons _ (.cons _ (.cons _ (.cons_cons _ (.slnil))))))) ?_
        refine At.ret1 (L1 := []) rfl (.tmp rfl .nil) (.refl _) (.refl _) ?_
        exact ⟨rfl, rfl⟩
      · exact absurd rfl g41
    · exact absurd hd23 hd28
  · change At _ _ _ [N6, M20, N2, R] _
    refine op_move (nxlf rfl) rfl rfl ?_
    refine op_extract (nxlf rfl) rfl rfl rfl ?_
    refine op_extract (nxlf rfl) rfl rfl rfl ?_
    refine op_assign (nxlf rfl) rfl rfl ?_
    refine op_assign (nxlf rfl) rfl rfl ?_
    refine At.opsNil ?_
    refine At.norm (hk_6 ?_)
    refine At.seq fun K9 hk_9 => ?_
    refine At.region ?_
    refine op_loadAggB (ds := [_, _, _]) (nxlf rfl) ag25 rfl B6 rfl rfl mem0 rfl ?_
    refine op_callA (nxla rfl) (.cons rfl .nil) (rEncode_f hz hlen) Try.func14 rfl rfl (by simp) rfl ?_
    rintro v28 L28 (⟨M28, a28, p28, rfl, rfl, r28, hd28⟩ | ⟨rfl, rfl, hd28⟩)
    · exact absurd hd28 hd23
    · change At _ _ _ [N6, M20, N2, R] _
      refine op_move (nxlf rfl) rfl rfl ?_
      refine op_extract (nxlf rfl) rfl rfl rfl ?_
      refine op_extract (nxlf rfl) rfl rfl rfl ?_
      refine op_assign (nxlf rfl) rfl rfl ?_
      refine op_assign (nxlf rfl) rfl rfl ?_
      refine At.opsNil ?_
      refine At.norm (hk_9 ?_)
      refine At.seq fun K10 hk_10 => ?_
      refine At.region ?_
      refine op_move (nxlf rfl) rfl rfl ?_
      refine op_move (nxlf rfl) rfl rfl ?_
      refine op_eql (nxlf rfl) rfl rfl rfl ?_
      refine op_move (nxlf rfl) rfl rfl ?_
      refine op_move (nxgf rfl rfl rfl rfl) rfl rfl ?_
      refine op_str (nxgf rfl rfl rfl rfl) Try.underlying22 Try.underlying5 Try.underlying9 rfl (by assumption) (by first | exact mem0 | exact mem1 | exact mem2 | exact mem3 | exact mem4 | exact mem5 | exact mem6 | exact mem7 | exact mem8 | exact mem9) rfl ?_
      refine op_move (nxgf rfl rfl rfl rfl) rfl rfl ?_
      refine op_str (nxgf rfl rfl rfl rfl) Try.underlying22 Try.underlying5 Try.underlying9 rfl (by assumption) (by first | exact mem0 | exact mem1 | exact mem2 | exact mem3 | exact mem4 | exact mem5 | exact mem6 | exact mem7 | exact mem8 | exact mem9) rfl ?_
      refine op_eqS (nxgf rfl rfl rfl rfl) rfl rfl rfl ?_
      refine op_pickT (nxlf rfl) rfl rfl rfl ?_
      refine op_move (nxlf rfl) rfl rfl ?_
      refine At.partP (d := 41) rfl (fun g41 => ?_) (fun g41 => ?_)
      · refine op_callA (nxga rfl rfl rfl rfl) .nil (wakes_f) Try.func15 rfl rfl (by simp) rfl ?_
        rintro v42 L42 ⟨rfl, rfl⟩
        change At _ _ _ [N6, M20, N2, R] _
        refine op_pickT (nxlf rfl) rfl rfl rfl ?_
        refine op_assign (nxlf rfl) rfl rfl ?_
        refine At.opsNil ?_
        refine At.norm (hk_10 ?_)
        refine At.ret (?_)
        refine At.sub (L' := [R]) (.cons _ (.cons _ (.cons _ (.cons_cons _ (.slnil))))) ?_
        refine At.ret1 (L1 := []) rfl (.tmp rfl .nil) (.refl _) (.refl _) ?_
        exact ⟨rfl, rfl⟩
      · exact absurd rfl g41
end Go.Proofs.Ytohmmgggaegbbaa
