/- quarrylaw05.RlpNumbers answers true. No condition. -/
import Derived.Test.YtohmmgggaegbbaaV8
import Derived.Test.YtohmmgggaegbbaaA4
namespace Go.Proofs.Ytohmmgggaegbbaa
set_option linter.unusedVariables false
set_option linter.unusedSimpArgs false
open Go Go.RowKit
theorem num_bytes {x : Nat} (h : x < 2 ^ 256) : numE (bytesOf x) = 0 ∧ numV (bytesOf x) = x := by
  have e : numE (bytesOf x) = 0 := by
    refine numE0 (fun ⟨h1, h2⟩ => ?_) ?_
    · have hh := head_bytesOf x
      cases hb : bytesOf x with
      | nil => rw [hb] at h1; simp at h1
      | cons y t =>
        rw [hb] at h2 hh
        apply hh
        simp only [List.head?_cons, Option.some.injEq]
        rw [← UInt8.toNat_inj]
        exact h2
    · have h1 := length_bytesOf x
      have h2 := byteLen_le.2 (show x < 256 ^ 32 by simpa using h)
      omega
  exact ⟨e, by rw [numV, if_pos e, be_bytesOf]⟩
set_option maxRecDepth 100000 in
theorem RlpNumbers_f {N : Heaplet} {ao : Option Addr} {n cap : Nat} {l : List UInt8} (h : RSl N 1 ao n cap (u8s l)) (a b c d : UInt64) :
    Fn Try.prog 10 #[.slice ao n cap, .agg #[.int .u64 (a.toNat : Int), .int .u64 (b.toNat : Int), .int .u64 (c.toNat : Int), .int .u64 (d.toNat : Int)]] [] [N] (fun v L => v = .bool true ∧ L = []) := by
  have hl1 : (l.take 100).length ≤ 100 := by rw [List.length_take]; omega
  obtain ⟨hE, hV⟩ := num_bytes (v64_four_lt a b c d)
  refine Fn.enter (vs := [.slice ao n cap, .agg #[.int .u64 (a.toNat : Int), .int .u64 (b.toNat : Int), .int .u64 (c.toNat : Int), .int .u64 (d.toNat : Int)]]) Try.func10 rfl rfl rfl ?_
  intro E R hR
  have h := h.le (hR N (by simp))
  change At _ _ E [R] _
  refine At.seq fun K1 hk_1 => ?_
  refine At.region ?_
  refine op_box (nxla rfl) rfl rfl rfl (fun N3 b3 B3 => ?_)
  refine op_assign (nxlf rfl) rfl rfl ?_
  refine At.opsNil ?_
  refine At.norm (hk_1 ?_)
  refine At.seq fun K2 hk_2 => ?_
  refine At.region ?_
  refine op_move (nxlf rfl) rfl rfl ?_
  refine op_callA (nxla rfl) (.cons rfl (.cons rfl .nil)) (KTwin_f h 100 100 rfl (by decide)) Try.func16 rfl rfl (by simp) rfl ?_
  rintro v14 L14 ⟨M14, a14, p14, rfl, rfl, r14⟩
  change At _ _ _ [M14, N3, R] _
  have s14 := r14.rsl
  refine op_assign (nxlf rfl) rfl rfl ?_
  refine At.opsNil ?_
  refine At.norm (hk_2 ?_)
  refine At.seq fun K3 hk_3 => ?_
  refine At.region ?_
  refine op_move (nxlf rfl) rfl rfl ?_
  refine op_callA (nxla rfl) (.cons rfl (.cons rfl .nil)) (KTwin_all s14 100 100 rfl (by decide) hl1) Try.func16 rfl rfl (by simp) rfl ?_
  rintro v17 L17 ⟨M17, a17, p17, rfl, rfl, r17⟩
  change At _ _ _ [M17, M14, N3, R] _
  have s17 := r17.rsl
  refine op_callA (nxla rfl) (.cons rfl .nil) (Number_f s17) Try.func31 rfl rfl (by simp) rfl ?_
  rintro v18 L18 ⟨wa, wb, wc, wd, rfl, rfl, hw⟩
  change At _ _ _ [M17, M14, N3, R] _
  refine op_move (nxlf rfl) rfl rfl ?_
  refine op_extract (nxlf rfl) rfl rfl rfl ?_
  refine op_extract (nxlf rfl) rfl rfl rfl ?_
  refine op_alloc (nxla rfl) ze66 rfl (fun N6 b6 B6 => ?_)
  change Blk N6 b6 _ [.int .u64 0, .int .u64 0, .int .u64 0, .int .u64 0] at B6
  refine op_store (nxl rfl) sz66 rfl rfl rfl rfl rfl B6 (by simp) sel0 (fun N6 B6 => ?_)
  simp only [setL, List.set] at B6
  refine op_assign (nxlf rfl) rfl rfl ?_
  refine At.opsNil ?_
  refine At.norm (hk_3 ?_)
  refine At.seq fun K4 hk_4 => ?_
  refine At.region ?_
  refine op_move (nxlf rfl) rfl rfl ?_
  refine op_callA (nxla rfl) (.cons rfl .nil) (rNumber_f s14) Try.func32 rfl rfl (by simp) rfl ?_
  rintro v23 L23 ⟨ua, ub, uc, ud, rfl, rfl, hu⟩
  change At _ _ _ [N6, M17, M14, N3, R] _
  have e1 : [wa, wb, wc, wd] = [ua, ub, uc, ud] := eq_words4 rfl rfl (hw.trans hu.symm)
  refine op_move (nxlf rfl) rfl rfl ?_
  refine op_extract (nxlf rfl) rfl rfl rfl ?_
  refine op_extract (nxlf rfl) rfl rfl rfl ?_
  refine op_alloc (nxla rfl) ze66 rfl (fun N8 b8 B8 => ?_)
  change Blk N8 b8 _ [.int .u64 0, .int .u64 0, .int .u64 0, .int .u64 0] at B8
  refine op_store (nxl rfl) sz66 rfl rfl rfl rfl rfl B8 (by simp) sel0 (fun N8 B8 => ?_)
  simp only [setL, List.set] at B8
  refine op_assign (nxlf rfl) rfl rfl ?_
  refine At.opsNil ?_
  refine At.norm (hk_4 ?_)
  refine At.seq fun K5 hk_5 => ?_
  refine At.region ?_
  refine op_loadAggB (ds := [_, _, _, _]) (nxlf rfl) ag66 rfl B3 rfl rfl mem4 rfl ?_
  refine op_callA (nxla rfl) (.cons rfl .nil) (Of_f a b c d) Try.func28 rfl rfl (by simp) rfl ?_
  rintro v27 L27 ⟨M27, p27, k27, rfl, rfl, r27⟩
  change At _ _ _ [M27, N8, N6, M17, M14, N3, R] _
  have s27 := r27.rsl
  refine op_alloc (nxla rfl) ze25 rfl (fun N10 b10 B10 => ?_)
  change Blk N10 b10 _ [.bool false, .slice none 0 0, .slice none 0 0] at B10
  refine op_store (nxl rfl) sz25 rfl rfl rfl rfl rfl B10 (by simp) sel0 (fun N10 B10 => ?_)
  simp only [setL, List.set] at B10
  refine At.opsNil ?_
  refine At.norm (hk_5 ?_)
  refine At.seq fun K6 hk_6 => ?_
  refine At.region ?_
  refine op_fieldAddr (nxlf rfl) fl25_1 rfl rfl ?_
  refine op_loadB (nxlf rfl) sc22 rfl B10 (by first | rfl) mem0 rfl ?_
  refine op_callA (nxla rfl) (.cons rfl .nil) (Number_f s27) Try.func31 rfl rfl (by simp) rfl ?_
  rintro v31 L31 ⟨xa, xb, xc, xd, rfl, rfl, hx⟩
  change At _ _ _ [N10, M27, N8, N6, M17, M14, N3, R] _
  have e3 : [xa, xb, xc, xd] = [a, b, c, d] := eq_words4 rfl rfl (hx.trans hV)
  have hi27 : ItN M27 (.mk false (bytesOf (v64 [a, b, c, d])) []) ⟨false, p27, (bytesOf (v64 [a, b, c, d])).length, k27, none, 0, 0⟩ := ItN.mk s27 (xs := []) (RSl.nil _ _) rfl
  rw [hE]
  refine op_move (nxlf rfl) rfl rfl ?_
  refine op_extract (nxlf rfl) rfl rfl rfl ?_
  refine op_extract (nxlf rfl) rfl rfl rfl ?_
  refine op_alloc (nxla rfl) ze66 rfl (fun N11 b11 B11 => ?_)
  change Blk N11 b11 _ [.int .u64 0, .int .u64 0, .int .u64 0, .int .u64 0] at B11
  refine op_store (nxl rfl) sz66 rfl rfl rfl rfl rfl B11 (by simp) sel0 (fun N11 B11 => ?_)
  simp only [setL, List.set] at B11
  refine op_assign (nxlf rfl) rfl rfl ?_
  refine At.opsNil ?_
  refine At.norm (hk_6 ?_)
  refine At.seq fun K7 hk_7 => ?_
  refine At.drawn [12,24] [0,1,2,3,4,5,6,7,8,9,10,11,12,13,14,15,16,17,18,19,20,21,22,23,24,25,26] (by kernel_rfl) (by kernel_rfl) ?_
  refine op_move (nxof rfl rfl rfl (by kernel_rfl)) rfl rfl ?_
  refine op_move (nxof rfl rfl rfl (by kernel_rfl)) rfl rfl ?_
  refine op_eql (nxof rfl rfl rfl (by kernel_rfl)) rfl rfl rfl ?_
  refine op_move (nxof rfl rfl rfl (by kernel_rfl)) rfl rfl ?_
  refine At.partP (d := 37) rfl (fun g37 => ?_) (fun g37 => ?_)
  · refine op_loadAggB (ds := [_, _, _, _]) (nxogf rfl rfl rfl rfl rfl rfl (by kernel_rfl)) ag66 rfl B6 rfl rfl mem4 rfl ?_
    refine op_loadAggB (ds := [_, _, _, _]) (nxogf rfl rfl rfl rfl rfl rfl (by kernel_rfl)) ag66 rfl B8 rfl rfl mem3 rfl ?_
    refine op_eqW (a := [wa, wb, wc, wd]) (b := [ua, ub, uc, ud]) (nxogf rfl rfl rfl rfl rfl rfl (by kernel_rfl)) ae66 Try.underlying64 (by kernel_rfl) rfl rfl rfl rfl rfl ?_
    refine op_pickT (nxof rfl rfl rfl (by kernel_rfl)) rfl rfl rfl ?_
    refine op_move (nxof rfl rfl rfl (by kernel_rfl)) rfl rfl ?_
    refine At.partP (d := 42) rfl (fun g42 => ?_) (fun g42 => ?_)
    · refine op_loadAggB (ds := [_, _, _]) (nxogf rfl rfl rfl rfl rfl rfl (by kernel_rfl)) ag25 rfl B10 rfl rfl mem1 rfl ?_
      refine op_loadAggB (ds := [_, _, _, _]) (nxogf rfl rfl rfl rfl rfl rfl (by kernel_rfl)) ag66 rfl B3 rfl rfl mem7 rfl ?_
      refine op_callA (nxoga rfl rfl rfl rfl rfl rfl) (.cons rfl .nil) (rOf_f a b c d) Try.func33 rfl rfl (by simp) rfl ?_
      rintro v45 L45 ⟨M45, p45, k45, rfl, rfl, r45⟩
      change At _ _ _ [M45, N11, N10, M27, N8, N6, M17, M14, N3, R] _
      have s45 := r45.rsl; have hi45 : ItN M45 (.mk false (bytesOf (v64 [a, b, c, d])) []) ⟨false, p45, (bytesOf (v64 [a, b, c, d])).length, k45, none, 0, 0⟩ := ItN.mk s45 (xs := []) (RSl.nil _ _) rfl
      refine op_callA (Nx.agree (nxogs rfl rfl rfl rfl rfl rfl rfl)) (.cons rfl (.cons rfl .nil)) (Same_f (.mk false (bytesOf (v64 [a, b, c, d])) []) (.mk false (bytesOf (v64 [a, b, c, d])) []) M27 M45 ⟨false, p27, (bytesOf (v64 [a, b, c, d])).length, k27, none, 0, 0⟩ ⟨false, p45, (bytesOf (v64 [a, b, c, d])).length, k45, none, 0, 0⟩ hi27 hi45) Try.func19 rfl rfl (by simp) rfl ?_
      rintro v46 L46 ⟨rfl, rfl⟩
      change At _ _ _ [M45, N11, N10, M27, N8, N6, M17, M14, N3, R] _
      rw [It.same_self]
      refine op_pickT (nxof rfl rfl rfl (by kernel_rfl)) rfl rfl rfl ?_
      refine op_move (nxof rfl rfl rfl (by kernel_rfl)) rfl rfl ?_
      refine op_move (nxogf rfl rfl rfl rfl rfl rfl (by kernel_rfl)) rfl rfl ?_
      refine op_eql (nxogf rfl rfl rfl rfl rfl rfl (by kernel_rfl)) rfl rfl rfl ?_
      refine op_pickT (nxof rfl rfl rfl (by kernel_rfl)) rfl rfl rfl ?_
      refine op_move (nxof rfl rfl rfl (by kernel_rfl)) rfl rfl ?_
      refine op_loadAggB (ds := [_, _, _, _]) (nxogf rfl rfl rfl rfl rfl rfl (by kernel_rfl)) ag66 rfl B11 rfl rfl mem1 rfl ?_
      refine op_loadAggB (ds := [_, _, _, _]) (nxogf rfl rfl rfl rfl rfl rfl (by kernel_rfl)) ag66 rfl B3 rfl rfl mem8 rfl ?_
      refine op_eqW (a := [xa, xb, xc, xd]) (b := [a, b, c, d]) (nxogf rfl rfl rfl rfl rfl rfl (by kernel_rfl)) ae66 Try.underlying64 (by kernel_rfl) rfl rfl rfl rfl rfl ?_
      refine op_pickT (nxof rfl rfl rfl (by kernel_rfl)) rfl rfl rfl ?_
      refine op_move (nxof rfl rfl rfl (by kernel_rfl)) rfl rfl ?_
      refine At.partP (d := 57) rfl (fun g57 => ?_) (fun g57 => ?_)
      · refine op_callA (Nx.agree (nxogs rfl rfl rfl rfl rfl rfl rfl)) .nil (wakes_f) Try.func15 rfl rfl (by simp) rfl ?_
        rintro v58 L58 ⟨rfl, rfl⟩
        change At _ _ _ [M45, N11, N10, M27, N8, N6, M17, M14, N3, R] _
        refine op_pickT (nxof rfl rfl rfl (by kernel_rfl)) rfl rfl rfl ?_
        refine op_assign (nxof rfl rfl rfl (by kernel_rfl)) rfl rfl ?_
        refine At.oneNil ?_
        refine At.norm (hk_7 ?_)
        refine At.ret (?_)
        refine At.sub (L' := [R]) (.cons _ (.cons _ (.cons _ (.cons _ (.cons _ (.cons _ (.cons _ (.cons _ (.cons _ (.cons_cons _ (.slnil))))))))))) ?_
        refine At.ret1 (L1 := []) rfl (.tmp rfl .nil) (.refl _) (.refl _) ?_
        exact ⟨rfl, rfl⟩
      · exact absurd e3 g57
    · exact absurd e1 g42
  · exact absurd rfl g37
end Go.Proofs.Ytohmmgggaegbbaa
