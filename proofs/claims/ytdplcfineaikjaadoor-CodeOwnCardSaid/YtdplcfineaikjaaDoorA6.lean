/- The engine, append to a slice without room: a new row, whatever memory the old one lies in. For whatever program. Condition: the old slice is full. -/
import Derived.Test.YtdplcfineaikjaaDoorG6
import Derived.ArgAppend
namespace Go.Proofs.YtdplcfineaikjaaDoor
set_option linter.unusedVariables false
set_option linter.unusedSimpArgs false
open Go Go.RowKit
section
variable {P : Program} {n : Nat} {l : List (Nat × Value)} {E : World} {L Ls : List Heaplet} {X Y : Act → World → Prop} {d : Nat} {t t' ty e : TypeId} {x y : Operand}
theorem run_append_G {w : World} {zv : Value} {size bytes len m cap cap' : Nat} {b a : Addr} {xs ys : List Value} (ht : P.underlying t = some (.slice e)) (hE : ElemInfo P e zv size bytes)
    (hlo : xs.length = len * size) (ho : ∀ j u, xs[j]? = some u → w.cell? (b.add j) = some u) (hl : ys.length = m * size) (hnews : ∀ j u, ys[j]? = some u → w.cell? (a.add j) = some u) (hg : cap < len + m) (h63 : len + m ≤ maxLen) (hb : (len + m) * bytes ≤ 140737488355328) :
    ∃ cap2 w', (Builtin.append_ #[t, t] ty #[.slice (some b) len cap, .slice (some a) m cap']).run P w = .ok (.slice (some ⟨w.heap.size, 0, none⟩) (len + m) cap2) w' ∧
      w'.ownsRow 0 e size (.slice (some ⟨w.heap.size, 0, none⟩) (len + m) cap2) (len + m) (xs ++ ys) ∧ w.grownBy w' none := by
  obtain ⟨i, hi, hz, hsz, hby, hzs, h0⟩ := hE
  subst hsz
  subst hby
  have hsmall : len + m ≤ 9223372036854775807 := by simp only [maxLen] at h63; omega
  have hlen : (xs ++ ys).length = (len + m) * i.size := by rw [List.length_append, hlo, hl, Nat.add_mul]
  have hge := grownCap_ge w (len + m) cap e
  have hcm : grownCap w (len + m) cap e ≤ maxLen := grownCap_le_maxLen w (len + m) cap e h63
  have hr := run_append_grow (P := P) w t ty e i zv ht hi hz b len cap xs hlo ho a m cap' ys hl hnews hg (by omega) (growslice_fits hg hb)
  refine ⟨_, _, hr, ⟨hlen, .inr ⟨w.heap.size, _, _, rfl, Nat.zero_le _, heap_alloc_new w.drew _, hge, hcm, ?_, ?_⟩⟩, ⟨rfl, rfl, rfl, by simp, fun k hk _ => heap_alloc_old w.drew _ hk⟩⟩
  · simp only [Array.size_append, List.size_toArray, size_zeroCells, hzs, hlo, hl, ← Nat.add_mul]
    congr 1
    omega
  · simp only [Array.toList_append, List.append_assoc]
    rw [← List.append_assoc, ← hlen]
    exact List.take_left
theorem op_appendG {size len cap m cap' bytes : Nat} {zv : Value} {ao ao' : Option Addr} {xs ys : List Value} {N M : Heaplet} {t2 e2 : TypeId} {pos : _} {aft : _} {g : _} (s : NxA P n l E L ⟨some d, .call ⟨.builtin .append, #[x, y], #[t, t2]⟩, ty, pos, aft, g⟩ X Y) (ht : P.underlying t = some (.slice e)) (ht2 : P.underlying t2 = some (.slice e2)) (hE : ElemInfo P e zv size bytes)
    (hx : ev l x = some (.slice ao len cap)) (hy : ev l y = some (.slice ao' m cap')) (hr : RSl N size ao len cap xs) (hN : N ∈ L) (hs : RSl M size ao' m cap' ys) (hM : M ∈ L) (hlen : 0 < len) (hm : 0 < m) (hg : cap < len + m) (hb : (len + m) * bytes ≤ 140737488355328) (hl : len + m ≤ 9223372036854775807) (hn : Nat.ble (d + 1) n = true)
    (h : ∀ N ao cap, Row N e size ao (len + m) cap (xs ++ ys) → At n ((d, .slice ao (len + m) cap) :: l) E (N :: L) Y) : At n l E L X := by
  refine op_new s (fun v L' => ∃ N ao cap, v = .slice ao (len + m) cap ∧ L' = N :: L ∧ Row N e size ao (len + m) cap (xs ++ ys)) (fun a w hf hw => ?_) rfl hn (fun v L' ⟨N, ao, cap, hv, hL, hB⟩ => by subst hv; subst hL; exact h N ao cap hB)
  have hw2 : Hp E ((fun _ => none) :: L) w := ⟨hw.os, hw.tape, hw.output, fun N hN => by
    rcases List.mem_cons.1 hN with rfl | hN
    · intro k o hk; cases hk
    · exact hw.sub N hN, by rw [List.pairwise_cons]; exact ⟨fun _ _ _ => .inl rfl, hw.sep⟩⟩
  have hr0 := Row.nil (fun _ => none) e size
  obtain ⟨x1, x2, x3, x4⟩ := hr.sl (hw.sub N hN)
  obtain ⟨y1, y2, y3, y4⟩ := hs.sl (hw.sub M hM)
  obtain ⟨b1, o1, rfl, c1⟩ := x4 hlen
  obtain ⟨b2, o2, rfl, c2⟩ := y4 hm
  obtain ⟨cap2, w', h4, h5, h6⟩ := run_append_G (P := P) (ty := ty) (cap' := cap') ht hE x1 (fun j u hu => by
    obtain ⟨hj, rfl⟩ := List.getElem?_eq_some_iff.1 hu
    rw [addr_add]; exact c1 j hj) y1 (fun j u hu => by
    obtain ⟨hj, rfl⟩ := List.getElem?_eq_some_iff.1 hu
    rw [addr_add]; exact c2 j hj) hg (by unfold maxLen; exact hl) hb
  obtain ⟨N', h8, h9⟩ := hp_append hw2 hr0 h5 h6 (.inr rfl)
  refine ⟨_, w', _, ?_, grown_agree h6 (fun k hk => by cases hk), h9, N', _, cap2, rfl, rfl, h8⟩
  simp only [execOp, resolve, invoke, builtin, Sem.run_bind, Sem.run_pure, Result.andThen_ok, List.map_toArray, List.map_cons, List.map_nil, hf.eval hx, hf.eval hy, run_append_src ht ht2, h4]
end
end Go.Proofs.YtdplcfineaikjaaDoor
