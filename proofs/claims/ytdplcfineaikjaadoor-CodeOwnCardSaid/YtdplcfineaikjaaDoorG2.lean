/- The engine, part 2: operations that only compute. For whatever program. No condition. -/
import Derived.Test.YtdplcfineaikjaaDoorG1
import Derived.Test.YtdplcfineaikjaaDoorDraw5
import Derived.Test.YtdplcfineaikjaaDoorBit
namespace Go.Proofs.YtdplcfineaikjaaDoor
set_option linter.unusedVariables false
set_option linter.unusedSimpArgs false
open Go Go.RowKit

/-- What the operation o gives leads from Y to X: if it leaves the world alone (NxF), if it leaves each block alone (NxA), whatever it does (Nx). -/
def NxF (P : Program) (n : Nat) (l : List (Nat × Value)) (E : World) (L Ls : List Heaplet) (o : Oper) (X Y : Act → World → Prop) : Prop :=
  ∀ a w v, Fr n l a → Hp E L w → (∀ w', Hp E Ls w' → (execOp a.eval o).run P w' = .ok (.value v) w') → Y (a.put o.dst v) w → X a w
def NxA (P : Program) (n : Nat) (l : List (Nat × Value)) (E : World) (L : List Heaplet) (o : Oper) (X Y : Act → World → Prop) : Prop :=
  ∀ a w, Fr n l a → Hp E L w → o.wp P a w (fun a' w' => Agree w w' ∧ Y a' w') (fun _ _ _ => False) → X a w
def Nx (P : Program) (n : Nat) (l : List (Nat × Value)) (E : World) (L : List Heaplet) (o : Oper) (X Y : Act → World → Prop) : Prop :=
  ∀ a w, Fr n l a → Hp E L w → o.wp P a w Y (fun _ _ _ => False) → X a w
section
variable {P : Program} {n : Nat} {l : List (Nat × Value)} {E : World} {L Ls : List Heaplet} {Q : Exit → Act → World → Prop} {ops : Array Oper} {rest : List Oper} {o : Oper} {X Y : Act → World → Prop}
theorem Nx.agree (h : Nx P n l E L o X Y) : NxA P n l E L o X Y := fun a w hf hw hx => h a w hf hw (Oper.wp_mono (fun _ _ h => h.2) hx)
theorem Nx.float (h : Nx P n l E L o X Y) : NxF P n l E L L o X Y := fun a w v hf hw hr hy => h a w hf hw (by unfold Oper.wp; rw [hr w hw]; exact hy)
theorem nxl (hg : o.guard = none) : Nx P n l E L o (wpList P ops Q (o :: rest)) (wpList P ops Q rest) := fun a w _ _ hx =>
  wpList_plain hg fun K hK => upon_carry (fun _ _ h => hK _ _ h) (fun _ _ h => hK _ _ h) hx
theorem nxlf (hg : o.guard = none) : NxF P n l E L L o (wpList P ops Q (o :: rest)) (wpList P ops Q rest) := (nxl hg).float
theorem nxla (hg : o.guard = none) : NxA P n l E L o (wpList P ops Q (o :: rest)) (wpList P ops Q rest) := (nxl hg).agree
theorem wanted_of {j : Nat} {b c : Bool} {oj : Oper} {d : Nat} {a : Act} (hf : Fr n l a) (hg : o.guard = some (j, b)) (hj : ops[j]? = some oj) (hd : oj.dst = some d) (hv : lk l d = some (.bool c)) : Region.wanted o (yielded ops a.tmps) = (c == b) := by
  have := hf.get d _ hv
  simp [Region.wanted, hg, yielded, hj, hd, this]
theorem nxg {j : Nat} {b : Bool} {oj : Oper} {d : Nat} (hg : o.guard = some (j, b)) (hj : ops[j]? = some oj) (hd : oj.dst = some d) (hv : lk l d = some (.bool b)) : Nx P n l E L o (wpList P ops Q (o :: rest)) (wpList P ops Q rest) := fun a w hf hw hx =>
  wpList_step fun K hK => by
    rw [wanted_of hf hg hj hd hv]
    simp only [beq_self_eq_true, if_true]
    exact upon_carry (fun _ _ h => hK _ _ h) (fun _ _ h => hK _ _ h) hx
theorem nxgf {j : Nat} {b : Bool} {oj : Oper} {d : Nat} (hg : o.guard = some (j, b)) (hj : ops[j]? = some oj) (hd : oj.dst = some d) (hv : lk l d = some (.bool b)) : NxF P n l E L L o (wpList P ops Q (o :: rest)) (wpList P ops Q rest) := (nxg hg hj hd hv).float
theorem nxga {j : Nat} {b : Bool} {oj : Oper} {d : Nat} (hg : o.guard = some (j, b)) (hj : ops[j]? = some oj) (hd : oj.dst = some d) (hv : lk l d = some (.bool b)) : NxA P n l E L o (wpList P ops Q (o :: rest)) (wpList P ops Q rest) := (nxg hg hj hd hv).agree
/-- An operation whose guard says no. -/
theorem op_skip {j : Nat} {b c : Bool} {oj : Oper} {d e : Nat} (hg : o.guard = some (j, b)) (hj : ops[j]? = some oj) (hd : oj.dst = some d) (hv : lk l d = some (.bool c)) (hc : (c == b) = false) (he : o.dst = some e) (hn : Nat.ble (e + 1) n = true)
    (h : At n ((e, undef) :: l) E L (wpList P ops Q rest)) : At n l E L (wpList P ops Q (o :: rest)) := fun a w hf hw =>
  wpList_step fun K hK => by
    rw [wanted_of hf hg hj hd hv, hc]
    simp only [Bool.false_eq_true, if_false]
    rw [he]
    exact hK _ _ (h _ _ (hf.put (Nat.le_of_ble_eq_true hn)) hw)
/-- Part by the value of a slot that holds a bool. -/
theorem At.part {d : Nat} {b : Bool} {K : Act → World → Prop} (hv : lk l d = some (.bool b)) (ht : b = true → At n ((d, .bool true) :: l) E L K) (hf : b = false → At n ((d, .bool false) :: l) E L K) : At n l E L K := fun a w h hw => by
  have key : ∀ i v, lk ((d, .bool b) :: l) i = some v → lk l i = some v := fun i v hi => by
    unfold lk at hi
    by_cases e : d = i
    · subst e; simp at hi; subst hi; exact hv
    · rw [beq_no e] at hi; exact hi
  cases b with
  | true => exact ht rfl a w ⟨h.defers, h.size, fun i v hi => h.get i v (key i v hi)⟩ hw
  | false => exact hf rfl a w ⟨h.defers, h.size, fun i v hi => h.get i v (key i v hi)⟩ hw
theorem At.partP {d : Nat} {p : Prop} [Decidable p] {K : Act → World → Prop} (hv : lk l d = some (.bool (decide p))) (ht : p → At n ((d, .bool true) :: l) E L K) (hf : ¬ p → At n ((d, .bool false) :: l) E L K) : At n l E L K :=
  At.part hv (fun e => ht (of_decide_eq_true e)) (fun e => hf (of_decide_eq_false e))

/-! A region that draws its order. -/
variable {sink : Nat → Bool} {i : Nat} {is : List Nat}
theorem floatOK_congr {op : Op} {ρ ρ' : Operand → Value} (h : ∀ x ∈ op.operands, ρ x = ρ' x) : floatOK P op ρ = floatOK P op ρ' := by
  cases op <;> simp only [floatOK]
  case nilCheck x => rw [h x (by simp [Op.operands])]
  case binOp op t x y t' => rw [h x (by simp [Op.operands]), h y (by simp [Op.operands])]
  case convert s d x => rw [h x (by simp [Op.operands])]
  case call c =>
    split
    · have : c.args.toList.map ρ = c.args.toList.map ρ' := by
        refine List.map_congr_left fun x hx => h x ?_
        simp [Op.operands, Call.operands]
        exact .inr (Array.mem_toList_iff.1 hx)
      rw [this]
    · rfl
/-- The operands' values are known, and with them the operation floats. -/
def okB (P : Program) (l : List (Nat × Value)) (op : Op) : Bool := op.operands.all (fun x => (ev l x).isSome) && floatOK P op (fun x => (ev l x).getD undef)
theorem okB_spec {op : Op} (h : okB P l op = true) {a : Act} (hf : Fr n l a) : floatOK P op a.eval = true := by
  unfold okB at h
  rw [Bool.and_eq_true] at h
  rw [← h.2]
  refine floatOK_congr fun x hx => ?_
  have := Array.all_eq_true_iff_forall_mem.1 h.1 x hx
  obtain ⟨v, hv⟩ := Option.isSome_iff_exists.1 this
  rw [hf.eval hv, hv]; rfl
theorem nxof (ho : ops[i]? = some o) (hf : floats o.op = true) (hg : o.guard = none) (hok : okB P l o.op = true) : NxF P n l E L L o (wpOne P ops sink Q (i :: is)) (wpOne P ops sink Q is) := fun a w v hfr hw_ hr hy =>
  wpOne_float ho hf (by simp [Region.wanted, hg]) (okB_spec hok hfr) fun K hK => by unfold Oper.wp; rw [hr w hw_]; exact hK _ _ hy
theorem nxos (ho : ops[i]? = some o) (hf : floats o.op = false) (hs : sink i = true) (hg : o.guard = none) : Nx P n l E L o (wpOne P ops sink Q (i :: is)) (wpOne P ops sink Q is) := fun a w _ _ hx =>
  wpOne_sink ho hf hs (by simp [Region.wanted, hg]) fun K hK => Oper.wp_mono (fun _ _ h => hK _ _ h) hx
theorem nxosa (ho : ops[i]? = some o) (hf : floats o.op = false) (hs : sink i = true) (hg : o.guard = none) : NxA P n l E L o (wpOne P ops sink Q (i :: is)) (wpOne P ops sink Q is) := (nxos ho hf hs hg).agree
theorem nxoa (ho : ops[i]? = some o) (hf : floats o.op = false) (hg : o.guard = none) : NxA P n l E L o (wpOne P ops sink Q (i :: is)) (wpOne P ops sink Q is) := fun a w _ _ hx =>
  wpOne_act ho hf (by simp [Region.wanted, hg]) fun K hK => Oper.wp_mono (fun _ _ h => hK _ _ h) hx
theorem nxogf {j : Nat} {b : Bool} {oj : Oper} {d : Nat} (ho : ops[i]? = some o) (hf : floats o.op = true) (hg : o.guard = some (j, b)) (hj : ops[j]? = some oj) (hd : oj.dst = some d) (hv : lk l d = some (.bool b)) (hok : okB P l o.op = true) : NxF P n l E L L o (wpOne P ops sink Q (i :: is)) (wpOne P ops sink Q is) := fun a w v hfr hw_ hr hy =>
  wpOne_float ho hf (by rw [wanted_of hfr hg hj hd hv]; simp) (okB_spec hok hfr) fun K hK => by unfold Oper.wp; rw [hr w hw_]; exact hK _ _ hy
theorem nxogs {j : Nat} {b : Bool} {oj : Oper} {d : Nat} (ho : ops[i]? = some o) (hf : floats o.op = false) (hs : sink i = true) (hg : o.guard = some (j, b)) (hj : ops[j]? = some oj) (hd : oj.dst = some d) (hv : lk l d = some (.bool b)) : Nx P n l E L o (wpOne P ops sink Q (i :: is)) (wpOne P ops sink Q is) := fun a w hfr _ hx =>
  wpOne_sink ho hf hs (by rw [wanted_of hfr hg hj hd hv]; simp) fun K hK => Oper.wp_mono (fun _ _ h => hK _ _ h) hx
theorem nxoga {j : Nat} {b : Bool} {oj : Oper} {d : Nat} (ho : ops[i]? = some o) (hf : floats o.op = false) (hg : o.guard = some (j, b)) (hj : ops[j]? = some oj) (hd : oj.dst = some d) (hv : lk l d = some (.bool b)) : NxA P n l E L o (wpOne P ops sink Q (i :: is)) (wpOne P ops sink Q is) := fun a w hfr _ hx =>
  wpOne_act ho hf (by rw [wanted_of hfr hg hj hd hv]; simp) fun K hK => Oper.wp_mono (fun _ _ h => hK _ _ h) hx
theorem op_oskip {j : Nat} {b c : Bool} {oj : Oper} {d e : Nat} (ho : ops[i]? = some o) (hg : o.guard = some (j, b)) (hj : ops[j]? = some oj) (hd : oj.dst = some d) (hv : lk l d = some (.bool c)) (hc : (c == b) = false) (he : o.dst = some e) (hn : Nat.ble (e + 1) n = true)
    (h : At n ((e, undef) :: l) E L (wpOne P ops sink Q is)) : At n l E L (wpOne P ops sink Q (i :: is)) := fun a w hf hw =>
  wpOne_skip ho (by rw [wanted_of hf hg hj hd hv, hc]) (by rw [he]; exact h _ _ (hf.put (Nat.le_of_ble_eq_true hn)) hw)

/-! A region that draws its order, in which some heaplets stay as they are. -/
theorem At.drawnS {id : Nat} {ops : List Oper} (Lst : List Heaplet) (snk pl ord : List Nat) (hm : P.follows .mixedOrders = true) (hB : St.oneSB .any ops.toArray snk pl ord = true) (hs : Lst.Sublist L)
    (h : At n l E L (St.wpOne P ops.toArray (Hp E Lst) (fun i => snk.contains i) Q ord)) : At n l E L ((Code.region id ops.toArray true).wp P Q) := fun a w hf hw => St.wp_one snk pl ord hm hB (hw.drew.drop hs) (h a w.drew hf hw.drew)
theorem At.sNil {S : World → Prop} (h : At n l E L (Q .normal)) : At n l E L (St.wpOne P ops S sink Q []) := h
theorem At.andS {Lst : List Heaplet} {Y : Act → World → Prop} (hs : Lst.Sublist L) (h : At n l E L Y) : At n l E L (fun a w => Hp E Lst w ∧ Y a w) := fun a w hf hw => ⟨hw.drop hs, h a w hf hw⟩
variable {Lst : List Heaplet}
theorem nxsf (ho : ops[i]? = some o) (hf : floats o.op = true) (hg : o.guard = none) : NxF P n l E L Lst o (St.wpOne P ops (Hp E Lst) sink Q (i :: is)) (St.wpOne P ops (Hp E Lst) sink Q is) := fun a w v hfr hw hr hy =>
  St.wpOne_float ho hf (by simp [Region.wanted, hg]) hr hy
theorem nxsgf {j : Nat} {b : Bool} {oj : Oper} {d : Nat} (ho : ops[i]? = some o) (hf : floats o.op = true) (hg : o.guard = some (j, b)) (hj : ops[j]? = some oj) (hd : oj.dst = some d) (hv : lk l d = some (.bool b)) : NxF P n l E L Lst o (St.wpOne P ops (Hp E Lst) sink Q (i :: is)) (St.wpOne P ops (Hp E Lst) sink Q is) := fun a w v hfr hw hr hy =>
  St.wpOne_float ho hf (by rw [wanted_of hfr hg hj hd hv]; simp) hr hy
theorem nxsa (ho : ops[i]? = some o) (hf : floats o.op = false) (hg : o.guard = none) : Nx P n l E L o (St.wpOne P ops (Hp E Lst) sink Q (i :: is)) (fun a w => Hp E Lst w ∧ St.wpOne P ops (Hp E Lst) sink Q is a w) := fun a w hfr hw hx =>
  St.wpOne_act ho hf (by simp [Region.wanted, hg]) hx
theorem nxsga {j : Nat} {b : Bool} {oj : Oper} {d : Nat} (ho : ops[i]? = some o) (hf : floats o.op = false) (hg : o.guard = some (j, b)) (hj : ops[j]? = some oj) (hd : oj.dst = some d) (hv : lk l d = some (.bool b)) : Nx P n l E L o (St.wpOne P ops (Hp E Lst) sink Q (i :: is)) (fun a w => Hp E Lst w ∧ St.wpOne P ops (Hp E Lst) sink Q is a w) := fun a w hfr hw hx =>
  St.wpOne_act ho hf (by rw [wanted_of hfr hg hj hd hv]; simp) hx
theorem nxsl (ho : ops[i]? = some o) (hf : floats o.op = false) (hs : sink i = true) (hg : o.guard = none) : Nx P n l E L o (St.wpOne P ops (Hp E Lst) sink Q [i]) (St.wpOne P ops (Hp E Lst) sink Q []) := fun a w hfr hw hx =>
  St.wpOne_last ho hf hs (by simp [Region.wanted, hg]) hx
theorem nxss (ho : ops[i]? = some o) (hf : floats o.op = false) (hs : sink i = true) (hg : o.guard = none) : Nx P n l E L o (St.wpOne P ops (Hp E Lst) sink Q (i :: is)) (fun a w => ∃ S' : World → Prop, S' w ∧ St.wpOne P ops S' sink Q is a w) := fun a w hfr hw hx =>
  St.wpOne_sink ho hf hs (by simp [Region.wanted, hg]) hx
theorem nxsgs {j : Nat} {b : Bool} {oj : Oper} {d : Nat} (ho : ops[i]? = some o) (hf : floats o.op = false) (hs : sink i = true) (hg : o.guard = some (j, b)) (hj : ops[j]? = some oj) (hd : oj.dst = some d) (hv : lk l d = some (.bool b)) : Nx P n l E L o (St.wpOne P ops (Hp E Lst) sink Q (i :: is)) (fun a w => ∃ S' : World → Prop, S' w ∧ St.wpOne P ops S' sink Q is a w) := fun a w hfr hw hx =>
  St.wpOne_sink ho hf hs (by rw [wanted_of hfr hg hj hd hv]; simp) hx
theorem nxsm (ho : ops[i]? = some o) (hf : floats o.op = false) (hg : o.guard = none) : Nx P n l E L o (St.wpOne P ops (Hp E Lst) sink Q (i :: is)) (fun a w => ∃ S' : World → Prop, (∀ u, S' u → Hp E Lst u) ∧ S' w ∧ St.wpOne P ops S' sink Q is a w) := fun a w hfr hw hx =>
  St.wpOne_more ho hf (by simp [Region.wanted, hg]) hx
theorem nxsgm {j : Nat} {b : Bool} {oj : Oper} {d : Nat} (ho : ops[i]? = some o) (hf : floats o.op = false) (hg : o.guard = some (j, b)) (hj : ops[j]? = some oj) (hd : oj.dst = some d) (hv : lk l d = some (.bool b)) : Nx P n l E L o (St.wpOne P ops (Hp E Lst) sink Q (i :: is)) (fun a w => ∃ S' : World → Prop, (∀ u, S' u → Hp E Lst u) ∧ S' w ∧ St.wpOne P ops S' sink Q is a w) := fun a w hfr hw hx =>
  St.wpOne_more ho hf (by rw [wanted_of hfr hg hj hd hv]; simp) hx
theorem At.moreS {Lst Lst' : List Heaplet} (h1 : Lst.Sublist Lst') (hs : Lst'.Sublist L) (h : At n l E L (St.wpOne P ops (Hp E Lst') sink Q is)) : At n l E L (fun a w => ∃ S' : World → Prop, (∀ u, S' u → Hp E Lst u) ∧ S' w ∧ St.wpOne P ops S' sink Q is a w) := fun a w hf hw => ⟨Hp E Lst', fun _ hu => hu.drop h1, hw.drop hs, h a w hf hw⟩
theorem At.anyS {Lst : List Heaplet} (hs : Lst.Sublist L) (h : At n l E L (St.wpOne P ops (Hp E Lst) sink Q is)) : At n l E L (fun a w => ∃ S' : World → Prop, S' w ∧ St.wpOne P ops S' sink Q is a w) := fun a w hf hw => ⟨Hp E Lst, hw.drop hs, h a w hf hw⟩
/-! A region that draws its order, by a plan. -/
theorem At.planS {id : Nat} {ops : List Oper} (Lst : List Heaplet) (p : Plan) (hm : P.follows .mixedOrders = true) (hB : planOKB .any ops.toArray p = true) (hs : Lst.Sublist L)
    (h : At n l E L (St.wpPlan P ops.toArray (Hp E Lst) Q p)) : At n l E L ((Code.region id ops.toArray true).wp P Q) := fun a w hf hw => St.wp_plan p hm hB (hw.drew.drop hs) (h a w.drew hf hw.drew)
theorem At.pDone {S : World → Prop} (h : At n l E L (Q .normal)) : At n l E L (St.wpPlan P ops S Q .done) := h
theorem At.pNo {S : World → Prop} : At n l E L (St.wpPlan P ops S Q .nofork) := fun _ _ _ _ => trivial
theorem At.fork {S : World → Prop} {i : Nat} {snk : Bool} {p rest : Plan} (h : At n l E L (St.wpFork P ops S Q i snk p)) (hr : At n l E L (St.wpPlan P ops S Q rest)) : At n l E L (St.wpPlan P ops S Q (.fork i snk p rest)) := fun a w hf hw => St.wpPlan_fork (h a w hf hw) (hr a w hf hw)
variable {pl : Plan} {snk : Bool}
theorem nxpf (ho : ops[i]? = some o) (hg : o.guard = none) : NxF P n l E L Lst o (St.wpPlan P ops (Hp E Lst) Q (.take i pl)) (St.wpPlan P ops (Hp E Lst) Q pl) := fun a w v hfr hw hr hy =>
  St.wpPlan_take ho (by simp [Region.wanted, hg]) hr hy
theorem nxpgf {j : Nat} {b : Bool} {oj : Oper} {d : Nat} (ho : ops[i]? = some o) (hg : o.guard = some (j, b)) (hj : ops[j]? = some oj) (hd : oj.dst = some d) (hv : lk l d = some (.bool b)) : NxF P n l E L Lst o (St.wpPlan P ops (Hp E Lst) Q (.take i pl)) (St.wpPlan P ops (Hp E Lst) Q pl) := fun a w v hfr hw hr hy =>
  St.wpPlan_take ho (by rw [wanted_of hfr hg hj hd hv]; simp) hr hy
theorem nxpa (ho : ops[i]? = some o) (hg : o.guard = none) : Nx P n l E L o (St.wpFork P ops (Hp E Lst) Q i snk pl) (fun a w => Hp E Lst w ∧ St.wpPlan P ops (Hp E Lst) Q pl a w) := fun a w hfr hw hx =>
  St.wpFork_act ho (by simp [Region.wanted, hg]) hx
theorem nxpga {j : Nat} {b : Bool} {oj : Oper} {d : Nat} (ho : ops[i]? = some o) (hg : o.guard = some (j, b)) (hj : ops[j]? = some oj) (hd : oj.dst = some d) (hv : lk l d = some (.bool b)) : Nx P n l E L o (St.wpFork P ops (Hp E Lst) Q i snk pl) (fun a w => Hp E Lst w ∧ St.wpPlan P ops (Hp E Lst) Q pl a w) := fun a w hfr hw hx =>
  St.wpFork_act ho (by rw [wanted_of hfr hg hj hd hv]; simp) hx
theorem nxpl (ho : ops[i]? = some o) (hg : o.guard = none) : Nx P n l E L o (St.wpFork P ops (Hp E Lst) Q i true .done) (St.wpPlan P ops (Hp E Lst) Q .done) := fun a w hfr hw hx =>
  St.wpFork_last ho (by simp [Region.wanted, hg]) hx
theorem op_pskip {S : World → Prop} {j : Nat} {b c : Bool} {oj : Oper} {d e : Nat} (ho : ops[i]? = some o) (hg : o.guard = some (j, b)) (hj : ops[j]? = some oj) (hd : oj.dst = some d) (hv : lk l d = some (.bool c)) (hc : (c == b) = false) (he : o.dst = some e) (hn : Nat.ble (e + 1) n = true)
    (h : At n ((e, undef) :: l) E L (St.wpPlan P ops S Q pl)) : At n l E L (St.wpPlan P ops S Q (.take i pl)) := fun a w hf hw =>
  St.wpPlan_skip ho (by rw [wanted_of hf hg hj hd hv, hc]) (by rw [he]; exact h _ _ (hf.put (Nat.le_of_ble_eq_true hn)) hw)
theorem op_ppass {S : World → Prop} {j : Nat} {b c : Bool} {oj : Oper} {d e : Nat} (ho : ops[i]? = some o) (hg : o.guard = some (j, b)) (hj : ops[j]? = some oj) (hd : oj.dst = some d) (hv : lk l d = some (.bool c)) (hc : (c == b) = false) (he : o.dst = some e) (hn : Nat.ble (e + 1) n = true)
    (h : At n ((e, undef) :: l) E L (St.wpPlan P ops S Q pl)) : At n l E L (St.wpFork P ops S Q i snk pl) := fun a w hf hw =>
  St.wpFork_pass ho (by rw [wanted_of hf hg hj hd hv, hc]) (by rw [he]; exact h _ _ (hf.put (Nat.le_of_ble_eq_true hn)) hw)
theorem op_sskip {S : World → Prop} {j : Nat} {b c : Bool} {oj : Oper} {d e : Nat} (ho : ops[i]? = some o) (hg : o.guard = some (j, b)) (hj : ops[j]? = some oj) (hd : oj.dst = some d) (hv : lk l d = some (.bool c)) (hc : (c == b) = false) (he : o.dst = some e) (hn : Nat.ble (e + 1) n = true)
    (h : At n ((e, undef) :: l) E L (St.wpOne P ops S sink Q is)) : At n l E L (St.wpOne P ops S sink Q (i :: is)) := fun a w hf hw =>
  St.wpOne_skip ho (by rw [wanted_of hf hg hj hd hv, hc]) (by rw [he]; exact h _ _ (hf.put (Nat.le_of_ble_eq_true hn)) hw)

/-! Operations that give a value and leave the world alone. -/
section
variable {d : Nat} {ty t t' : TypeId} {pos : String} {aft : Array Edge} {g : Option (Nat × Bool)} {v : Value} {x y z : Operand}
theorem op_val (s : NxF P n l E L Ls o X Y) (hr : ∀ a w, Fr n l a → Hp E Ls w → (execOp a.eval o).run P w = .ok (.value v) w) (hd : o.dst = some d) (hn : Nat.ble (d + 1) n = true) (h : At n ((d, v) :: l) E L Y) : At n l E L X := fun a w hf hw =>
  s a w v hf hw (fun w' hw' => hr a w' hf hw') (by rw [hd]; exact h _ _ (hf.put (Nat.le_of_ble_eq_true hn)) hw)
theorem op_move (s : NxF P n l E L Ls ⟨some d, .move x, ty, pos, aft, g⟩ X Y) (hx : ev l x = some v) (hn : Nat.ble (d + 1) n = true) (h : At n ((d, v) :: l) E L Y) : At n l E L X :=
  op_val s (fun a w hf _ => by simp [execOp, hf.eval hx]) rfl hn h
theorem op_assign (s : NxF P n l E L Ls ⟨some d, .assign x, ty, pos, aft, g⟩ X Y) (hx : ev l x = some v) (hn : Nat.ble (d + 1) n = true) (h : At n ((d, v) :: l) E L Y) : At n l E L X :=
  op_val s (fun a w hf _ => by simp [execOp, hf.eval hx]) rfl hn h
theorem op_pickT (s : NxF P n l E L Ls ⟨some d, .pick z x y, ty, pos, aft, g⟩ X Y) (hz : ev l z = some (.bool true)) (hx : ev l x = some v) (hn : Nat.ble (d + 1) n = true) (h : At n ((d, v) :: l) E L Y) : At n l E L X :=
  op_val s (fun a w hf _ => by simp [execOp, hf.eval hz, hf.eval hx, asBool]) rfl hn h
theorem op_pickF (s : NxF P n l E L Ls ⟨some d, .pick z x y, ty, pos, aft, g⟩ X Y) (hz : ev l z = some (.bool false)) (hx : ev l y = some v) (hn : Nat.ble (d + 1) n = true) (h : At n ((d, v) :: l) E L Y) : At n l E L X :=
  op_val s (fun a w hf _ => by simp [execOp, hf.eval hz, hf.eval hx, asBool]) rfl hn h
theorem op_bin {op : BinOp} {vx vy : Value} (s : NxF P n l E L Ls ⟨some d, .binOp op t x y t', ty, pos, aft, g⟩ X Y) (hx : ev l x = some vx) (hy : ev l y = some vy) (hg : ∀ w, (eqGuard op t x y vx vy).run P w = .ok () w) (hr : ∀ w, (binOp op t vx vy).run P w = .ok v w) (hn : Nat.ble (d + 1) n = true) (h : At n ((d, v) :: l) E L Y) : At n l E L X :=
  op_val s (fun a w hf _ => by
    have e : (execOp a.eval ⟨some d, .binOp op t x y t', ty, pos, aft, g⟩) = (do let v ← (do eqGuard op t x y (a.eval x) (a.eval y); binOp op t (a.eval x) (a.eval y)); pure (.value v) : Sem Next) := rfl
    rw [e, hf.eval hx, hf.eval hy, Sem.run_bind, Sem.run_bind, hg w]
    simp [hr]) rfl hn h
theorem eqGuard_int {op : BinOp} {k k' : IntKind} {p q : Int} (w : World) : (eqGuard op t x y (.int k p) (.int k' q)).run P w = .ok () w := by
  unfold eqGuard
  by_cases h : (!(op matches .eql | .neq)) = true <;> simp [h]
variable {k : IntKind} {p q : Int}
theorem op_int {op : BinOp} (s : NxF P n l E L Ls ⟨some d, .binOp op t x y t', ty, pos, aft, g⟩ X Y) (hx : ev l x = some (.int k p)) (hy : ev l y = some (.int k q)) (hr : ∀ w, (binOp op t (.int k p) (.int k q)).run P w = .ok v w) (hn : Nat.ble (d + 1) n = true) (h : At n ((d, v) :: l) E L Y) : At n l E L X :=
  op_bin s hx hy (fun w => eqGuard_int w) hr hn h
theorem op_sh {op : BinOp} {k' : IntKind} (s : NxF P n l E L Ls ⟨some d, .binOp op t x y t', ty, pos, aft, g⟩ X Y) (hx : ev l x = some (.int k p)) (hy : ev l y = some (.int k' q)) (hr : ∀ w, (binOp op t (.int k p) (.int k' q)).run P w = .ok v w) (hn : Nat.ble (d + 1) n = true) (h : At n ((d, v) :: l) E L Y) : At n l E L X :=
  op_bin s hx hy (fun w => eqGuard_int w) hr hn h
/-! comparisons of integers of whatever kind -/
theorem op_eql (s : NxF P n l E L Ls ⟨some d, .binOp .eql t x y t', ty, pos, aft, g⟩ X Y) (hx : ev l x = some (.int k p)) (hy : ev l y = some (.int k q)) (hn : Nat.ble (d + 1) n = true) (h : At n ((d, .bool (decide (p = q))) :: l) E L Y) : At n l E L X :=
  op_int s hx hy (fun w => by simp [binOp, Op.intCmp]; rfl) hn h
theorem op_neq (s : NxF P n l E L Ls ⟨some d, .binOp .neq t x y t', ty, pos, aft, g⟩ X Y) (hx : ev l x = some (.int k p)) (hy : ev l y = some (.int k q)) (hn : Nat.ble (d + 1) n = true) (h : At n ((d, .bool (decide (p ≠ q))) :: l) E L Y) : At n l E L X :=
  op_int s hx hy (fun w => by
    have : (p != q) = decide (p ≠ q) := by rw [bne, show (p == q) = decide (p = q) from rfl, decide_not]
    simp [binOp, Op.intCmp, this]) hn h
theorem op_lss (s : NxF P n l E L Ls ⟨some d, .binOp .lss t x y t', ty, pos, aft, g⟩ X Y) (hx : ev l x = some (.int k p)) (hy : ev l y = some (.int k q)) (hn : Nat.ble (d + 1) n = true) (h : At n ((d, .bool (decide (p < q))) :: l) E L Y) : At n l E L X :=
  op_int s hx hy (fun w => by simp [binOp, Op.intCmp]) hn h
theorem op_leq (s : NxF P n l E L Ls ⟨some d, .binOp .leq t x y t', ty, pos, aft, g⟩ X Y) (hx : ev l x = some (.int k p)) (hy : ev l y = some (.int k q)) (hn : Nat.ble (d + 1) n = true) (h : At n ((d, .bool (decide (p ≤ q))) :: l) E L Y) : At n l E L X :=
  op_int s hx hy (fun w => by simp [binOp, Op.intCmp]) hn h
theorem op_gtr (s : NxF P n l E L Ls ⟨some d, .binOp .gtr t x y t', ty, pos, aft, g⟩ X Y) (hx : ev l x = some (.int k p)) (hy : ev l y = some (.int k q)) (hn : Nat.ble (d + 1) n = true) (h : At n ((d, .bool (decide (q < p))) :: l) E L Y) : At n l E L X :=
  op_int s hx hy (fun w => by simp [binOp, Op.intCmp]) hn h
theorem op_geq (s : NxF P n l E L Ls ⟨some d, .binOp .geq t x y t', ty, pos, aft, g⟩ X Y) (hx : ev l x = some (.int k p)) (hy : ev l y = some (.int k q)) (hn : Nat.ble (d + 1) n = true) (h : At n ((d, .bool (decide (q ≤ p))) :: l) E L Y) : At n l E L X :=
  op_int s hx hy (fun w => by simp [binOp, Op.intCmp]) hn h
/-! int: no sum leaves the range -/
theorem wrap_i64 {a : Int} (h1 : -9223372036854775808 ≤ a) (h2 : a ≤ 9223372036854775807) : IntKind.i64.wrap a = a := by
  unfold IntKind.wrap
  simp only [IntKind.bits, IntKind.signed, Bool.true_and, decide_eq_true_eq, show (2 : Int) ^ 64 = 18446744073709551616 from rfl, show (2 : Int) ^ (64 - 1) = 9223372036854775808 from rfl]
  split <;> omega
theorem op_addI (s : NxF P n l E L Ls ⟨some d, .binOp .add t x y t', ty, pos, aft, g⟩ X Y) (hx : ev l x = some (.int .i64 p)) (hy : ev l y = some (.int .i64 q)) (h1 : -9223372036854775808 ≤ p + q) (h2 : p + q ≤ 9223372036854775807) (hn : Nat.ble (d + 1) n = true) (h : At n ((d, .int .i64 (p + q)) :: l) E L Y) : At n l E L X :=
  op_int s hx hy (fun w => by simp [binOp, Op.intArith, wrap_i64 h1 h2]) hn h
theorem op_subI (s : NxF P n l E L Ls ⟨some d, .binOp .sub t x y t', ty, pos, aft, g⟩ X Y) (hx : ev l x = some (.int .i64 p)) (hy : ev l y = some (.int .i64 q)) (h1 : -9223372036854775808 ≤ p - q) (h2 : p - q ≤ 9223372036854775807) (hn : Nat.ble (d + 1) n = true) (h : At n ((d, .int .i64 (p - q)) :: l) E L Y) : At n l E L X :=
  op_int s hx hy (fun w => by simp [binOp, Op.intArith, wrap_i64 h1 h2]) hn h
theorem op_mulI (s : NxF P n l E L Ls ⟨some d, .binOp .mul t x y t', ty, pos, aft, g⟩ X Y) (hx : ev l x = some (.int .i64 p)) (hy : ev l y = some (.int .i64 q)) (h1 : -9223372036854775808 ≤ p * q) (h2 : p * q ≤ 9223372036854775807) (hn : Nat.ble (d + 1) n = true) (h : At n ((d, .int .i64 (p * q)) :: l) E L Y) : At n l E L X :=
  op_int s hx hy (fun w => by simp [binOp, Op.intArith, wrap_i64 h1 h2]) hn h
theorem op_quoI (s : NxF P n l E L Ls ⟨some d, .binOp .quo t x y t', ty, pos, aft, g⟩ X Y) (hx : ev l x = some (.int .i64 p)) (hy : ev l y = some (.int .i64 q)) (h1 : 0 ≤ p) (h2 : 0 < q) (h3 : p ≤ 9223372036854775807) (hn : Nat.ble (d + 1) n = true) (h : At n ((d, .int .i64 (p / q)) :: l) E L Y) : At n l E L X :=
  op_int s hx hy (fun w => by
    have e : q ≠ 0 := by omega
    have e2 : p / q ≤ p := Int.ediv_le_self _ h1
    have e3 : 0 ≤ p / q := Int.ediv_nonneg h1 (by omega)
    simp [binOp, Op.intDiv, e, Int.tdiv_eq_ediv_of_nonneg h1, wrap_i64 (show -9223372036854775808 ≤ p / q by omega) (by omega)]) hn h
theorem op_rem (s : NxF P n l E L Ls ⟨some d, .binOp .rem t x y t', ty, pos, aft, g⟩ X Y) (hx : ev l x = some (.int k p)) (hy : ev l y = some (.int k q)) (h1 : 0 ≤ p) (h2 : 0 < q) (hn : Nat.ble (d + 1) n = true) (h : At n ((d, .int k (p % q)) :: l) E L Y) : At n l E L X :=
  op_int s hx hy (fun w => by
    have e : q ≠ 0 := by omega
    simp [binOp, Op.intDiv, e, Int.tmod_eq_emod_of_nonneg h1]) hn h
theorem op_remT (s : NxF P n l E L Ls ⟨some d, .binOp .rem t x y t', ty, pos, aft, g⟩ X Y) (hx : ev l x = some (.int k p)) (hy : ev l y = some (.int k q)) (h2 : q ≠ 0) (hn : Nat.ble (d + 1) n = true) (h : At n ((d, .int k (p.tmod q)) :: l) E L Y) : At n l E L X :=
  op_int s hx hy (fun w => by simp [binOp, Op.intDiv, h2]) hn h
/-- The sum, the difference, the product, whatever the kind. -/
theorem op_addW (s : NxF P n l E L Ls ⟨some d, .binOp .add t x y t', ty, pos, aft, g⟩ X Y) (hx : ev l x = some (.int k p)) (hy : ev l y = some (.int k q)) (hn : Nat.ble (d + 1) n = true) (h : At n ((d, .int k (k.wrap (p + q))) :: l) E L Y) : At n l E L X :=
  op_int s hx hy (fun w => by simp [binOp, Op.intArith]) hn h
theorem op_subW (s : NxF P n l E L Ls ⟨some d, .binOp .sub t x y t', ty, pos, aft, g⟩ X Y) (hx : ev l x = some (.int k p)) (hy : ev l y = some (.int k q)) (hn : Nat.ble (d + 1) n = true) (h : At n ((d, .int k (k.wrap (p - q))) :: l) E L Y) : At n l E L X :=
  op_int s hx hy (fun w => by simp [binOp, Op.intArith]) hn h
theorem op_mulW (s : NxF P n l E L Ls ⟨some d, .binOp .mul t x y t', ty, pos, aft, g⟩ X Y) (hx : ev l x = some (.int k p)) (hy : ev l y = some (.int k q)) (hn : Nat.ble (d + 1) n = true) (h : At n ((d, .int k (k.wrap (p * q))) :: l) E L Y) : At n l E L X :=
  op_int s hx hy (fun w => by simp [binOp, Op.intArith]) hn h
theorem op_shlW {k' : IntKind} (s : NxF P n l E L Ls ⟨some d, .binOp .shl t x y t', ty, pos, aft, g⟩ X Y) (hx : ev l x = some (.int k p)) (hy : ev l y = some (.int k' q)) (h1 : 0 ≤ q) (hn : Nat.ble (d + 1) n = true) (h : At n ((d, .int k (k.wrap (p * 2 ^ (min q.toNat k.bits)))) :: l) E L Y) : At n l E L X :=
  op_sh s hx hy (fun w => by simp [binOp, Op.shift, show ¬ q < 0 by omega]) hn h
theorem op_shrW {k' : IntKind} (s : NxF P n l E L Ls ⟨some d, .binOp .shr t x y t', ty, pos, aft, g⟩ X Y) (hx : ev l x = some (.int k p)) (hy : ev l y = some (.int k' q)) (h1 : 0 ≤ q) (h0 : 0 ≤ p) (hn : Nat.ble (d + 1) n = true) (h : At n ((d, .int k (p / 2 ^ (min q.toNat k.bits))) :: l) E L Y) : At n l E L X :=
  op_sh s hx hy (fun w => by simp [binOp, Op.shift, show ¬ q < 0 by omega, Int.fdiv_eq_ediv_of_nonneg p (show (0:Int) ≤ 2 ^ (min q.toNat k.bits) from Int.le_of_lt (Int.pow_pos (by decide)))]) hn h
theorem op_bits {op : BinOp} (hop : op = .and ∨ op = .or ∨ op = .xor ∨ op = .andNot) (s : NxF P n l E L Ls ⟨some d, .binOp op t x y t', ty, pos, aft, g⟩ X Y) (hx : ev l x = some (.int k p)) (hy : ev l y = some (.int k q)) (hn : Nat.ble (d + 1) n = true) (h : At n ((d, .int k (bits op k p q)) :: l) E L Y) : At n l E L X :=
  op_int s hx hy (fun w => by rcases hop with rfl | rfl | rfl | rfl <;> simp [binOp, Op.intBits, bits]) hn h
theorem op_not {b : Bool} (s : NxF P n l E L Ls ⟨some d, .unOp .not t x, ty, pos, aft, g⟩ X Y) (hx : ev l x = some (.bool b)) (hn : Nat.ble (d + 1) n = true) (h : At n ((d, .bool (!b)) :: l) E L Y) : At n l E L X :=
  op_val s (fun a w hf _ => by simp [execOp, hf.eval hx, Op.unary]) rfl hn h
theorem op_notP {b : Prop} [Decidable b] (s : NxF P n l E L Ls ⟨some d, .unOp .not t x, ty, pos, aft, g⟩ X Y) (hx : ev l x = some (.bool (decide b))) (hn : Nat.ble (d + 1) n = true) (h : At n ((d, .bool (decide (¬ b))) :: l) E L Y) : At n l E L X :=
  op_not s hx hn (by rw [← decide_not]; exact h)
theorem op_negI (s : NxF P n l E L Ls ⟨some d, .unOp .neg t x, ty, pos, aft, g⟩ X Y) (hx : ev l x = some (.int .i64 p)) (h1 : -9223372036854775808 ≤ 0 - p) (h2 : 0 - p ≤ 9223372036854775807) (hn : Nat.ble (d + 1) n = true) (h : At n ((d, .int .i64 (0 - p)) :: l) E L Y) : At n l E L X :=
  op_val s (fun a w hf _ => by simp only [execOp, hf.eval hx, Op.unary, Op.intArith, wrap_i64 h1 h2]; rfl) rfl hn h
end
end
end Go.Proofs.YtdplcfineaikjaaDoor
