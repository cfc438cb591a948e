/- A drawn region walked by a plan, where what is read stays as it is (a property S of worlds). No condition. -/
import Derived.Test.YtdplcfineaikjaaDoorDraw4
namespace Go.Proofs.YtdplcfineaikjaaDoor.St
set_option linter.unusedVariables false
set_option linter.unusedSimpArgs false
open Go Go.Proofs.YtdplcfineaikjaaDoor
section
variable {P : Program} {ops : Array Oper} {md : Region.Mode} {S : World → Prop} {Q : Exit → Act → World → Prop}
def wpPlan (P : Program) (ops : Array Oper) (S : World → Prop) (Q : Exit → Act → World → Prop) : Plan → Act → World → Prop
  | .done, a, w => Q .normal a w
  | .take i p, a, w =>
    match ops[i]? with
    | none => False
    | some o =>
      if Region.wanted o (yielded ops a.tmps) then ∃ v, (∀ w', S w' → (execOp a.eval o).run P w' = .ok (.value v) w') ∧ wpPlan P ops S Q p (a.put o.dst v) w
      else wpPlan P ops S Q p (a.put o.dst undef) w
  | .fork i sink p rest, a, w =>
    (match ops[i]? with
     | none => False
     | some o =>
       if Region.wanted o (yielded ops a.tmps) then o.wp P a w (fun a' w' => ((sink = true ∧ p = .done) ∨ S w') ∧ wpPlan P ops S Q p a' w') (fun _ _ _ => False)
       else wpPlan P ops S Q p (a.put o.dst undef) w) ∧ wpPlan P ops S Q rest a w
  | .nofork, _, _ => True
/-- One of those that may act first: its own step is among the plan's. -/
theorem chain_get {i : Nat} : ∀ {p : Plan} {G : Nat → Prop} {a : Act} {w : World}, ChainOK md ops p G → i ∈ p.heads → wpPlan P ops S Q p a w →
    ∃ (snk : Bool) (q : Plan), ((i < ops.size ∧ ¬ G i ∧ DepsIn md ops G i) ∧ (snk = true → ∀ j, G j → ∃ k, With G i k ∧ WaitsOn md ops k j) ∧ PlanOK md ops q (With G i)) ∧
      (match ops[i]? with
       | none => False
       | some o =>
         if Region.wanted o (yielded ops a.tmps) then o.wp P a w (fun a' w' => ((snk = true ∧ q = .done) ∨ S w') ∧ wpPlan P ops S Q q a' w') (fun _ _ _ => False)
         else wpPlan P ops S Q q (a.put o.dst undef) w)
  | .fork c snk q rest, G, a, w => fun hc hi hw => by
    rcases List.mem_cons.1 hi with rfl | hi
    · exact ⟨snk, q, hc.1, hw.1⟩
    · exact chain_get hc.2 hi hw.2
  | .done, _, _, _ => fun hc => hc.elim
  | .take _ _, _, _, _ => fun hc => hc.elim
  | .nofork, _, _, _ => fun _ hi => by cases hi

structure PlanInv (P : Program) (md : Region.Mode) (ops : Array Oper) (S : World → Prop) (Q : Exit → Act → World → Prop) (listed : Array Bool) (pend : List (Nat × Value)) (rem : Plan) (a ag : Act) (w : World) : Prop where
  size : listed.size = ops.size
  closed : ∀ j, listed.getD j false = true → DepsIn md ops (fun k => listed.getD k false = true) j
  apart : ∀ j ∈ pend.map (·.1), j < ops.size ∧ listed.getD j false = false
  nodup : (pend.map (·.1)).Nodup
  fl : ∀ j ∈ pend.map (·.1), FloatsAt ops j
  ord : OrdOK md ops (fun _ => false) (fun k => listed.getD k false = true) (pend.map (·.1))
  plan : PlanOK md ops rem (fun k => listed.getD k false = true ∨ k ∈ pend.map (·.1))
  run : PendRun P ops S a pend ag
  st : (pend = [] ∧ rem = .done) ∨ S w
  wp : wpPlan P ops S Q rem ag w

theorem wpAny_of_plan (hs : ∀ (j : Nat) (oj : Oper), ops[j]? = some oj → NoSel oj) (hp : PairsOK md ops) :
    ∀ (fuel : Nat) (listed : Array Bool) (pend : List (Nat × Value)) (rem : Plan) (a ag : Act) (w : World),
      unl listed ≤ fuel → PlanInv P md ops S Q listed pend rem a ag w → wpAny P md ops Q fuel listed a w := by
  -- nothing is ready: all has been done
  have stop : ∀ (rem : Plan) (listed : Array Bool) (pend : List (Nat × Value)) (a ag : Act) (w : World), PlanInv P md ops S Q listed pend rem a ag w → Region.ready md ops listed = [] → Q .normal a w := by
    intro rem listed pend a ag w I hr
    have hnil : pend = [] := by
      cases pend with
      | nil => rfl
      | cons p pend =>
        have ha := I.apart p.1 (by simp)
        have : p.1 ∈ Region.ready md ops listed := (ready_iff I.size).2 ⟨ha.1, ha.2, I.ord.1⟩
        rw [hr] at this
        cases this
    subst hnil
    have hrun := I.run
    cases hrun
    have hpl := I.plan
    cases rem with
    | done => exact I.wp
    | take i p =>
      have h0 := hpl.1
      have : i ∈ Region.ready md ops listed := (ready_iff I.size).2 ⟨h0.1, by simpa using h0.2.1, h0.2.2.1.mono fun j hj => by simpa using hj⟩
      rw [hr] at this; cases this
    | fork i snk p rest =>
      have h0 := hpl.2.1.1
      have : i ∈ Region.ready md ops listed := (ready_iff I.size).2 ⟨h0.1, by simpa using h0.2.1, h0.2.2.mono fun j hj => by simpa using hj⟩
      rw [hr] at this; cases this
    | nofork => exact hpl.elim
  intro fuel
  induction fuel with
  | zero =>
    intro listed pend rem a ag w hlen I
    have hready : Region.ready md ops listed = [] := by
      cases h : Region.ready md ops listed with
      | nil => rfl
      | cons j l =>
        have hj : j ∈ Region.ready md ops listed := by rw [h]; exact List.mem_cons_self
        obtain ⟨hlt, h0, _⟩ := (ready_iff I.size).1 hj
        rw [unl_zero (by omega) (by rw [I.size]; exact hlt)] at h0; cases h0
    exact ⟨hready, stop _ _ _ _ _ _ I hready⟩
  | succ fuel ih =>
    intro listed pend rem a ag w hlen I
    refine ⟨stop _ _ _ _ _ _ I, ?_⟩
    intro i hi
    obtain ⟨hlt, hun, hd⟩ := (ready_iff I.size).1 hi
    obtain ⟨o, ho⟩ : ∃ o, ops[i]? = some o := ⟨_, Array.getElem?_eq_getElem hlt⟩
    have hil : i < listed.size := by rw [I.size]; exact hlt
    have hcnt : unl (listed.setIfInBounds i true) ≤ fuel := by have := unl_set hil hun; omega
    have hpull : ∀ (pend : List (Nat × Value)) (rem : Plan) (ag : Act), PlanInv P md ops S Q listed pend rem a ag w → i ∈ pend.map (·.1) →
        wpOp P ops Q i (wpAny P md ops Q fuel (listed.setIfInBounds i true)) a w := by
      intro pend rem ag I hm
      obtain ⟨⟨i', v⟩, hmem, rfl⟩ := List.mem_map.1 hm
      obtain ⟨pre, post, rfl⟩ := List.append_of_mem hmem
      dsimp only at *
      have hord := I.ord
      have hnd := I.nodup
      simp only [List.map_append, List.map_cons] at hord hnd
      have hn : i' ∉ pre.map (·.1) := by
        intro hh
        have := List.nodup_append.1 hnd
        exact this.2.2 i' hh i' List.mem_cons_self rfl
      have hpre : ∀ j ∈ pre.map (·.1), listed.getD j false = false := fun j hj => (I.apart j (by simp only [List.map_append]; exact List.mem_append_left _ hj)).2
      obtain ⟨h1, h2⟩ := PendRun.pull ho hs pre (apartPre' hp ho hd hpre hn (hord.noWait _ (by simp [hun]) hn)) I.run
      have hSw : S w := I.st.resolve_left (by rintro ⟨h, _⟩; simp at h)
      refine h1.wpOp hSw ho ?_
      refine ih _ (pre ++ post) rem _ ag w hcnt ?_
      have hsub : ∀ j, j ∈ (pre ++ post).map (·.1) → j ∈ (pre ++ (i', v) :: post).map (·.1) ∧ j ≠ i' := by
        intro j hj
        simp only [List.map_append, List.map_cons] at hj ⊢
        refine ⟨?_, ?_⟩
        · rcases List.mem_append.1 hj with h | h
          · exact List.mem_append_left _ h
          · exact List.mem_append_right _ (List.mem_cons_of_mem _ h)
        · rintro rfl
          have hnd2 := List.nodup_append.1 hnd
          rcases List.mem_append.1 hj with h | h
          · exact hn h
          · exact (List.nodup_cons.1 hnd2.2.1).1 h
      refine ⟨by simpa using I.size, closed_set I.size hlt I.closed hd, ?_, ?_, ?_, ?_, ?_, h2, .inr hSw, I.wp⟩
      · intro j hj
        obtain ⟨h1, h2⟩ := hsub j hj
        refine ⟨(I.apart j h1).1, ?_⟩
        rw [getD_set_ne false (Ne.symm h2)]
        exact (I.apart j h1).2
      · simp only [List.map_append]
        exact (List.nodup_cons.1 ((List.Perm.nodup_iff List.perm_middle).1 hnd)).2
      · intro j hj
        exact I.fl j (hsub j hj).1
      · have := OrdOK.pull (pre.map (·.1)) (fun j hj => I.fl j (by simp only [List.map_append]; exact List.mem_append_left _ hj)) hd hord
        simp only [List.map_append]
        exact OrdOK.congr (fun j => (getD_setIf hil).symm) this
      · refine PlanOK.congr (fun j => ?_) I.plan
        rw [getD_setIf hil]
        simp only [With, List.map_append, List.map_cons, List.mem_append, List.mem_cons]
        constructor
        · rintro (h | h | h | h)
          · exact .inl (.inl h)
          · exact .inr (.inl h)
          · exact .inl (.inr h)
          · exact .inr (.inr h)
        · rintro ((h | h) | h | h)
          · exact .inl h
          · exact .inr (.inr (.inl h))
          · exact .inr (.inl h)
          · exact .inr (.inr (.inr h))
    have hact : ∀ (pend : List (Nat × Value)) (rem : Plan) (ag : Act), PlanInv P md ops S Q listed pend rem a ag w → S w → i ∉ pend.map (·.1) →
        (∃ (snk : Bool) (q : Plan), ((i < ops.size ∧ ¬ (listed.getD i false = true ∨ i ∈ pend.map (·.1)) ∧ DepsIn md ops (fun k => listed.getD k false = true ∨ k ∈ pend.map (·.1)) i) ∧
            (snk = true → ∀ j, (listed.getD j false = true ∨ j ∈ pend.map (·.1)) → ∃ k, With (fun k => listed.getD k false = true ∨ k ∈ pend.map (·.1)) i k ∧ WaitsOn md ops k j) ∧
            PlanOK md ops q (With (fun k => listed.getD k false = true ∨ k ∈ pend.map (·.1)) i)) ∧
          (match ops[i]? with
           | none => False
           | some o =>
             if Region.wanted o (yielded ops ag.tmps) then o.wp P ag w (fun a' w' => ((snk = true ∧ q = .done) ∨ S w') ∧ wpPlan P ops S Q q a' w') (fun _ _ _ => False)
             else wpPlan P ops S Q q (ag.put o.dst undef) w)) →
        wpOp P ops Q i (wpAny P md ops Q fuel (listed.setIfInBounds i true)) a w := by
      intro pend rem ag I hSw him ⟨snk, q, ⟨_, hsink, hq⟩, hwp⟩
      simp only [ho] at hwp
      have hpre : ∀ j ∈ pend.map (·.1), listed.getD j false = false := fun j hj => (I.apart j hj).2
      have hap := apartPre' hp ho hd hpre him (I.ord.noWait' _ (by simp [hun]) him)
      obtain ⟨e1, e2, e3⟩ := PendRun.push hs (hs i o ho) I.run hap
      have hnil : snk = true → pend = [] := fun hsa => by
        rcases List.eq_nil_or_concat pend with h | ⟨pre, ⟨j, u⟩, h⟩
        · exact h
        · exfalso
          rw [List.concat_eq_append] at h
          subst h
          have hjm : j ∈ (pre ++ [(j, u)]).map (·.1) := by simp
          have hju := hpre j hjm
          obtain ⟨k, hk, hwt⟩ := hsink hsa j (.inr hjm)
          have hord := I.ord
          have hnd := I.nodup
          simp only [List.map_append, List.map_cons, List.map_nil] at hord hnd
          have hjn : j ∉ pre.map (·.1) := fun hh => (List.nodup_append.1 hnd).2.2 j hh j List.mem_cons_self rfl
          have hself : ¬ WaitsOn md ops j j := by
            intro hh
            obtain ⟨o', ho', e, he, hb, heq⟩ := hh
            have h0 := (OrdOK.at (pre.map (·.1)) hord).1 o' ho' e he hb
            rw [heq] at h0
            rcases h0 with h0 | h0
            · rw [hju] at h0; cases h0
            · exact hjn h0
          obtain ⟨o', ho', e, he, hb, heq⟩ := hwt
          rcases hk with (hk | hk) | hk
          · have := I.closed k hk o' ho' e he hb
            rw [heq, hju] at this; cases this
          · simp only [List.map_append, List.map_cons, List.map_nil, List.mem_append, List.mem_singleton] at hk
            rcases hk with hk | hk
            · exact hord.noWait _ (by simp [hju]) hjn k hk ⟨o', ho', e, he, hb, heq⟩
            · subst hk; exact hself ⟨o', ho', e, he, hb, heq⟩
          · subst hk
            have := hd o' ho' e he hb
            rw [heq, hju] at this; cases this
      have hstep : ∀ w', ((snk = true ∧ q = .done) ∨ S w') → ∀ a' ag', wpPlan P ops S Q q ag' w' → PendRun P ops S a' pend ag' → wpAny P md ops Q fuel (listed.setIfInBounds i true) a' w' := by
        intro w' hsa a' ag' hw' hrun'
        have hrun2 := hrun'
        have hSt : (pend = [] ∧ q = .done) ∨ S w' := hsa.imp (fun h => ⟨hnil h.1, h.2⟩) id
        refine ih _ pend q a' ag' w' hcnt ?_
        have hne : ∀ j ∈ pend.map (·.1), j ≠ i := fun j hj e => him (e ▸ hj)
        refine ⟨by simpa using I.size, closed_set I.size hlt I.closed hd, ?_, I.nodup, I.fl, ?_, ?_, hrun2, hSt, hw'⟩
        · intro j hj
          refine ⟨(I.apart j hj).1, ?_⟩
          rw [getD_set_ne false (Ne.symm (hne j hj))]
          exact (I.apart j hj).2
        · have hup : ∀ (l : List Nat) {G G' : Nat → Prop}, (∀ j, G j → G' j) → (∀ j ∈ l, FloatsAt ops j) → OrdOK md ops (fun _ => false) G l → OrdOK md ops (fun _ => false) G' l := by
            intro l
            induction l with
            | nil => intro G G' _ _ _; trivial
            | cons j l ihl =>
              intro G G' hG hf h
              exact ⟨h.1.mono hG, .inl (hf j List.mem_cons_self), ihl (fun k hk => hk.imp (hG k) id) (fun k hk => hf k (List.mem_cons_of_mem _ hk)) h.2.2⟩
          exact hup _ (fun j hj => (getD_setIf hil).2 (.inl hj)) I.fl I.ord
        · refine PlanOK.congr (fun j => ?_) hq
          rw [getD_setIf hil]
          simp only [With]
          constructor
          · rintro ((h | h) | h)
            · exact .inl (.inl h)
            · exact .inr h
            · exact .inl (.inr h)
          · rintro ((h | h) | h)
            · exact .inl (.inl h)
            · exact .inr h
            · exact .inl (.inr h)
      unfold Go.wpOp
      simp only [ho]
      by_cases hw : Region.wanted o (yielded ops ag.tmps) = true
      · rw [if_pos hw] at hwp
        rw [← e2, if_pos hw]
        left
        unfold Oper.wp at hwp ⊢
        rw [e1] at hwp
        refine upon_carry (fun v w' hk => ?_) (fun d w' hk => ?_) hwp
        · exact hstep w' hk.1 _ _ hk.2 (e3 v)
        · exact hstep w' hk.1 _ _ hk.2 ((PendRun.push hs (hs i o ho) (I.run.defers d) hap).2.2 undef)
      · rw [if_neg hw] at hwp
        rw [← e2, if_neg hw]
        exact hstep w (.inr hSw) _ _ hwp (e3 undef)
    have hgo : ∀ (rem : Plan) (pend : List (Nat × Value)) (ag : Act), PlanInv P md ops S Q listed pend rem a ag w →
        wpOp P ops Q i (wpAny P md ops Q fuel (listed.setIfInBounds i true)) a w := by
      intro rem
      induction rem with
      | done =>
        intro pend ag I
        rcases I.plan i hlt with h | h
        · rw [hun] at h; cases h
        · exact hpull pend .done ag I h
      | nofork => intro pend ag I; exact I.plan.elim
      | take c p ihp =>
        intro pend ag I
        obtain ⟨⟨hc1, hc2, hc3, hc4⟩, hpl⟩ := I.plan
        obtain ⟨oc, hoc⟩ : ∃ oc, ops[c]? = some oc := ⟨_, Array.getElem?_eq_getElem hc1⟩
        have hwp := I.wp
        simp only [wpPlan, hoc] at hwp
        have hnext : ∃ v, RunsNow P ops S oc ag v ∧ wpPlan P ops S Q p (ag.put oc.dst v) w := by
          by_cases hw : Region.wanted oc (yielded ops ag.tmps) = true
          · rw [if_pos hw] at hwp
            obtain ⟨v, h1, h2⟩ := hwp
            exact ⟨v, .inl ⟨hw, h1⟩, h2⟩
          · rw [if_neg hw] at hwp
            exact ⟨undef, .inr ⟨by simpa using hw, rfl⟩, hwp⟩
        obtain ⟨v, hrn, hwp'⟩ := hnext
        have e : (pend ++ [(c, v)]).map (·.1) = pend.map (·.1) ++ [c] := by simp
        refine ihp (pend ++ [(c, v)]) (ag.put oc.dst v) ⟨I.size, I.closed, ?_, ?_, ?_, ?_, ?_, I.run.snoc hoc hrn, .inr (I.st.resolve_left (by rintro ⟨_, h⟩; cases h)), hwp'⟩
        · rw [e]; intro j hj
          rcases List.mem_append.1 hj with h | h
          · exact I.apart j h
          · simp at h; subst h; exact ⟨hc1, by simpa using fun h => hc2 (.inl h)⟩
        · rw [e]
          refine List.nodup_append.2 ⟨I.nodup, by simp, fun x hx y hy => ?_⟩
          simp at hy; subst hy
          intro e; subst e; exact hc2 (.inr hx)
        · rw [e]; intro j hj
          rcases List.mem_append.1 hj with h | h
          · exact I.fl j h
          · simp at h; subst h; exact hc4
        · rw [e]; exact I.ord.snoc _ hc3 hc4
        · refine PlanOK.congr (fun j => ?_) hpl
          rw [e]
          simp only [With, List.mem_append, List.mem_singleton, or_assoc]
      | fork c snk p rest _ _ =>
        intro pend ag I
        by_cases him : i ∈ pend.map (·.1)
        · exact hpull pend _ ag I him
        · refine hact pend _ ag I (I.st.resolve_left (by rintro ⟨_, h⟩; cases h)) him ?_
          obtain ⟨hall, hone, hrest⟩ := I.plan
          have hmem := hall i hlt (by simp only [not_or]; exact ⟨by simp [hun], him⟩) (hd.mono fun j hj => .inl hj)
          have hchain : ChainOK md ops (.fork c snk p rest) (fun k => listed.getD k false = true ∨ k ∈ pend.map (·.1)) := ⟨hone, hrest⟩
          exact chain_get hchain hmem I.wp
    exact hgo rem pend ag I

theorem wp_plan {id : Nat} {a : Act} {w : World} {l : List Oper} (p : Plan) (hm : P.follows .mixedOrders = true) (hB : planOKB .any l.toArray p = true) (hS : S w.drew)
    (h : wpPlan P l.toArray S Q p a w.drew) : (Code.region id l.toArray true).wp P Q a w := by
  simp only [planOKB, Bool.and_eq_true] at hB
  obtain ⟨⟨hsel, hpair⟩, hplan⟩ := hB
  refine wp_region_any hm ?_
  have hrep : ∀ j, (Array.replicate l.toArray.size false).getD j false = false := by
    intro j
    rw [Array.getD_eq_getD_getElem?, Array.getElem?_replicate]
    split <;> rfl
  refine wpAny_of_plan (fun j oj hj cs b => Region.noSelect_spec hsel j oj cs b hj) (pairsB_spec hpair) _ _ [] p a a _ ?_ ⟨by simp, ?_, by simp, by simp, by simp, trivial, ?_, .nil _, .inr hS, h⟩
  · unfold unl
    rw [Array.toList_replicate, List.count_replicate]
    simp
  · intro j hj
    rw [hrep] at hj; cases hj
  · exact PlanOK.congr (fun j => by simp) ((planB_spec p).1 _ (by simp) hplan)

/-- What acts first. -/
def wpFork (P : Program) (ops : Array Oper) (S : World → Prop) (Q : Exit → Act → World → Prop) (i : Nat) (sink : Bool) (p : Plan) (a : Act) (w : World) : Prop :=
  match ops[i]? with
     | none => False
     | some o =>
       if Region.wanted o (yielded ops a.tmps) then o.wp P a w (fun a' w' => ((sink = true ∧ p = .done) ∨ S w') ∧ wpPlan P ops S Q p a' w') (fun _ _ _ => False)
       else wpPlan P ops S Q p (a.put o.dst undef) w
section
variable {a : Act} {w : World} {i : Nat} {p rest : Plan} {o : Oper} {snk : Bool}
theorem wpPlan_fork (h : wpFork P ops S Q i snk p a w) (hr : wpPlan P ops S Q rest a w) : wpPlan P ops S Q (.fork i snk p rest) a w := ⟨h, hr⟩
theorem wpPlan_take {v : Value} (ho : ops[i]? = some o) (hw : Region.wanted o (yielded ops a.tmps) = true) (hr : ∀ w', S w' → (execOp a.eval o).run P w' = .ok (.value v) w') (h : wpPlan P ops S Q p (a.put o.dst v) w) : wpPlan P ops S Q (.take i p) a w := by
  simp only [wpPlan, ho, if_pos hw]
  exact ⟨v, hr, h⟩
theorem wpPlan_skip (ho : ops[i]? = some o) (hw : Region.wanted o (yielded ops a.tmps) = false) (h : wpPlan P ops S Q p (a.put o.dst undef) w) : wpPlan P ops S Q (.take i p) a w := by
  simp only [wpPlan, ho, hw]
  exact h
theorem wpFork_act (ho : ops[i]? = some o) (hw : Region.wanted o (yielded ops a.tmps) = true) (h : o.wp P a w (fun a' w' => S w' ∧ wpPlan P ops S Q p a' w') (fun _ _ _ => False)) : wpFork P ops S Q i snk p a w := by
  simp only [wpFork, ho, if_pos hw]
  exact Oper.wp_mono (fun _ _ h => ⟨.inr h.1, h.2⟩) h
theorem wpFork_last (ho : ops[i]? = some o) (hw : Region.wanted o (yielded ops a.tmps) = true) (h : o.wp P a w (wpPlan P ops S Q .done) (fun _ _ _ => False)) : wpFork P ops S Q i true .done a w := by
  simp only [wpFork, ho, if_pos hw]
  exact Oper.wp_mono (fun _ _ h => ⟨.inl (by simp), h⟩) h
theorem wpFork_pass (ho : ops[i]? = some o) (hw : Region.wanted o (yielded ops a.tmps) = false) (h : wpPlan P ops S Q p (a.put o.dst undef) w) : wpFork P ops S Q i snk p a w := by
  simp only [wpFork, ho, hw]
  exact h
end
end
end Go.Proofs.YtdplcfineaikjaaDoor.St
