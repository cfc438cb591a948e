/- Several texts in one: see the remarks ahead of each part. No condition but those told there. -/
import Derived.Test.YtalmjkcapecpiaaGreatX1
import Derived.Lib.BitFns
import Derived.WalkKit
set_option linter.unusedSimpArgs false
set_option linter.unusedVariables false
namespace Go.Proofs.YtalmjkcapecpiaaGreat
open Go
variable {P : Program} {ops : Array Oper} {md : Region.Mode} {Q : Exit → Act → World → Prop} {sink : Nat → Bool}
inductive Plan where
 |done
 |take (i:Nat) (p:Plan)
 |fork (i:Nat) (sink:Bool) (p rest:Plan)
 |nofork
def wpPlan (P:Program) (ops:Array Oper) (Q:Exit→Act→World→Prop):Plan→Act→World→Prop
 |.done,a,w=>Q .normal a w
 |.take i p,a,w=>
  match ops[i]? with
  |none=>False
  |some o=>
   if Region.wanted o (yielded ops a.tmps)then floatOK P o.op a.eval=true∧o.wp P a w (wpPlan P ops Q p) (fun _ _ _=>False)
   else wpPlan P ops Q p (a.put o.dst undef) w
 |.fork i sink p rest,a,w=>
  (match ops[i]? with
   |none=>False
   |some o=>
    if Region.wanted o (yielded ops a.tmps)then o.wp P a w (fun a' w'=>(sink=true∨Agree w w')∧wpPlan P ops Q p a' w') (fun _ _ _=>False)
    else wpPlan P ops Q p (a.put o.dst undef) w)∧wpPlan P ops Q rest a w
 |.nofork,_,_=>True
def Plan.heads:Plan→List Nat
 |.fork i _ _ rest=>i::rest.heads
 |_=> []
mutual
def PlanOK (md:Region.Mode) (ops:Array Oper):Plan→(Nat→Prop)→Prop
 |.done,G=> ∀j,j<ops.size→G j
 |.take i p,G=>(i<ops.size∧ ¬G i∧DepsIn md ops G i∧FloatsAt ops i)∧PlanOK md ops p (With G i)
 |.fork i snk p rest,G=>(∀j,j<ops.size→ ¬G j→DepsIn md ops G j→j∈i::rest.heads)∧
  ((i<ops.size∧ ¬G i∧DepsIn md ops G i)∧(snk=true→ ∀j,G j→ ∃k,With G i k∧WaitsOn md ops k j)∧PlanOK md ops p (With G i))∧ChainOK md ops rest G
 |.nofork,_=>False
def ChainOK (md:Region.Mode) (ops:Array Oper):Plan→(Nat→Prop)→Prop
 |.fork i snk p rest,G=>((i<ops.size∧ ¬G i∧DepsIn md ops G i)∧(snk=true→ ∀j,G j→ ∃k,With G i k∧WaitsOn md ops k j)∧PlanOK md ops p (With G i))∧ChainOK md ops rest G
 |.nofork,_=>True
 |_,_=>False
end
theorem PlanOK.congr {p:Plan} {G G':Nat→Prop} (h: ∀j,G j↔G' j) (hp:PlanOK md ops p G):PlanOK md ops p G':=by
 have:G=G':=funext fun j=>propext (h j)
 rwa [←this]
theorem chain_get {i:Nat} : ∀ {p:Plan} {G:Nat→Prop} {a:Act} {w:World},ChainOK md ops p G→i∈p.heads→wpPlan P ops Q p a w→
 ∃(snk:Bool) (q:Plan),((i<ops.size∧ ¬G i∧DepsIn md ops G i)∧(snk=true→ ∀j,G j→ ∃k,With G i k∧WaitsOn md ops k j)∧PlanOK md ops q (With G i))∧
  (match ops[i]? with
   |none=>False
   |some o=>
    if Region.wanted o (yielded ops a.tmps)then o.wp P a w (fun a' w'=>(snk=true∨Agree w w')∧wpPlan P ops Q q a' w') (fun _ _ _=>False)
    else wpPlan P ops Q q (a.put o.dst undef) w)
 |.fork c snk q rest,G,a,w=>fun hc hi hw=>by
  rcases List.mem_cons.1 hi with rfl|hi
  ·exact⟨snk,q,hc.1,hw.1⟩
  ·exact chain_get hc.2 hi hw.2
 |.done,_,_,_=>fun hc=>hc.elim
 |.take _ _,_,_,_=>fun hc=>hc.elim
 |.nofork,_,_,_=>fun _ hi=>by cases hi
structure PlanInv (P:Program) (md:Region.Mode) (ops:Array Oper) (Q:Exit→Act→World→Prop) (listed:Array Bool) (pend:List (Nat×Value)) (rem:Plan) (a ag:Act) (w:World):Prop where
 size:listed.size=ops.size
 closed: ∀j,listed.getD j false=true→DepsIn md ops (fun k=>listed.getD k false=true) j
 apart: ∀j∈pend.map (·.1),j<ops.size∧listed.getD j false=false
 nodup:(pend.map (·.1)).Nodup
 fl: ∀j∈pend.map (·.1),FloatsAt ops j
 ord:OrdOK md ops (fun _=>false) (fun k=>listed.getD k false=true) (pend.map (·.1))
 plan:PlanOK md ops rem (fun k=>listed.getD k false=true∨k∈pend.map (·.1))
 run:PendRun P ops w a pend ag
 wp:wpPlan P ops Q rem ag w
theorem OrdOK.noWait' {i:Nat} : ∀(pre:List Nat) {G:Nat→Prop}, ¬G i→i∉pre→OrdOK md ops sink G pre→ ∀j∈pre, ¬WaitsOn md ops j i:=by
 intro pre
 induction pre with
 |nil=>intro G _ _ _ j hj;cases hj
 |cons p pre ih=>
  intro G hG hn h j hj hw
  rcases List.mem_cons.1 hj with rfl|hj
  ·obtain⟨o,ho,e,he,hb,rfl⟩:=hw
   exact hG (h.1 o ho e he hb)
  ·refine ih (G:=With G p) (fun hh=>?_) (fun hh=>hn (List.mem_cons_of_mem _ hh)) h.2.2 j hj hw
   rcases hh with hh|hh
   ·exact hG hh
   ·exact hn (by rw [hh];exact List.mem_cons_self)
theorem OrdOK.snoc {c:Nat} : ∀(pre:List Nat) {G:Nat→Prop},OrdOK md ops sink G pre→DepsIn md ops (fun k=>G k∨k∈pre) c→FloatsAt ops c→OrdOK md ops sink G (pre++ [c]):=by
 intro pre
 induction pre with
 |nil=>intro G _ hd hf;exact⟨hd.mono (fun j hj=>by simpa using hj),.inl hf,trivial⟩
 |cons p pre ih=>
  intro G h hd hf
  refine⟨h.1,h.2.1,ih h.2.2 (hd.mono fun j hj=>?_) hf⟩
  simp only [With,List.mem_cons]at hj⊢
  rcases hj with hj|hj|hj
  ·exact .inl (.inl hj)
  ·exact .inl (.inr hj)
  ·exact .inr hj
def unl (listed:Array Bool):Nat:=listed.toList.count false
theorem unl_set {listed:Array Bool} {i:Nat} (hi:i<listed.size) (h:listed.getD i false=false):unl (listed.setIfInBounds i true)+1=unl listed:=by
 have h0:listed[i]=false:=by simpa [Array.getD,hi]using h
 unfold unl
 have this:listed.toList[i]'(by simpa using hi)=false:=by simpa using h0
 have hp:0<listed.toList.count false:=by
  rw [List.count_pos_iff];rw [←this];exact List.getElem_mem _
 rw [Array.toList_setIfInBounds,List.count_set (by simpa using hi),this]
 show listed.toList.count false- 1+0+1=_
 omega
theorem unl_zero {listed:Array Bool} (h:unl listed=0) {j:Nat} (hj:j<listed.size):listed.getD j false=true:=by
 unfold unl at h
 rw [List.count_eq_zero]at h
 have:listed[j]∈listed.toList:=by rw [Array.mem_toList_iff];exact Array.getElem_mem hj
 simp only [Array.getD,hj,dite_true]
 cases hx:listed[j]with
 |true=>simp [hx]
 |false=>rw [hx]at this;exact absurd this h
theorem apartPre' {listed:Array Bool} {pre:List (Nat×Value)} {i:Nat} {o:Oper} (hp:PairsOK md ops) (hi:ops[i]? =some o)
 (hd:DepsIn md ops (fun k=>listed.getD k false=true) i) (hpre: ∀j∈pre.map (·.1),listed.getD j false=false) (hn:i∉pre.map (·.1))
 (hnw: ∀j∈pre.map (·.1), ¬WaitsOn md ops j i): ∀p∈pre, ∀oj,ops[p.1]? =some oj→oj.apart ops o=true:=by
 intro p hpp oj hoj
 have hpm:p.1∈pre.map (·.1):=List.mem_map_of_mem hpp
 have hne:p.1≠i:=fun e=>hn (e▸hpm)
 rcases hp p.1 i oj o hoj hi hne with h|h|h
 ·exact h
 ·exact absurd h (hnw p.1 hpm)
 ·obtain⟨o',ho',e,he,hb,heq⟩:=h
  have:=hd o' ho' e he hb
  rw [heq,hpre _ hpm]at this
  cases this
theorem wpAny_of_plan (hs: ∀(j:Nat) (oj:Oper),ops[j]? =some oj→NoSel oj) (hp:PairsOK md ops):
 ∀(fuel:Nat) (listed:Array Bool) (pend:List (Nat×Value)) (rem:Plan) (a ag:Act) (w:World),
  unl listed≤fuel→PlanInv P md ops Q listed pend rem a ag w→wpAny P md ops Q fuel listed a w:=by
 -- nothing is ready: all has been done
 have stop: ∀(rem:Plan) (listed:Array Bool) (pend:List (Nat×Value)) (a ag:Act) (w:World),PlanInv P md ops Q listed pend rem a ag w→Region.ready md ops listed= []→Q .normal a w:=by
  intro rem listed pend a ag w I hr
  have hnil:pend= []:=by
   cases pend with
   |nil=>rfl
   |cons p pend=>
    have ha:=I.apart p.1 (by simp)
    have:p.1∈Region.ready md ops listed:=(ready_iff I.size).2 ⟨ha.1,ha.2,I.ord.1⟩
    rw [hr]at this
    cases this
  subst hnil
  have hrun:=I.run
  cases hrun
  have hpl:=I.plan
  cases rem with
  |done=>exact I.wp
  |take i p=>
   have h0:=hpl.1
   have:i∈Region.ready md ops listed:=(ready_iff I.size).2 ⟨h0.1,by simpa using h0.2.1,h0.2.2.1.mono fun j hj=>by simpa using hj⟩
   rw [hr]at this;cases this
  |fork i snk p rest=>
   have h0:=hpl.2.1.1
   have:i∈Region.ready md ops listed:=(ready_iff I.size).2 ⟨h0.1,by simpa using h0.2.1,h0.2.2.mono fun j hj=>by simpa using hj⟩
   rw [hr]at this;cases this
  |nofork=>exact hpl.elim
 intro fuel
 induction fuel with
 |zero=>
  intro listed pend rem a ag w hlen I
  have hready:Region.ready md ops listed= []:=by
   cases h:Region.ready md ops listed with
   |nil=>rfl
   |cons j l=>
    have hj:j∈Region.ready md ops listed:=by rw [h];exact List.mem_cons_self
    obtain⟨hlt,h0,_⟩:=(ready_iff I.size).1 hj
    rw [unl_zero (by omega) (by rw [I.size];exact hlt)]at h0;cases h0
  exact⟨hready,stop _ _ _ _ _ _ I hready⟩
 |succ fuel ih=>
  intro listed pend rem a ag w hlen I
  refine⟨stop _ _ _ _ _ _ I,?_⟩
  intro i hi
  obtain⟨hlt,hun,hd⟩:=(ready_iff I.size).1 hi
  obtain⟨o,ho⟩: ∃o,ops[i]? =some o:=⟨_,Array.getElem?_eq_getElem hlt⟩
  have hil:i<listed.size:=by rw [I.size];exact hlt
  have hcnt:unl (listed.setIfInBounds i true)≤fuel:=by have:=unl_set hil hun;omega
  have hpull: ∀(pend:List (Nat×Value)) (rem:Plan) (ag:Act),PlanInv P md ops Q listed pend rem a ag w→i∈pend.map (·.1)→
   wpOp P ops Q i (wpAny P md ops Q fuel (listed.setIfInBounds i true)) a w:=by
   intro pend rem ag I hm
   obtain⟨⟨i',v⟩,hmem,rfl⟩:=List.mem_map.1 hm
   obtain⟨pre,post,rfl⟩:=List.append_of_mem hmem
   dsimp only at*
   have hord:=I.ord
   have hnd:=I.nodup
   simp only [List.map_append,List.map_cons]at hord hnd
   have hn:i'∉pre.map (·.1):=by
    intro hh
    have:=List.nodup_append.1 hnd
    exact this.2.2 i' hh i' List.mem_cons_self U
   have hpre: ∀j∈pre.map (·.1),listed.getD j false=false:=fun j hj=>(I.apart j (by simp only [List.map_append];exact List.mem_append_left _ hj)).2
   obtain⟨h1,h2⟩:=PendRun.pull ho hs pre (apartPre' hp ho hd hpre hn (hord.noWait _ (by simp [hun]) hn)) I.run
   refine h1.wpOp ho (ih _ (pre++post) rem _ ag w hcnt ?_)
   have hsub: ∀j,j∈(pre++post).map (·.1)→j∈(pre++(i',v)::post).map (·.1)∧j≠i':=by
    intro j hj
    simp only [List.map_append,List.map_cons]at hj⊢
    refine⟨?_,?_⟩
    ·rcases List.mem_append.1 hj with h|h
     ·exact List.mem_append_left _ h
     ·exact List.mem_append_right _ (List.mem_cons_of_mem _ h)
    ·rintro rfl
     have hnd2:=List.nodup_append.1 hnd
     rcases List.mem_append.1 hj with h|h
     ·exact hn h
     ·exact(List.nodup_cons.1 hnd2.2.1).1 h
   refine⟨by simpa using I.size,closed_set I.size hlt I.closed hd,?_,?_,?_,?_,?_,h2,I.wp⟩
   ·intro j hj
    obtain⟨h1,h2⟩:=hsub j hj
    refine⟨(I.apart j h1).1,?_⟩
    rw [getD_set_ne false (Ne.symm h2)]
    exact(I.apart j h1).2
   ·simp only [List.map_append]
    exact(List.nodup_cons.1 ((List.Perm.nodup_iff List.perm_middle).1 hnd)).2
   ·intro j hj
    exact I.fl j (hsub j hj).1
   ·have:=OrdOK.pull (pre.map (·.1)) (fun j hj=>I.fl j (by simp only [List.map_append];exact List.mem_append_left _ hj)) hd hord
    simp only [List.map_append]
    exact OrdOK.congr (fun j=>(getD_setIf hil).symm) this
   ·refine PlanOK.congr (fun j=>?_) I.plan
    rw [getD_setIf hil]
    simp only [With,List.map_append,List.map_cons,List.mem_append,List.mem_cons]
    constructor
    ·rintro(h|h|h|h)
     ·exact .inl (.inl h)
     ·exact .inr (.inl h)
     ·exact .inl (.inr h)
     ·exact .inr (.inr h)
    ·rintro((h|h)|h|h)
     ·exact .inl h
     ·exact .inr (.inr (.inl h))
     ·exact .inr (.inl h)
     ·exact .inr (.inr (.inr h))
  have hact: ∀(pend:List (Nat×Value)) (rem:Plan) (ag:Act),PlanInv P md ops Q listed pend rem a ag w→i∉pend.map (·.1)→
   (∃(snk:Bool) (q:Plan),((i<ops.size∧ ¬(listed.getD i false=true∨i∈pend.map (·.1))∧DepsIn md ops (fun k=>listed.getD k false=true∨k∈pend.map (·.1)) i)∧
    (snk=true→ ∀j,(listed.getD j false=true∨j∈pend.map (·.1))→ ∃k,With (fun k=>listed.getD k false=true∨k∈pend.map (·.1)) i k∧WaitsOn md ops k j)∧
    PlanOK md ops q (With (fun k=>listed.getD k false=true∨k∈pend.map (·.1)) i))∧
    (match ops[i]? with
     |none=>False
     |some o=>
      if Region.wanted o (yielded ops ag.tmps)then o.wp P ag w (fun a' w'=>(snk=true∨Agree w w')∧wpPlan P ops Q q a' w') (fun _ _ _=>False)
      else wpPlan P ops Q q (ag.put o.dst undef) w))→
   wpOp P ops Q i (wpAny P md ops Q fuel (listed.setIfInBounds i true)) a w:=by
   intro pend rem ag I him ⟨snk,q,⟨_,hsink,hq⟩,hwp⟩
   simp only [ho]at hwp
   have hpre: ∀j∈pend.map (·.1),listed.getD j false=false:=fun j hj=>(I.apart j hj).2
   have hap:=apartPre' hp ho hd hpre him (I.ord.noWait' _ (by simp [hun]) him)
   obtain⟨e1,e2,e3⟩:=PendRun.push hs (hs i o ho) I.run hap
   have hstep: ∀w',(snk=true∨Agree w w')→ ∀a' ag',wpPlan P ops Q q ag' w'→PendRun P ops w a' pend ag'→wpAny P md ops Q fuel (listed.setIfInBounds i true) a' w':=by
    intro w' hsa a' ag' hw' hrun'
    have hrun2:PendRun P ops w' a' pend ag':=by
     rcases hsa with hsa|hsa
     ·have hnil:pend= []:=by
       rcases List.eq_nil_or_concat pend with h|⟨pre,⟨j,u⟩,h⟩
       ·exact h
       ·exfalso
        rw [List.concat_eq_append]at h
        subst h
        have hjm:j∈(pre++ [(j,u)]).map (·.1):=by simp
        have hju:=hpre j hjm
        obtain⟨k,hk,hwt⟩:=hsink hsa j (.inr hjm)
        have hord:=I.ord
        have hnd:=I.nodup
        simp only [List.map_append,List.map_cons,List.map_nil]at hord hnd
        have hjn:j∉pre.map (·.1):=fun hh=>(List.nodup_append.1 hnd).2.2 j hh j List.mem_cons_self rfl
        have hself: ¬WaitsOn md ops j j:=by
         intro hh
         obtain⟨o',ho',e,he,hb,heq⟩:=hh
         have h0:=(OrdOK.at (pre.map (·.1)) hord).1 o' ho' e he hb
         rw [heq]at h0
         rcases h0 with h0|h0
         ·rw [hju]at h0;cases h0
         ·exact hjn h0
        obtain⟨o',ho',e,he,hb,heq⟩:=hwt
        rcases hk with (hk|hk)|hk
        ·have:=I.closed k hk o' ho' e he hb
         rw [heq,hju]at this;cases this
        ·simp only [List.map_append,List.map_cons,List.map_nil,List.mem_append,List.mem_singleton]at hk
         rcases hk with hk|hk
         ·exact hord.noWait _ (by simp [hju]) hjn k hk ⟨o',ho',e,he,hb,heq⟩
         ·subst hk;exact hself ⟨o',ho',e,he,hb,heq⟩
        ·subst hk
         have:=hd o' ho' e he hb
         rw [heq,hju]at this;cases this
      subst hnil
      cases hrun'
      exact .nil _
     ·exact hrun'.mono hsa
    refine ih _ pend q a' ag' w' hcnt ?_
    have hne: ∀j∈pend.map (·.1),j≠i:=fun j hj e=>him (e▸hj)
    refine⟨by simpa using I.size,closed_set I.size hlt I.closed hd,?_,I.nodup,I.fl,?_,?_,hrun2,hw'⟩
    ·intro j hj
     refine⟨(I.apart j hj).1,?_⟩
     rw [getD_set_ne false (Ne.symm (hne j hj))]
     exact(I.apart j hj).2
    ·have hup: ∀(l:List Nat) {G G':Nat→Prop},(∀j,G j→G' j)→(∀j∈l,FloatsAt ops j)→OrdOK md ops (fun _=>false) G l→OrdOK md ops (fun _=>false) G' l:=by
      intro l
      induction l with
      |nil=>intro G G' _ _ _;trivial
      |cons j l ihl=>
       intro G G' hG hf h
       exact⟨h.1.mono hG,.inl (hf j List.mem_cons_self),ihl (fun k hk=>hk.imp (hG k) id) (fun k hk=>hf k (List.mem_cons_of_mem _ hk)) h.2.2⟩
     exact hup _ (fun j hj=>(getD_setIf hil).2 (.inl hj)) I.fl I.ord
    ·refine PlanOK.congr (fun j=>?_) hq
     rw [getD_setIf hil]
     simp only [With]
     constructor
     ·rintro((h|h)|h)
      ·exact .inl (.inl h)
      ·exact .inr h
      ·exact .inl (.inr h)
     ·rintro((h|h)|h)
      ·exact .inl (.inl h)
      ·exact .inr h
      ·exact .inl (.inr h)
   unfold Go.wpOp
   simp only [ho]
   by_cases hw:Region.wanted o (yielded ops ag.tmps)=true
   ·rw [if_pos hw]at hwp
    rw [←e2,if_pos hw]
    left
    unfold Oper.wp at hwp⊢
    rw [e1]at hwp
    refine upon_carry (fun v w' hk=>?_) (fun d w' hk=>?_) hwp
    ·exact hstep w' hk.1 _ _ hk.2 (e3 v)
    ·exact hstep w' hk.1 _ _ hk.2 ((PendRun.push hs (hs i o ho) (I.run.defers d) hap).2.2 undef)
   ·rw [if_neg hw]at hwp
    rw [←e2,if_neg hw]
    exact hstep w (.inr (Agree.refl w)) _ _ hwp (e3 undef)
  have hgo: ∀(rem:Plan) (pend:List (Nat×Value)) (ag:Act),PlanInv P md ops Q listed pend rem a ag w→
   wpOp P ops Q i (wpAny P md ops Q fuel (listed.setIfInBounds i true)) a w:=by
   intro rem
   induction rem with
   |done=>
    intro pend ag I
    rcases I.plan i hlt with h|h
    ·rw [hun]at h;cases h
    ·exact hpull pend .done ag I h
   |nofork=>intro pend ag I;exact I.plan.elim
   |take c p ihp=>
    intro pend ag I
    obtain⟨⟨hc1,hc2,hc3,hc4⟩,hpl⟩:=I.plan
    obtain⟨oc,hoc⟩: ∃oc,ops[c]? =some oc:=⟨_,Array.getElem?_eq_getElem hc1⟩
    have hwp:=I.wp
    simp only [wpPlan,hoc]at hwp
    have hnext: ∃v,RunsNow P ops w oc ag v∧wpPlan P ops Q p (ag.put oc.dst v) w:=by
     by_cases hw:Region.wanted oc (yielded ops ag.tmps)=true
     ·rw [if_pos hw]at hwp
      exact runsNow_of_wp hw hwp.1 hwp.2
     ·rw [if_neg hw]at hwp
      exact⟨undef,.inr ⟨by simpa using hw,rfl⟩,hwp⟩
    obtain⟨v,hrn,hwp'⟩:=hnext
    have e:(pend++ [(c,v)]).map (·.1)=pend.map (·.1)++ [c]:=by simp
    refine ihp (pend++ [(c,v)]) (ag.put oc.dst v) ⟨I.size,I.closed,?_,?_,?_,?_,?_,I.run.snoc hoc hrn,hwp'⟩
    ·rw [e];intro j hj
     rcases List.mem_append.1 hj with h|h
     ·exact I.apart j h
     ·simp at h;subst h;exact⟨hc1,by simpa using fun h=>hc2 (.inl h)⟩
    ·rw [e]
     refine List.nodup_append.2 ⟨I.nodup,by simp,fun x hx y hy=>?_⟩
     simp at hy;subst hy
     intro e;subst e;exact hc2 (.inr hx)
    ·rw [e];intro j hj
     rcases List.mem_append.1 hj with h|h
     ·exact I.fl j h
     ·simp at h;subst h;exact hc4
    ·rw [e];exact I.ord.snoc _ hc3 hc4
    ·refine PlanOK.congr (fun j=>?_) hpl
     rw [e]
     simp only [With,List.mem_append,List.mem_singleton,or_assoc]
   |fork c snk p rest _ _=>
    intro pend ag I
    by_cases him:i∈pend.map (·.1)
    ·exact hpull pend _ ag I him
    ·refine hact pend _ ag I him ?_
     obtain⟨hall,hone,hrest⟩:=I.plan
     have hmem:=hall i hlt (by simp only [not_or];exact⟨by simp [hun],him⟩) (hd.mono fun j hj=>.inl hj)
     have hchain:ChainOK md ops (.fork c snk p rest) (fun k=>listed.getD k false=true∨k∈pend.map (·.1)):=⟨hone,hrest⟩
     exact chain_get hchain hmem I.wp
  exact hgo rem pend ag I
mutual
def planB (md:Region.Mode) (ops:Array Oper):Plan→Array Bool→Bool
 |.done,G=>(List.range ops.size).all fun j=>G.getD j false
 |.take i p,G=>decide (i<ops.size)&& !G.getD i false&&depsB md ops G i&&floatsB ops i&&planB md ops p (G.setIfInBounds i true)
 |.fork i snk p rest,G=>((List.range ops.size).all fun j=>G.getD j false || !depsB md ops G j ||(i::rest.heads).contains j)&&
  (decide (i<ops.size)&& !G.getD i false&&depsB md ops G i)&&(!snk ||(List.range ops.size).all fun j=> !G.getD j false ||(List.range ops.size).any fun k=>(G.getD k false ||k==i)&&waitsB md ops k j)&&
  planB md ops p (G.setIfInBounds i true)&&chainB md ops rest G
 |.nofork,_=>false
def chainB (md:Region.Mode) (ops:Array Oper):Plan→Array Bool→Bool
 |.fork i snk p rest,G=>(decide (i<ops.size)&& !G.getD i false&&depsB md ops G i)&&(!snk ||(List.range ops.size).all fun j=> !G.getD j false ||(List.range ops.size).any fun k=>(G.getD k false ||k==i)&&waitsB md ops k j)&&
  planB md ops p (G.setIfInBounds i true)&&chainB md ops rest G
 |.nofork,_=>true
 |_,_=>false
end
theorem sinkB_spec {G:Array Bool} {i:Nat} {snk:Bool} (hG:G.size=ops.size)
 (h:(!snk ||(List.range ops.size).all fun j=> !G.getD j false ||(List.range ops.size).any fun k=>(G.getD k false ||k==i)&&waitsB md ops k j)=true):
 snk=true→ ∀j,G.getD j false=true→ ∃k,With (fun k=>G.getD k false=true) i k∧WaitsOn md ops k j:=by
 intro hs j hj
 rw [hs,Bool.not_true,Bool.false_or,List.all_eq_true]at h
 have hjl:j<ops.size:=by
  rcases Nat.lt_or_ge j G.size with hh|hh
  ·omega
  ·rw [Array.getD_eq_getD_getElem?,Array.getElem?_eq_none hh]at hj;cases hj
 have:=h j (List.mem_range.2 hjl)
 simp only [hj,Bool.not_true,Bool.false_or,List.any_eq_true,Bool.and_eq_true,Bool.or_eq_true,beq_iff_eq]at this
 obtain⟨k,_,hk,hw⟩:=this
 exact⟨k,hk,waitsB_spec hw⟩
theorem planB_spec: ∀(p:Plan),(∀G:Array Bool,G.size=ops.size→planB md ops p G=true→PlanOK md ops p (fun k=>G.getD k false=true))∧
 (∀G:Array Bool,G.size=ops.size→chainB md ops p G=true→ChainOK md ops p (fun k=>G.getD k false=true)):=by
 intro p
 induction p with
 |done=>
  refine⟨fun G hG h=>?_,fun G _ h=>by simp [chainB]at h⟩
  intro j hj
  simp only [planB,List.all_eq_true,List.mem_range]at h
  exact h j hj
 |nofork=>exact⟨fun G _ h=>by simp [planB]at h,fun G _ _=>trivial⟩
 |take i p ih=>
  refine⟨fun G hG h=>?_,fun G _ h=>by simp [chainB]at h⟩
  simp only [planB,Bool.and_eq_true,decide_eq_true_eq,Bool.not_eq_true']at h
  obtain⟨⟨⟨⟨h0,h1⟩,h2⟩,h3⟩,h4⟩:=h
  exact⟨⟨h0,by simp [h1],depsB_spec.1 h2,floatsB_spec h3⟩,PlanOK.congr (fun j=>getD_setIf (by omega)) (ih.1 _ (by simpa using hG) h4)⟩
 |fork i snk p rest ihp ihr=>
  refine⟨fun G hG h=>?_,fun G hG h=>?_⟩
  ·simp only [planB,Bool.and_eq_true,decide_eq_true_eq,Bool.not_eq_true']at h
   obtain⟨⟨⟨⟨ha,⟨h0,h1⟩,h2⟩,h3⟩,h4⟩,h5⟩:=h
   refine⟨fun j hj hn hd=>?_,⟨⟨h0,by simp [h1],depsB_spec.1 h2⟩,sinkB_spec hG h3,PlanOK.congr (fun j=>getD_setIf (by omega)) (ihp.1 _ (by simpa using hG) h4)⟩,ihr.2 G hG h5⟩
   have:=List.all_eq_true.1 ha j (List.mem_range.2 hj)
   have hn':G.getD j false=false:=by simpa using hn
   rw [depsB_spec.2 hd,hn']at this
   simpa using this
  ·simp only [chainB,Bool.and_eq_true,decide_eq_true_eq,Bool.not_eq_true']at h
   obtain⟨⟨⟨⟨⟨h0,h1⟩,h2⟩,h3⟩,h4⟩,h5⟩:=h
   exact⟨⟨⟨h0,by simp [h1],depsB_spec.1 h2⟩,sinkB_spec hG h3,PlanOK.congr (fun j=>getD_setIf (by omega)) (ihp.1 _ (by simpa using hG) h4)⟩,ihr.2 G hG h5⟩
def planOKB (md:Region.Mode) (ops:Array Oper) (p:Plan):Bool:=Region.noSelect ops&&pairsB md ops&&planB md ops p (Array.replicate ops.size false)
theorem wp_plan {id:Nat} {a:Act} {w:World} {l:List Oper} (p:Plan) (hm:P.follows .mixedOrders=true) (hB:planOKB .any l.toArray p=true)
 (h:wpPlan P l.toArray Q p a w.drew):(Code.region id l.toArray true).wp P Q a w:=by
 simp only [planOKB,Bool.and_eq_true]at hB
 obtain⟨⟨hsel,hpair⟩,hplan⟩:=hB
 refine wp_region_any hm ?_
 have hrep: ∀j,(Array.replicate l.toArray.size false).getD j false=false:=by
  intro j
  rw [Array.getD_eq_getD_getElem?,Array.getElem?_replicate]
  split<;>rfl
 refine wpAny_of_plan (fun j oj hj cs b=>Region.noSelect_spec hsel j oj cs b hj) (pairsB_spec hpair) _ _ [] p a a _ ?_ ⟨by simp,?_,by simp,by simp,by simp,trivial,?_,.nil _,h⟩
 ·unfold unl
  rw [Array.toList_replicate,List.count_replicate]
  simp
 ·intro j hj
  rw [hrep]at hj;cases hj
 ·exact PlanOK.congr (fun j=>by simp) ((planB_spec p).1 _ (by simp) hplan)
section
variable {a : Act} {w : World} {i : Nat} {p rest : Plan} {o : Oper}
theorem wpPlan_take (ho:ops[i]? =some o) (hw:Region.wanted o (yielded ops a.tmps)=true) (hok:floatOK P o.op a.eval=true)
 (h: ∀K:Act→World→Prop,(∀a w,wpPlan P ops Q p a w→K a w)→o.wp P a w K (fun _ _ _=>False)):wpPlan P ops Q (.take i p) a w:=by
 simp only [wpPlan,ho,if_pos hw]
 exact⟨hok,h _ fun _ _ h=>h⟩
theorem wpPlan_skip (ho:ops[i]? =some o) (hw:Region.wanted o (yielded ops a.tmps)=false) (h:wpPlan P ops Q p (a.put o.dst undef) w):wpPlan P ops Q (.take i p) a w:=by
 simp only [wpPlan,ho,hw]
 exact h
end
#print axioms wp_plan
end Go.Proofs.YtalmjkcapecpiaaGreat
namespace Go.Proofs.YtalmjkcapecpiaaGreat.St
open Go Go.Proofs.YtalmjkcapecpiaaGreat
section
variable {P : Program} {ops : Array Oper} {md : Region.Mode} {S : World → Prop} {sink : Nat → Bool} {Q : Exit → Act → World → Prop}
def wpOne (P:Program) (ops:Array Oper):(World→Prop)→(Nat→Bool)→(Exit→Act→World→Prop)→List Nat→Act→World→Prop
 |_,_,Q,[],a,w=>Q .normal a w
 |S,sink,Q,i::rest,a,w=>
  match ops[i]? with
  |none=>False
  |some o=>
   if Region.wanted o (yielded ops a.tmps)then
    if floats o.op then ∃v,(∀w',S w'→(execOp a.eval o).run P w'=.ok (.value v) w')∧wpOne P ops S sink Q rest (a.put o.dst v) w
    else o.wp P a w (fun a' w'=> ∃S':World→Prop,((∀u,S' u→S u)∨sink i=true)∧S' w'∧wpOne P ops S' sink Q rest a' w') (fun _ _ _=>False)
   else wpOne P ops S sink Q rest (a.put o.dst undef) w
def pureOp:Op→Bool
 |.move _|.assign _|.extract _ _=>true
 |_=>false
def PureAt (ops:Array Oper) (pl:Nat→Bool) (j:Nat):Prop:=pl j=true∧ ∃o,ops[j]? =some o∧pureOp o.op=true
def SinkOK (md:Region.Mode) (ops:Array Oper) (sink pl:Nat→Bool):(Nat→Prop)→List Nat→Prop
 |_,[]=>True
 |G,i::l=>(FloatsAt ops i∨(sink i=true→ ∀j,G j→ ¬FloatsAt ops j∨PureAt ops pl j∨ ∃k,With G i k∧ ¬PureAt ops pl k∧WaitsOn md ops k j))∧SinkOK md ops sink pl (With G i) l
theorem SinkOK.congr {pl:Nat→Bool} {l:List Nat} : ∀ {G G':Nat→Prop},(∀j,G j↔G' j)→SinkOK md ops sink pl G l→SinkOK md ops sink pl G' l:=by
 intro G G' h
 have:G=G':=funext fun j=>propext (h j)
 rw [this];exact id
theorem SinkOK.pull {pl:Nat→Bool} {l:List Nat} {i:Nat} : ∀(pre:List Nat) {G:Nat→Prop},(∀j∈pre,FloatsAt ops j)→SinkOK md ops sink pl G (pre++i::l)→SinkOK md ops sink pl (With G i) (pre++l):=by
 intro pre
 induction pre with
 |nil=>intro G _ h;exact h.2
 |cons p pre ih=>
  intro G hf h
  refine⟨.inl (hf p List.mem_cons_self),(SinkOK.congr (fun j=>?_) (ih (fun j hj=>hf j (List.mem_cons_of_mem _ hj)) h.2))⟩
  simp only [With,or_assoc,or_comm (a:=j=p)]
theorem SinkOK.at {pl:Nat→Bool} {l:List Nat} {i:Nat} : ∀(pre:List Nat) {G:Nat→Prop},SinkOK md ops sink pl G (pre++i::l)→SinkOK md ops sink pl (fun j=>G j∨j∈pre) (i::l):=by
 intro pre
 induction pre with
 |nil=>intro G h;exact SinkOK.congr (fun j=>by simp) h
 |cons p pre ih=>
  intro G h
  exact SinkOK.congr (fun j=>by simp [With,or_assoc]) (ih h.2)
def RunsNow (P:Program) (ops:Array Oper) (S:World→Prop) (o:Oper) (a:Act) (v:Value):Prop:=
 (Region.wanted o (yielded ops a.tmps)=true∧ ∀w',S w'→(execOp a.eval o).run P w'=.ok (.value v) w')∨(Region.wanted o (yielded ops a.tmps)=false∧v=undef)
inductive PendRun (P:Program) (ops:Array Oper) (S:World→Prop):Act→List (Nat×Value)→Act→Prop
 |nil (a:Act):PendRun P ops S a [] a
 |cons {a ag:Act} {i:Nat} {v:Value} {o:Oper} {l:List (Nat×Value)} (ho:ops[i]? =some o) (hr:RunsNow P ops S o a v) (h:PendRun P ops S (a.put o.dst v) l ag):PendRun P ops S a ((i,v)::l) ag
theorem pure_run {S S':World→Prop} {o:Oper} {ρ:Operand→Value} {v:Value} (hp:pureOp o.op=true) (hS: ∃w,S w) (h: ∀w',S w'→(execOp ρ o).run P w'=.ok (.value v) w'): ∀w',(execOp ρ o).run P w'=.ok (.value v) w':=by
 obtain⟨w,hw⟩:=hS
 have h1:=h w hw
 intro w'
 rcases o with ⟨d,op,ty,pos,aft,g⟩
 cases op<;>simp only [pureOp,Bool.false_eq_true]at hp
 case move x=>
  simp only [execOp,Sem.run_pure,Result.ok.injEq,and_true]at h1⊢
  exact h1
 case assign x=>
  simp only [execOp,Sem.run_pure,Result.ok.injEq,and_true]at h1⊢
  exact h1
 case extract x i=>
  have e: ∀w,(execOp ρ ⟨d,.extract x i,ty,pos,aft,g⟩).run P w=((Instr.extract (ρ x) i).run P w).andThen fun v w=>.ok (.value v) w:=fun w=>by
   show((do let v ←Instr.extract (ρ x) i;pure (.value v)):Sem Next).run P w=_
   rw [Sem.run_bind];rfl
  rw [e]at h1⊢
  unfold Instr.extract at h1⊢
  cases hx:ρ x<;>simp only [hx]at h1⊢
  case tuple vs=>
   cases hv:vs[i]? with
   |none=>simp only [hv]at h1;cases h1
   |some u=>
    simp only [hv,Sem.run_pure,Result.andThen_ok,Result.ok.injEq,and_true]at h1⊢
    exact h1
  all_goals cases h1
theorem RunsNow.swap {S S':World→Prop} {o:Oper} {a:Act} {v:Value} (hp:pureOp o.op=true) (hS: ∃w,S w) (h:RunsNow P ops S o a v):RunsNow P ops S' o a v:=
 h.imp (fun h=>⟨h.1,fun w' _=>pure_run (S':=S') hp hS h.2 w'⟩) id
theorem PendRun.mono {S S':World→Prop} (hi: ∀u,S' u→S u): ∀ {l:List (Nat×Value)} {a ag:Act},PendRun P ops S a l ag→PendRun P ops S' a l ag:=by
 intro l a ag h
 induction h with
 |nil a=>exact .nil a
 | @cons a ag i v o l ho hr h ih=>exact .cons ho (hr.imp (fun h=>⟨h.1,fun w' hw'=>h.2 w' (hi w' hw')⟩) id) ih
theorem PendRun.swap {S S':World→Prop} {pl:Nat→Bool} (hS: ∃w,S w): ∀ {l:List (Nat×Value)} {a ag:Act},PendRun P ops S a l ag→(∀p∈l,PureAt ops pl p.1)→PendRun P ops S' a l ag:=by
 intro l a ag h
 induction h with
 |nil a=>intro _;exact .nil a
 | @cons a ag i v o l ho hr h ih=>
  intro hp
  obtain⟨_,o',ho',hpo⟩:=hp (i,v) List.mem_cons_self
  rw [ho]at ho';cases ho'
  exact .cons ho (hr.swap hpo hS) (ih fun p hpp=>hp p (List.mem_cons_of_mem _ hpp))
theorem RunsNow.put {oi oj:Oper} {a:Act} {v u:Value} (hap:oi.apart ops oj=true) (hs:NoSel oj) (h:RunsNow P ops S oj (a.put oi.dst v) u):RunsNow P ops S oj a u:=by
 obtain⟨h1,_,_⟩:=Oper.apart_spec hap
 unfold RunsNow at*
 rw [wanted_put oj a oi.dst v h1,execOp_put oj hs a oi.dst v h1]at h
 exact h
theorem RunsNow.put' {oi oj:Oper} {a:Act} {v u:Value} (hap:oi.apart ops oj=true) (hs:NoSel oj) (h:RunsNow P ops S oj a u):RunsNow P ops S oj (a.put oi.dst v) u:=by
 obtain⟨h1,_,_⟩:=Oper.apart_spec hap
 unfold RunsNow at*
 rw [wanted_put oj a oi.dst v h1,execOp_put oj hs a oi.dst v h1]
 exact h
theorem PendRun.pull {i:Nat} {o:Oper} {v:Value} (hi:ops[i]? =some o) (hs: ∀(j:Nat) (oj:Oper),ops[j]? =some oj→NoSel oj) {post:List (Nat×Value)} :
 ∀(pre:List (Nat×Value)) {a ag:Act},(∀p∈pre, ∀oj,ops[p.1]? =some oj→oj.apart ops o=true)→PendRun P ops S a (pre++(i,v)::post) ag→
  RunsNow P ops S o a v∧PendRun P ops S (a.put o.dst v) (pre++post) ag:=by
 intro pre
 induction pre with
 |nil=>
  intro a ag _ h
  cases h with
  |cons ho hr h=>rw [hi]at ho;cases ho;exact⟨hr,h⟩
 |cons p pre ih=>
  intro a ag hap h
  cases h with
  | @cons _ _ j u oj _ ho hr h=>
   have hj:=hap (j,u) (List.mem_cons_self) oj ho
   obtain⟨h1,h2⟩:=ih (fun q hq=>hap q (List.mem_cons_of_mem _ hq)) h
   refine⟨h1.put hj (hs i o hi),(.cons ho (hr.put' (apart_symm hj) (hs j oj ho)) ?_)⟩
   rw [←Act.put_comm a u v (Oper.apart_spec hj).2.1]
   exact h2
theorem PendRun.push {o:Oper} (hs: ∀(j:Nat) (oj:Oper),ops[j]? =some oj→NoSel oj) (ho:NoSel o) {l:List (Nat×Value)} {a ag:Act} (h:PendRun P ops S a l ag)
 (hap: ∀p∈l, ∀oj,ops[p.1]? =some oj→oj.apart ops o=true):
 execOp ag.eval o=execOp a.eval o∧Region.wanted o (yielded ops ag.tmps)=Region.wanted o (yielded ops a.tmps)∧ ∀u,PendRun P ops S (a.put o.dst u) l (ag.put o.dst u):=by
 induction h with
 |nil a=>exact⟨rfl,rfl,fun u=>.nil _⟩
 | @cons a ag j v oj l hoj hr h ih=>
  have hj:=hap (j,v) (List.mem_cons_self) oj hoj
  obtain⟨h1,h2,h3⟩:=Oper.apart_spec hj
  obtain⟨i1,i2,i3⟩:=ih (fun q hq=>hap q (List.mem_cons_of_mem _ hq))
  refine⟨i1.trans (execOp_put o ho a _ _ h1),i2.trans (wanted_put o a _ _ h1),fun u=>.cons hoj (hr.put' (apart_symm hj) (hs j oj hoj)) ?_⟩
  rw [←Act.put_comm a v u h2]
  exact i3 u
theorem PendRun.snoc {l:List (Nat×Value)} {a ag:Act} {c:Nat} {oc:Oper} {v:Value} (h:PendRun P ops S a l ag) (hoc:ops[c]? =some oc) (hr:RunsNow P ops S oc ag v):
 PendRun P ops S a (l++ [(c,v)]) (ag.put oc.dst v):=by
 induction h with
 |nil a=>exact .cons hoc hr (.nil _)
 |cons ho hr' _ ih=>exact .cons ho hr' (ih hr)
theorem PendRun.defers {l:List (Nat×Value)} {a ag:Act} (h:PendRun P ops S a l ag) (d:Deferred):
 PendRun P ops S { a with defers:=d::a.defers } l { ag with defers:=d::ag.defers } :=by
 induction h with
 |nil a=>exact .nil _
 | @cons a ag j v oj l hoj hr h ih=>
  refine .cons hoj hr ?_
  rw [←Act.put_defers]
  exact ih
theorem RunsNow.wpOp {w:World} (hSw:S w) {i:Nat} {o:Oper} {a:Act} {v:Value} (hi:ops[i]? =some o) (h:RunsNow P ops S o a v) {K:Act→World→Prop} (hk:K (a.put o.dst v) w):wpOp P ops Q i K a w:=by
 unfold Go.wpOp
 simp only [hi]
 rcases h with ⟨hw,hr⟩|⟨hw,rfl⟩
 ·rw [if_pos hw]
  left
  unfold Oper.wp
  rw [hr w hSw]
  exact hk
 ·rw [hw]
  exact hk
structure OneInv (P:Program) (md:Region.Mode) (ops:Array Oper) (S:World→Prop) (sink pl:Nat→Bool) (Q:Exit→Act→World→Prop) (listed:Array Bool) (pend:List (Nat×Value)) (rem:List Nat) (a ag:Act) (w:World):Prop where
 size:listed.size=ops.size
 closed: ∀j,listed.getD j false=true→DepsIn md ops (fun k=>listed.getD k false=true) j
 parts: ∀j,j<ops.size→listed.getD j false=true∨j∈pend.map (·.1)++rem
 apart: ∀j∈pend.map (·.1)++rem,j<ops.size∧listed.getD j false=false
 nodup:(pend.map (·.1)++rem).Nodup
 fl: ∀j∈pend.map (·.1),FloatsAt ops j
 ord:OrdOK md ops (fun _=>false) (fun k=>listed.getD k false=true) (pend.map (·.1)++rem)
 snk:SinkOK md ops sink pl (fun k=>listed.getD k false=true) (pend.map (·.1)++rem)
 run:PendRun P ops S a pend ag
 st:(pend= []∧rem= [])∨S w
 wp:wpOne P ops S sink Q rem ag w
theorem OneInv.apartPre {listed:Array Bool} {pre:List (Nat×Value)} {l:List Nat} {i:Nat} {o:Oper} (hp:PairsOK md ops) (hi:ops[i]? =some o)
 (hd:DepsIn md ops (fun k=>listed.getD k false=true) i) (hun:listed.getD i false=false) (hpre: ∀j∈pre.map (·.1),listed.getD j false=false) (hn:i∉pre.map (·.1))
 (hord:OrdOK md ops (fun _=>false) (fun k=>listed.getD k false=true) (pre.map (·.1)++i::l)): ∀p∈pre, ∀oj,ops[p.1]? =some oj→oj.apart ops o=true:=by
 intro p hpp oj hoj
 have hpm:p.1∈pre.map (·.1):=List.mem_map_of_mem hpp
 have hne:p.1≠i:=fun e=>hn (e▸hpm)
 rcases hp p.1 i oj o hoj hi hne with h|h|h
 ·exact h
 ·exact absurd h (hord.noWait _ (by simp [hun]) hn p.1 hpm)
 ·obtain⟨o',ho',e,he,hb,heq⟩:=h
  have:=hd o' ho' e he hb
  rw [heq,hpre _ hpm]at this
  cases this
theorem wpAny_of_one {pl:Nat→Bool} (hs: ∀(j:Nat) (oj:Oper),ops[j]? =some oj→NoSel oj) (hp:PairsOK md ops):
 ∀(fuel:Nat) (S:World→Prop) (listed:Array Bool) (pend:List (Nat×Value)) (rem:List Nat) (a ag:Act) (w:World),
  pend.length+rem.length≤fuel→OneInv P md ops S sink pl Q listed pend rem a ag w→wpAny P md ops Q fuel listed a w:=by
 have stop: ∀(S:World→Prop) (listed:Array Bool) (pend:List (Nat×Value)) (rem:List Nat) (a ag:Act) (w:World),OneInv P md ops S sink pl Q listed pend rem a ag w→Region.ready md ops listed= []→Q .normal a w:=by
  intro S listed pend rem a ag w I hr
  cases hl:pend.map (·.1)++rem with
  |nil=>
   obtain⟨h1,h2⟩:=List.append_eq_nil_iff.1 hl
   have h1':pend= []:=by simpa using h1
   subst h1';subst h2
   have hrun:=I.run
   cases hrun
   exact I.wp
  |cons i l=>
   have ha:=I.apart i (by rw [hl];exact List.mem_cons_self)
   have ho:=I.ord
   rw [hl]at ho
   have:i∈Region.ready md ops listed:=(ready_iff I.size).2 ⟨ha.1,ha.2,ho.1⟩
   rw [hr]at this
   cases this
 intro fuel
 induction fuel with
 |zero=>
  intro S listed pend rem a ag w hlen I
  have hp0:pend= []:=List.eq_nil_of_length_eq_zero (by omega)
  have hr0:rem= []:=List.eq_nil_of_length_eq_zero (by omega)
  subst hp0;subst hr0
  have hready:Region.ready md ops listed= []:=by
   cases h:Region.ready md ops listed with
   |nil=>rfl
   |cons j l=>
    have hj:j∈Region.ready md ops listed:=by rw [h];exact List.mem_cons_self
    obtain⟨hlt,h0,_⟩:=(ready_iff I.size).1 hj
    rcases I.parts j hlt with h1|h1
    ·rw [h0]at h1;cases h1
    ·cases h1
  exact⟨hready,stop _ _ _ _ _ _ _ I hready⟩
 |succ fuel ih=>
  intro S listed pend rem a ag w hlen I
  refine⟨stop _ _ _ _ _ _ _ I,?_⟩
  intro i hi
  obtain⟨hlt,hun,hd⟩:=(ready_iff I.size).1 hi
  obtain⟨o,ho⟩: ∃o,ops[i]? =some o:=⟨_,Array.getElem?_eq_getElem hlt⟩
  -- an operation that is pending comes up
  have hpull: ∀(pend:List (Nat×Value)) (rem:List Nat) (ag:Act),pend.length+rem.length≤fuel+1→OneInv P md ops S sink pl Q listed pend rem a ag w→i∈pend.map (·.1)→
   wpOp P ops Q i (wpAny P md ops Q fuel (listed.setIfInBounds i true)) a w:=by
   intro pend rem ag hlen I hm
   obtain⟨⟨i',v⟩,hmem,rfl⟩:=List.mem_map.1 hm
   obtain⟨pre,post,rfl⟩:=List.append_of_mem hmem
   dsimp only at*
   have hord:=I.ord
   have hnd:=I.nodup
   simp only [List.map_append,List.map_cons,List.append_assoc,List.cons_append]at hord hnd
   have hn:i'∉pre.map (·.1):=by
    intro hh
    have:=List.nodup_append.1 hnd
    exact this.2.2 i' hh i' List.mem_cons_self U
   have hpre: ∀j∈pre.map (·.1),listed.getD j false=false:=fun j hj=>(I.apart j (by simp only [List.map_append,List.append_assoc];exact List.mem_append_left _ hj)).2
   obtain⟨h1,h2⟩:=PendRun.pull ho hs pre (OneInv.apartPre hp ho hd hun hpre hn hord) I.run
   have hSw:S w:=I.st.resolve_left (by rintro⟨h,_⟩;simp at h)
   refine h1.wpOp hSw ho ?_
   refine ih S _ (pre++post) rem _ ag w (by simp at hlen⊢;omega) ?_
   have hsub: ∀j,j∈(pre++post).map (·.1)++rem→j∈(pre++(i',v)::post).map (·.1)++rem∧j≠i':=by
    intro j hj
    simp only [List.map_append,List.map_cons,List.append_assoc,List.cons_append]at hj⊢
    refine⟨?_,?_⟩
    ·rcases List.mem_append.1 hj with h|h
     ·exact List.mem_append_left _ h
     ·exact List.mem_append_right _ (List.mem_cons_of_mem _ h)
    ·rintro rfl
     have hnd2:=List.nodup_append.1 hnd
     rcases List.mem_append.1 hj with h|h
     ·exact hn h
     ·exact(List.nodup_cons.1 hnd2.2.1).1 h
   refine⟨by simpa using I.size,closed_set I.size hlt I.closed hd,?_,?_,?_,?_,?_,?_,h2,.inr hSw,I.wp⟩
   ·intro j hj
    rcases I.parts j hj with h|h
    ·exact .inl ((getD_setIf (by have:=I.size;omega)).2 (.inl h))
    ·by_cases hji:j=i'
     ·exact .inl ((getD_setIf (by have:=I.size;omega)).2 (.inr hji))
     ·right
      simp only [List.map_append,List.map_cons,List.append_assoc,List.cons_append]at h⊢
      rcases List.mem_append.1 h with h|h
      ·exact List.mem_append_left _ h
      ·rcases List.mem_cons.1 h with h|h
       ·exact absurd h hji
       ·exact List.mem_append_right _ h
   ·intro j hj
    obtain⟨h1,h2⟩:=hsub j hj
    refine⟨(I.apart j h1).1,?_⟩
    rw [getD_set_ne false (Ne.symm h2)]
    exact(I.apart j h1).2
   ·simp only [List.map_append,List.append_assoc]
    exact(List.nodup_cons.1 ((List.Perm.nodup_iff List.perm_middle).1 hnd)).2
   ·intro j hj
    refine I.fl j ?_
    simp only [List.map_append,List.map_cons]at hj⊢
    rcases List.mem_append.1 hj with h|h
    ·exact List.mem_append_left _ h
    ·exact List.mem_append_right _ (List.mem_cons_of_mem _ h)
   ·have:=OrdOK.pull (pre.map (·.1)) (fun j hj=>I.fl j (by simp only [List.map_append];exact List.mem_append_left _ hj)) hd hord
    simp only [List.map_append,List.append_assoc]
    exact OrdOK.congr (fun j=>(getD_setIf (by have:=I.size;omega)).symm) this
   ·have hsn:=I.snk
    simp only [List.map_append,List.map_cons,List.append_assoc,List.cons_append]at hsn
    have:=SinkOK.pull (pre.map (·.1)) (fun j hj=>I.fl j (by simp only [List.map_append];exact List.mem_append_left _ hj)) hsn
    simp only [List.map_append,List.append_assoc]
    exact SinkOK.congr (fun j=>(getD_setIf (by have:=I.size;omega)).symm) this
  -- on along the order till i has been met
  have hgo: ∀(rem:List Nat) (pend:List (Nat×Value)) (ag:Act),pend.length+rem.length≤fuel+1→OneInv P md ops S sink pl Q listed pend rem a ag w→
   wpOp P ops Q i (wpAny P md ops Q fuel (listed.setIfInBounds i true)) a w:=by
   intro rem
   induction rem with
   |nil=>
    intro pend ag hlen I
    rcases I.parts i hlt with h|h
    ·rw [hun]at h;cases h
    ·exact hpull pend [] ag hlen I (by simpa using h)
   |cons c rem ihr=>
    intro pend ag hlen I
    have hc:=I.apart c (by simp)
    obtain⟨oc,hoc⟩: ∃oc,ops[c]? =some oc:=⟨_,Array.getElem?_eq_getElem hc.1⟩
    have hat:=OrdOK.at (pend.map (·.1)) I.ord
    have hwp:=I.wp
    simp only [wpOne,hoc]at hwp
    by_cases hfl:floats oc.op=true
    · -- it floats: it joins those that are pending
     have hnext: ∃v,RunsNow P ops S oc ag v∧wpOne P ops S sink Q rem (ag.put oc.dst v) w:=by
      by_cases hw:Region.wanted oc (yielded ops ag.tmps)=true
      ·rw [if_pos hw,if_pos hfl]at hwp
       obtain⟨v,h1,h2⟩:=hwp
       exact⟨v,.inl ⟨hw,h1⟩,h2⟩
      ·rw [if_neg hw]at hwp
       exact⟨undef,.inr ⟨by simpa using hw,rfl⟩,hwp⟩
     obtain⟨v,hrn,hwp'⟩:=hnext
     have hrun:PendRun P ops S a (pend++ [(c,v)]) (ag.put oc.dst v):=by
      exact I.run.snoc hoc hrn
     have e:(pend++ [(c,v)]).map (·.1)++rem=pend.map (·.1)++c::rem:=by simp
     refine ihr (pend++ [(c,v)]) (ag.put oc.dst v) (by simp at hlen⊢;omega) ⟨I.size,I.closed,?_,?_,?_,?_,?_,?_,hrun,.inr (I.st.resolve_left (by rintro⟨_,h⟩;cases h)),hwp'⟩
     ·rw [e];exact I.parts
     ·rw [e];exact I.apart
     ·rw [e];exact I.nodup
     ·intro j hj
      simp only [List.map_append,List.map_cons,List.map_nil]at hj
      rcases List.mem_append.1 hj with h|h
      ·exact I.fl j h
      ·simp at h;subst h;intro o' ho';rw [hoc]at ho';cases ho';exact hfl
     ·rw [e];exact I.ord
     ·rw [e];exact I.snk
    · -- it acts
     by_cases him:i∈pend.map (·.1)
     ·exact hpull pend (c::rem) ag hlen I him
     ·rcases hat.2.1 with hf|⟨honly,_⟩
      ·exact absurd (hf oc hoc) hfl
      have hci:i=c:=honly i hlt (by simp only [not_or];exact⟨by simp [hun],him⟩) (hd.mono fun j hj=>.inl hj)
      subst hci
      rw [ho]at hoc;cases hoc
      have hpre: ∀j∈pend.map (·.1),listed.getD j false=false:=fun j hj=>(I.apart j (List.mem_append_left _ hj)).2
      have hap:=OneInv.apartPre hp ho hd hun hpre him I.ord
      obtain⟨e1,e2,e3⟩:=PendRun.push hs (hs i o ho) I.run hap
      have hnd:=I.nodup
      have hstep: ∀w', ∀S':World→Prop,((∀u,S' u→S u)∨sink i=true)→S' w'→ ∀a' ag',wpOne P ops S' sink Q rem ag' w'→PendRun P ops S a' pend ag'→wpAny P md ops Q fuel (listed.setIfInBounds i true) a' w':=by
       have hSw:S w:=I.st.resolve_left (by rintro⟨_,h⟩;cases h)
       have hpure:sink i=true→ ∀p∈pend,PureAt ops pl p.1:=fun hsa=>by
        have hsk:=(SinkOK.at (pend.map (·.1)) I.snk).1.resolve_left (fun hf=>absurd (hf o ho) hfl) hsa
        have key: ∀(m:Nat) (pre post:List (Nat×Value)),post.length=m→pend=pre++post→ ∀p∈post,PureAt ops pl p.1:=by
         intro m
         induction m with
         |zero=>intro pre post hl _ p hpp;rw [List.eq_nil_of_length_eq_zero hl]at hpp;cases hpp
         |succ m ihm=>
          intro pre post hl he
          obtain⟨⟨j,u⟩,post',rfl⟩: ∃x xs,post=x::xs:=by
           cases post with
           |nil=>cases hl
           |cons x xs=>exact⟨x,xs,rfl⟩
          have hpost:=ihm (pre++ [(j,u)]) post' (by simpa using hl) (by simpa using he)
          intro p hpp
          rcases List.mem_cons.1 hpp with rfl|hpp
          ·have hjm:j∈pend.map (·.1):=by rw [he];simp
           have hju:=hpre j hjm
           have hord:=I.ord
           rw [he]at hord hnd
           simp only [List.map_append,List.map_cons,List.append_assoc,List.cons_append]at hord hnd
           have hjn:j∉pre.map (·.1):=fun hh=>(List.nodup_append.1 hnd).2.2 j hh j List.mem_cons_self rfl
           have hself: ¬WaitsOn md ops j j:=by
            intro hh
            obtain⟨o',ho',e,he,hb,heq⟩:=hh
            have h0:=(OrdOK.at (pre.map (·.1)) hord).1 o' ho' e he hb
            rw [heq]at h0
            rcases h0 with h0|h0
            ·rw [hju]at h0;cases h0
            ·exact hjn h0
           rcases hsk j (.inr hjm)with hnf|hpu|⟨k,hk,hkn,hwt⟩
           ·exact absurd (I.fl j hjm) hnf
           ·exact hpu
           ·exfalso
            have hwt2:=hwt
            obtain⟨o',ho',e,he',hb,heq⟩:=hwt
            rcases hk with (hk|hk)|hk
            ·have:=I.closed k hk o' ho' e he' hb
             rw [heq,hju]at this;cases this
            ·rw [he]at hk
             simp only [List.map_append,List.map_cons,List.mem_append,List.mem_cons]at hk
             rcases hk with hk|hk|hk
             ·exact hord.noWait _ (by simp [hju]) hjn k hk hwt2
             ·subst hk;exact hself hwt2
             ·obtain⟨q,hq,rfl⟩:=List.mem_map.1 hk
              exact hkn (hpost q hq)
            ·subst hk
             have:=hd o' ho' e he' hb
             rw [heq,hju]at this;cases this
          ·exact hpost p hpp
        exact key pend.length [] pend U U
       intro w' S' hSS hSw' a' ag' hw' hrun'
       have hrun2:PendRun P ops S' a' pend ag':=by
        rcases hSS with h|h
        ·exact hrun'.mono h
        ·exact hrun'.swap ⟨w,hSw⟩ (hpure h)
       have hSt:(pend= []∧rem= [])∨S' w':=.inr hSw'
       refine ih S' _ pend rem a' ag' w' (by simp at hlen⊢;omega) ?_
       have hsub: ∀j,j∈pend.map (·.1)++rem→j∈pend.map (·.1)++i::rem∧j≠i:=by
        intro j hj
        refine⟨?_,?_⟩
        ·rcases List.mem_append.1 hj with h|h
         ·exact List.mem_append_left _ h
         ·exact List.mem_append_right _ (List.mem_cons_of_mem _ h)
        ·rintro rfl
         rcases List.mem_append.1 hj with h|h
         ·exact him h
         ·exact(List.nodup_cons.1 (List.nodup_append.1 hnd).2.1).1 h
       refine⟨by simpa using I.size,closed_set I.size hlt I.closed hd,?_,?_,?_,I.fl,?_,?_,hrun2,hSt,hw'⟩
       ·intro j hj
        rcases I.parts j hj with h|h
        ·exact .inl ((getD_setIf (by have:=I.size;omega)).2 (.inl h))
        ·by_cases hji:j=i
         ·exact .inl ((getD_setIf (by have:=I.size;omega)).2 (.inr hji))
         ·right
          rcases List.mem_append.1 h with h|h
          ·exact List.mem_append_left _ h
          ·rcases List.mem_cons.1 h with h|h
           ·exact absurd h hji
           ·exact List.mem_append_right _ h
       ·intro j hj
        obtain⟨h1,h2⟩:=hsub j hj
        refine⟨(I.apart j h1).1,?_⟩
        rw [getD_set_ne false (Ne.symm h2)]
        exact(I.apart j h1).2
       ·exact(List.nodup_cons.1 ((List.Perm.nodup_iff List.perm_middle).1 hnd)).2
       ·exact OrdOK.congr (fun j=>(getD_setIf (by have:=I.size;omega)).symm) (OrdOK.pull (pend.map (·.1)) I.fl hd I.ord)
       ·exact SinkOK.congr (fun j=>(getD_setIf (by have:=I.size;omega)).symm) (SinkOK.pull (pend.map (·.1)) I.fl I.snk)
      unfold Go.wpOp
      simp only [ho]
      by_cases hw:Region.wanted o (yielded ops ag.tmps)=true
      ·rw [if_pos hw,if_neg hfl]at hwp
       rw [←e2,if_pos hw]
       left
       unfold Oper.wp at hwp⊢
       rw [e1]at hwp
       refine upon_carry (fun v w' hk=>?_) (fun d w' hk=>?_) hwp
       ·obtain⟨S',h1,h2,h3⟩:=hk;exact hstep w' S' h1 h2 _ _ h3 (e3 v)
       ·obtain⟨S',h1,h2,h3⟩:=hk;exact hstep w' S' h1 h2 _ _ h3 ((PendRun.push hs (hs i o ho) (I.run.defers d) hap).2.2 undef)
      ·rw [if_neg hw]at hwp
       rw [←e2,if_neg hw]
       exact hstep w S (.inl fun _ h=>h) (I.st.resolve_left (by rintro⟨_,h⟩;cases h)) _ _ hwp (e3 undef)
  exact hgo rem pend ag hlen I
def pureB (ops:Array Oper) (pl:Nat→Bool) (j:Nat):Bool:=pl j&&match ops[j]? with
 |some o=>pureOp o.op
 |none=>false
theorem pureB_iff {pl:Nat→Bool} {j:Nat} :pureB ops pl j=true↔PureAt ops pl j:=by
 unfold pureB PureAt
 cases h:ops[j]? with
 |none=>simp
 |some o=>simp
def sinkB (md:Region.Mode) (ops:Array Oper) (sink pl:Nat→Bool):Array Bool→List Nat→Bool
 |_,[]=>true
 |G,i::l=>(floatsB ops i || !sink i ||(List.range ops.size).all fun j=> !G.getD j false || !floatsB ops j ||pureB ops pl j ||(List.range ops.size).any fun k=>(G.getD k false ||k==i)&& !pureB ops pl k&&waitsB md ops k j)&&
  sinkB md ops sink pl (G.setIfInBounds i true) l
theorem sinkB_spec {pl:Nat→Bool} (l:List Nat): ∀(G:Array Bool),G.size=ops.size→(∀j∈l,j<ops.size)→sinkB md ops sink pl G l=true→SinkOK md ops sink pl (fun k=>G.getD k false=true) l:=by
 induction l with
 |nil=>intro G _ _ _;trivial
 |cons i l ih=>
  intro G hG hlt h
  simp only [sinkB,Bool.and_eq_true]at h
  refine⟨?_,SinkOK.congr (fun j=>getD_setIf (by rw [hG];exact hlt i List.mem_cons_self)) (ih _ (by simpa using hG) (fun j hj=>hlt j (List.mem_cons_of_mem _ hj)) h.2)⟩
  have h1:=h.1
  simp only [Bool.or_eq_true,Bool.not_eq_true']at h1
  rcases h1 with (h1|h1)|h1
  ·exact .inl (floatsB_spec h1)
  ·exact .inr fun hs=>by rw [h1]at hs;cases hs
  ·refine .inr fun _ j hj=>?_
   have hj:G.getD j false=true:=hj
   have hjl:j<ops.size:=by
    rw [←hG]
    rcases Nat.lt_or_ge j G.size with h|h
    ·exact h
    ·rw [Array.getD_eq_getD_getElem?,Array.getElem?_eq_none h]at hj;cases hj
   have h2:=List.all_eq_true.1 h1 j (List.mem_range.2 hjl)
   simp only [Bool.or_eq_true,Bool.not_eq_true',hj,Bool.true_eq_false,false_or]at h2
   rcases h2 with (h2|h2)|h2
   ·left
    intro hf
    unfold floatsB at h2
    cases ho:ops[j]? with
    |none=>rw [ho]at h2;cases h2
    |some o=>simp only [ho,hf o ho]at h2;cases h2
   ·exact .inr (.inl (pureB_iff.1 h2))
   ·obtain⟨k,_,hk⟩:=List.any_eq_true.1 h2
    simp only [Bool.and_eq_true,Bool.or_eq_true,beq_iff_eq,Bool.not_eq_true']at hk
    refine .inr (.inr ⟨k,hk.1.1,fun hp=>?_,waitsB_spec hk.2⟩)
    rw [pureB_iff.2 hp]at hk
    exact absurd hk.1.2 (by decide)
def oneSB (md:Region.Mode) (ops:Array Oper) (snk pl ord:List Nat):Bool:=oneB md ops [] ord&&sinkB md ops (fun i=>snk.contains i) (fun i=>pl.contains i) (Array.replicate ops.size false) ord
theorem wp_one {id:Nat} {a:Act} {w:World} {l:List Oper} (snk pl ord:List Nat) (hm:P.follows .mixedOrders=true) (hB:oneSB .any l.toArray snk pl ord=true) (hS:S w.drew)
 (h:wpOne P l.toArray S (fun i=>snk.contains i) Q ord a w.drew):(Code.region id l.toArray true).wp P Q a w:=by
 simp only [oneSB,oneB,Bool.and_eq_true,decide_eq_true_eq]at hB
 obtain⟨⟨⟨⟨⟨⟨⟨hsel,hpair⟩,hord⟩,hall⟩,hnd⟩,hlt⟩,hlen⟩,hsb⟩:=hB
 refine wp_region_any hm (wpAny_of_one (pl:=fun i=>pl.contains i) (fun j oj hj cs b=>Region.noSelect_spec hsel j oj cs b hj) (pairsB_spec hpair) _ S _ [] ord a a _ ?_ ⟨by simp,?_,?_,?_,by simpa using hnd,by simp,?_,?_,.nil _,.inr hS,h⟩)
 ·simpa using hlen
 ·intro j hj
  exfalso
  rw [Array.getD_eq_getD_getElem?,Array.getElem?_replicate]at hj
  split at hj<;>cases hj
 ·intro j hj
  right
  have:=List.all_eq_true.1 hall j (List.mem_range.2 hj)
  simpa using this
 ·intro j hj
  refine⟨by simpa using List.all_eq_true.1 hlt j (by simpa using hj),?_⟩
  rw [Array.getD_eq_getD_getElem?,Array.getElem?_replicate]
  split<;>rfl
 ·have:=ordB_spec _ _ (by simp) hord
  simpa using this
 ·exact sinkB_spec _ _ (by simp) (fun j hj=>by simpa using List.all_eq_true.1 hlt j hj) hsb
section
variable {a : Act} {w : World} {i : Nat} {rest : List Nat} {o : Oper} {sink : Nat → Bool}
theorem wpOne_nil (h:Q .normal a w):wpOne P ops S sink Q [] a w:=h
theorem wpOne_float {v:Value} (ho:ops[i]? =some o) (hf:floats o.op=true) (hw:Region.wanted o (yielded ops a.tmps)=true) (hr: ∀w',S w'→(execOp a.eval o).run P w'=.ok (.value v) w')
 (h:wpOne P ops S sink Q rest (a.put o.dst v) w):wpOne P ops S sink Q (i::rest) a w:=by
 simp only [wpOne,ho,if_pos hw,if_pos hf]
 exact⟨v,hr,h⟩
theorem wpOne_skip (ho:ops[i]? =some o) (hw:Region.wanted o (yielded ops a.tmps)=false) (h:wpOne P ops S sink Q rest (a.put o.dst undef) w):wpOne P ops S sink Q (i::rest) a w:=by
 simp only [wpOne,ho,hw]
 exact h
theorem wpOne_act (ho:ops[i]? =some o) (hf:floats o.op=false) (hw:Region.wanted o (yielded ops a.tmps)=true)
 (h:o.wp P a w (fun a' w'=>S w'∧wpOne P ops S sink Q rest a' w') (fun _ _ _=>False)):wpOne P ops S sink Q (i::rest) a w:=by
 simp only [wpOne,ho,if_pos hw,hf]
 exact Oper.wp_mono (fun _ _ h=>⟨S,.inl fun _ h=>h,h.1,h.2⟩) h
theorem wpOne_last (ho:ops[i]? =some o) (hf:floats o.op=false) (hs:sink i=true) (hw:Region.wanted o (yielded ops a.tmps)=true)
 (h:o.wp P a w (wpOne P ops S sink Q []) (fun _ _ _=>False)):wpOne P ops S sink Q [i] a w:=by
 simp only [wpOne,ho,if_pos hw,hf]
 exact Oper.wp_mono (fun _ _ h=>⟨fun _=>True,.inr hs,trivial,h⟩) h
theorem wpOne_more (ho:ops[i]? =some o) (hf:floats o.op=false) (hw:Region.wanted o (yielded ops a.tmps)=true)
 (h:o.wp P a w (fun a' w'=> ∃S':World→Prop,(∀u,S' u→S u)∧S' w'∧wpOne P ops S' sink Q rest a' w') (fun _ _ _=>False)):wpOne P ops S sink Q (i::rest) a w:=by
 simp only [wpOne,ho,if_pos hw,hf]
 exact Oper.wp_mono (fun _ _ ⟨S',h1,h2,h3⟩=>⟨S',.inl h1,h2,h3⟩) h
theorem wpOne_sink (ho:ops[i]? =some o) (hf:floats o.op=false) (hs:sink i=true) (hw:Region.wanted o (yielded ops a.tmps)=true)
 (h:o.wp P a w (fun a' w'=> ∃S':World→Prop,S' w'∧wpOne P ops S' sink Q rest a' w') (fun _ _ _=>False)):wpOne P ops S sink Q (i::rest) a w:=by
 simp only [wpOne,ho,if_pos hw,hf]
 exact Oper.wp_mono (fun _ _ ⟨S',h1,h2⟩=>⟨S',.inr hs,h1,h2⟩) h
end
end
end Go.Proofs.YtalmjkcapecpiaaGreat.St
namespace Go.Proofs.YtalmjkcapecpiaaGreat.St
open Go Go.Proofs.YtalmjkcapecpiaaGreat
section
variable {P : Program} {ops : Array Oper} {md : Region.Mode} {S : World → Prop} {Q : Exit → Act → World → Prop}
def wpPlan (P:Program) (ops:Array Oper) (S:World→Prop) (Q:Exit→Act→World→Prop):Plan→Act→World→Prop
 |.done,a,w=>Q .normal a w
 |.take i p,a,w=>
  match ops[i]? with
  |none=>False
  |some o=>
   if Region.wanted o (yielded ops a.tmps)then ∃v,(∀w',S w'→(execOp a.eval o).run P w'=.ok (.value v) w')∧wpPlan P ops S Q p (a.put o.dst v) w
   else wpPlan P ops S Q p (a.put o.dst undef) w
 |.fork i sink p rest,a,w=>
  (match ops[i]? with
   |none=>False
   |some o=>
    if Region.wanted o (yielded ops a.tmps)then o.wp P a w (fun a' w'=>((sink=true∧p=.done)∨S w')∧wpPlan P ops S Q p a' w') (fun _ _ _=>False)
    else wpPlan P ops S Q p (a.put o.dst undef) w)∧wpPlan P ops S Q rest a w
 |.nofork,_,_=>True
theorem chain_get {i:Nat} : ∀ {p:Plan} {G:Nat→Prop} {a:Act} {w:World},ChainOK md ops p G→i∈p.heads→wpPlan P ops S Q p a w→
 ∃(snk:Bool) (q:Plan),((i<ops.size∧ ¬G i∧DepsIn md ops G i)∧(snk=true→ ∀j,G j→ ∃k,With G i k∧WaitsOn md ops k j)∧PlanOK md ops q (With G i))∧
  (match ops[i]? with
   |none=>False
   |some o=>
    if Region.wanted o (yielded ops a.tmps)then o.wp P a w (fun a' w'=>((snk=true∧q=.done)∨S w')∧wpPlan P ops S Q q a' w') (fun _ _ _=>False)
    else wpPlan P ops S Q q (a.put o.dst undef) w)
 |.fork c snk q rest,G,a,w=>fun hc hi hw=>by
  rcases List.mem_cons.1 hi with rfl|hi
  ·exact⟨snk,q,hc.1,hw.1⟩
  ·exact chain_get hc.2 hi hw.2
 |.done,_,_,_=>fun hc=>hc.elim
 |.take _ _,_,_,_=>fun hc=>hc.elim
 |.nofork,_,_,_=>fun _ hi=>by cases hi
structure PlanInv (P:Program) (md:Region.Mode) (ops:Array Oper) (S:World→Prop) (Q:Exit→Act→World→Prop) (listed:Array Bool) (pend:List (Nat×Value)) (rem:Plan) (a ag:Act) (w:World):Prop where
 size:listed.size=ops.size
 closed: ∀j,listed.getD j false=true→DepsIn md ops (fun k=>listed.getD k false=true) j
 apart: ∀j∈pend.map (·.1),j<ops.size∧listed.getD j false=false
 nodup:(pend.map (·.1)).Nodup
 fl: ∀j∈pend.map (·.1),FloatsAt ops j
 ord:OrdOK md ops (fun _=>false) (fun k=>listed.getD k false=true) (pend.map (·.1))
 plan:PlanOK md ops rem (fun k=>listed.getD k false=true∨k∈pend.map (·.1))
 run:PendRun P ops S a pend ag
 st:(pend= []∧rem=.done)∨S w
 wp:wpPlan P ops S Q rem ag w
theorem wpAny_of_plan (hs: ∀(j:Nat) (oj:Oper),ops[j]? =some oj→NoSel oj) (hp:PairsOK md ops):
 ∀(fuel:Nat) (listed:Array Bool) (pend:List (Nat×Value)) (rem:Plan) (a ag:Act) (w:World),
  unl listed≤fuel→PlanInv P md ops S Q listed pend rem a ag w→wpAny P md ops Q fuel listed a w:=by
 -- nothing is ready: all has been done
 have stop: ∀(rem:Plan) (listed:Array Bool) (pend:List (Nat×Value)) (a ag:Act) (w:World),PlanInv P md ops S Q listed pend rem a ag w→Region.ready md ops listed= []→Q .normal a w:=by
  intro rem listed pend a ag w I hr
  have hnil:pend= []:=by
   cases pend with
   |nil=>rfl
   |cons p pend=>
    have ha:=I.apart p.1 (by simp)
    have:p.1∈Region.ready md ops listed:=(ready_iff I.size).2 ⟨ha.1,ha.2,I.ord.1⟩
    rw [hr]at this
    cases this
  subst hnil
  have hrun:=I.run
  cases hrun
  have hpl:=I.plan
  cases rem with
  |done=>exact I.wp
  |take i p=>
   have h0:=hpl.1
   have:i∈Region.ready md ops listed:=(ready_iff I.size).2 ⟨h0.1,by simpa using h0.2.1,h0.2.2.1.mono fun j hj=>by simpa using hj⟩
   rw [hr]at this;cases this
  |fork i snk p rest=>
   have h0:=hpl.2.1.1
   have:i∈Region.ready md ops listed:=(ready_iff I.size).2 ⟨h0.1,by simpa using h0.2.1,h0.2.2.mono fun j hj=>by simpa using hj⟩
   rw [hr]at this;cases this
  |nofork=>exact hpl.elim
 intro fuel
 induction fuel with
 |zero=>
  intro listed pend rem a ag w hlen I
  have hready:Region.ready md ops listed= []:=by
   cases h:Region.ready md ops listed with
   |nil=>rfl
   |cons j l=>
    have hj:j∈Region.ready md ops listed:=by rw [h];exact List.mem_cons_self
    obtain⟨hlt,h0,_⟩:=(ready_iff I.size).1 hj
    rw [unl_zero (by omega) (by rw [I.size];exact hlt)]at h0;cases h0
  exact⟨hready,stop _ _ _ _ _ _ I hready⟩
 |succ fuel ih=>
  intro listed pend rem a ag w hlen I
  refine⟨stop _ _ _ _ _ _ I,?_⟩
  intro i hi
  obtain⟨hlt,hun,hd⟩:=(ready_iff I.size).1 hi
  obtain⟨o,ho⟩: ∃o,ops[i]? =some o:=⟨_,Array.getElem?_eq_getElem hlt⟩
  have hil:i<listed.size:=by rw [I.size];exact hlt
  have hcnt:unl (listed.setIfInBounds i true)≤fuel:=by have:=unl_set hil hun;omega
  have hpull: ∀(pend:List (Nat×Value)) (rem:Plan) (ag:Act),PlanInv P md ops S Q listed pend rem a ag w→i∈pend.map (·.1)→
   wpOp P ops Q i (wpAny P md ops Q fuel (listed.setIfInBounds i true)) a w:=by
   intro pend rem ag I hm
   obtain⟨⟨i',v⟩,hmem,rfl⟩:=List.mem_map.1 hm
   obtain⟨pre,post,rfl⟩:=List.append_of_mem hmem
   dsimp only at*
   have hord:=I.ord
   have hnd:=I.nodup
   simp only [List.map_append,List.map_cons]at hord hnd
   have hn:i'∉pre.map (·.1):=by
    intro hh
    have:=List.nodup_append.1 hnd
    exact this.2.2 i' hh i' List.mem_cons_self U
   have hpre: ∀j∈pre.map (·.1),listed.getD j false=false:=fun j hj=>(I.apart j (by simp only [List.map_append];exact List.mem_append_left _ hj)).2
   obtain⟨h1,h2⟩:=PendRun.pull ho hs pre (apartPre' hp ho hd hpre hn (hord.noWait _ (by simp [hun]) hn)) I.run
   have hSw:S w:=I.st.resolve_left (by rintro⟨h,_⟩;simp at h)
   refine h1.wpOp hSw ho (ih _ (pre++post) rem _ ag w hcnt ?_)
   have hsub: ∀j,j∈(pre++post).map (·.1)→j∈(pre++(i',v)::post).map (·.1)∧j≠i':=by
    intro j hj
    simp only [List.map_append,List.map_cons]at hj⊢
    refine⟨?_,?_⟩
    ·rcases List.mem_append.1 hj with h|h
     ·exact List.mem_append_left _ h
     ·exact List.mem_append_right _ (List.mem_cons_of_mem _ h)
    ·rintro rfl
     have hnd2:=List.nodup_append.1 hnd
     rcases List.mem_append.1 hj with h|h
     ·exact hn h
     ·exact(List.nodup_cons.1 hnd2.2.1).1 h
   refine⟨by simpa using I.size,closed_set I.size hlt I.closed hd,?_,?_,?_,?_,?_,h2,.inr hSw,I.wp⟩
   ·intro j hj
    obtain⟨h1,h2⟩:=hsub j hj
    refine⟨(I.apart j h1).1,?_⟩
    rw [getD_set_ne false (Ne.symm h2)]
    exact(I.apart j h1).2
   ·simp only [List.map_append]
    exact(List.nodup_cons.1 ((List.Perm.nodup_iff List.perm_middle).1 hnd)).2
   ·intro j hj
    exact I.fl j (hsub j hj).1
   ·have:=OrdOK.pull (pre.map (·.1)) (fun j hj=>I.fl j (by simp only [List.map_append];exact List.mem_append_left _ hj)) hd hord
    simp only [List.map_append]
    exact OrdOK.congr (fun j=>(getD_setIf hil).symm) this
   ·refine PlanOK.congr (fun j=>?_) I.plan
    rw [getD_setIf hil]
    simp only [With,List.map_append,List.map_cons,List.mem_append,List.mem_cons]
    constructor
    ·rintro(h|h|h|h)
     ·exact .inl (.inl h)
     ·exact .inr (.inl h)
     ·exact .inl (.inr h)
     ·exact .inr (.inr h)
    ·rintro((h|h)|h|h)
     ·exact .inl h
     ·exact .inr (.inr (.inl h))
     ·exact .inr (.inl h)
     ·exact .inr (.inr (.inr h))
  have hact: ∀(pend:List (Nat×Value)) (rem:Plan) (ag:Act),PlanInv P md ops S Q listed pend rem a ag w→S w→i∉pend.map (·.1)→
   (∃(snk:Bool) (q:Plan),((i<ops.size∧ ¬(listed.getD i false=true∨i∈pend.map (·.1))∧DepsIn md ops (fun k=>listed.getD k false=true∨k∈pend.map (·.1)) i)∧
    (snk=true→ ∀j,(listed.getD j false=true∨j∈pend.map (·.1))→ ∃k,With (fun k=>listed.getD k false=true∨k∈pend.map (·.1)) i k∧WaitsOn md ops k j)∧
    PlanOK md ops q (With (fun k=>listed.getD k false=true∨k∈pend.map (·.1)) i))∧
    (match ops[i]? with
     |none=>False
     |some o=>
      if Region.wanted o (yielded ops ag.tmps)then o.wp P ag w (fun a' w'=>((snk=true∧q=.done)∨S w')∧wpPlan P ops S Q q a' w') (fun _ _ _=>False)
      else wpPlan P ops S Q q (ag.put o.dst undef) w))→
   wpOp P ops Q i (wpAny P md ops Q fuel (listed.setIfInBounds i true)) a w:=by
   intro pend rem ag I hSw him ⟨snk,q,⟨_,hsink,hq⟩,hwp⟩
   simp only [ho]at hwp
   have hpre: ∀j∈pend.map (·.1),listed.getD j false=false:=fun j hj=>(I.apart j hj).2
   have hap:=apartPre' hp ho hd hpre him (I.ord.noWait' _ (by simp [hun]) him)
   obtain⟨e1,e2,e3⟩:=PendRun.push hs (hs i o ho) I.run hap
   have hnil:snk=true→pend= []:=fun hsa=>by
    rcases List.eq_nil_or_concat pend with h|⟨pre,⟨j,u⟩,h⟩
    ·exact h
    ·exfalso
     rw [List.concat_eq_append]at h
     subst h
     have hjm:j∈(pre++ [(j,u)]).map (·.1):=by simp
     have hju:=hpre j hjm
     obtain⟨k,hk,hwt⟩:=hsink hsa j (.inr hjm)
     have hord:=I.ord
     have hnd:=I.nodup
     simp only [List.map_append,List.map_cons,List.map_nil]at hord hnd
     have hjn:j∉pre.map (·.1):=fun hh=>(List.nodup_append.1 hnd).2.2 j hh j List.mem_cons_self rfl
     have hself: ¬WaitsOn md ops j j:=by
      intro hh
      obtain⟨o',ho',e,he,hb,heq⟩:=hh
      have h0:=(OrdOK.at (pre.map (·.1)) hord).1 o' ho' e he hb
      rw [heq]at h0
      rcases h0 with h0|h0
      ·rw [hju]at h0;cases h0
      ·exact hjn h0
     obtain⟨o',ho',e,he,hb,heq⟩:=hwt
     rcases hk with (hk|hk)|hk
     ·have:=I.closed k hk o' ho' e he hb
      rw [heq,hju]at this;cases this
     ·simp only [List.map_append,List.map_cons,List.map_nil,List.mem_append,List.mem_singleton]at hk
      rcases hk with hk|hk
      ·exact hord.noWait _ (by simp [hju]) hjn k hk ⟨o',ho',e,he,hb,heq⟩
      ·subst hk;exact hself ⟨o',ho',e,he,hb,heq⟩
     ·subst hk
      have:=hd o' ho' e he hb
      rw [heq,hju]at this;cases this
   have hstep: ∀w',((snk=true∧q=.done)∨S w')→ ∀a' ag',wpPlan P ops S Q q ag' w'→PendRun P ops S a' pend ag'→wpAny P md ops Q fuel (listed.setIfInBounds i true) a' w':=by
    intro w' hsa a' ag' hw' hrun'
    have hrun2:=hrun'
    have hSt:(pend= []∧q=.done)∨S w':=hsa.imp (fun h=>⟨hnil h.1,h.2⟩) id
    refine ih _ pend q a' ag' w' hcnt ?_
    have hne: ∀j∈pend.map (·.1),j≠i:=fun j hj e=>him (e▸hj)
    refine⟨by simpa using I.size,closed_set I.size hlt I.closed hd,?_,I.nodup,I.fl,?_,?_,hrun2,hSt,hw'⟩
    ·intro j hj
     refine⟨(I.apart j hj).1,?_⟩
     rw [getD_set_ne false (Ne.symm (hne j hj))]
     exact(I.apart j hj).2
    ·have hup: ∀(l:List Nat) {G G':Nat→Prop},(∀j,G j→G' j)→(∀j∈l,FloatsAt ops j)→OrdOK md ops (fun _=>false) G l→OrdOK md ops (fun _=>false) G' l:=by
      intro l
      induction l with
      |nil=>intro G G' _ _ _;trivial
      |cons j l ihl=>
       intro G G' hG hf h
       exact⟨h.1.mono hG,.inl (hf j List.mem_cons_self),ihl (fun k hk=>hk.imp (hG k) id) (fun k hk=>hf k (List.mem_cons_of_mem _ hk)) h.2.2⟩
     exact hup _ (fun j hj=>(getD_setIf hil).2 (.inl hj)) I.fl I.ord
    ·refine PlanOK.congr (fun j=>?_) hq
     rw [getD_setIf hil]
     simp only [With]
     constructor
     ·rintro((h|h)|h)
      ·exact .inl (.inl h)
      ·exact .inr h
      ·exact .inl (.inr h)
     ·rintro((h|h)|h)
      ·exact .inl (.inl h)
      ·exact .inr h
      ·exact .inl (.inr h)
   unfold Go.wpOp
   simp only [ho]
   by_cases hw:Region.wanted o (yielded ops ag.tmps)=true
   ·rw [if_pos hw]at hwp
    rw [←e2,if_pos hw]
    left
    unfold Oper.wp at hwp⊢
    rw [e1]at hwp
    refine upon_carry (fun v w' hk=>?_) (fun d w' hk=>?_) hwp
    ·exact hstep w' hk.1 _ _ hk.2 (e3 v)
    ·exact hstep w' hk.1 _ _ hk.2 ((PendRun.push hs (hs i o ho) (I.run.defers d) hap).2.2 undef)
   ·rw [if_neg hw]at hwp
    rw [←e2,if_neg hw]
    exact hstep w (.inr hSw) _ _ hwp (e3 undef)
  have hgo: ∀(rem:Plan) (pend:List (Nat×Value)) (ag:Act),PlanInv P md ops S Q listed pend rem a ag w→
   wpOp P ops Q i (wpAny P md ops Q fuel (listed.setIfInBounds i true)) a w:=by
   intro rem
   induction rem with
   |done=>
    intro pend ag I
    rcases I.plan i hlt with h|h
    ·rw [hun]at h;cases h
    ·exact hpull pend .done ag I h
   |nofork=>intro pend ag I;exact I.plan.elim
   |take c p ihp=>
    intro pend ag I
    obtain⟨⟨hc1,hc2,hc3,hc4⟩,hpl⟩:=I.plan
    obtain⟨oc,hoc⟩: ∃oc,ops[c]? =some oc:=⟨_,Array.getElem?_eq_getElem hc1⟩
    have hwp:=I.wp
    simp only [wpPlan,hoc]at hwp
    have hnext: ∃v,RunsNow P ops S oc ag v∧wpPlan P ops S Q p (ag.put oc.dst v) w:=by
     by_cases hw:Region.wanted oc (yielded ops ag.tmps)=true
     ·rw [if_pos hw]at hwp
      obtain⟨v,h1,h2⟩:=hwp
      exact⟨v,.inl ⟨hw,h1⟩,h2⟩
     ·rw [if_neg hw]at hwp
      exact⟨undef,.inr ⟨by simpa using hw,rfl⟩,hwp⟩
    obtain⟨v,hrn,hwp'⟩:=hnext
    have e:(pend++ [(c,v)]).map (·.1)=pend.map (·.1)++ [c]:=by simp
    refine ihp (pend++ [(c,v)]) (ag.put oc.dst v) ⟨I.size,I.closed,?_,?_,?_,?_,?_,I.run.snoc hoc hrn,.inr (I.st.resolve_left (by rintro⟨_,h⟩;cases h)),hwp'⟩
    ·rw [e];intro j hj
     rcases List.mem_append.1 hj with h|h
     ·exact I.apart j h
     ·simp at h;subst h;exact⟨hc1,by simpa using fun h=>hc2 (.inl h)⟩
    ·rw [e]
     refine List.nodup_append.2 ⟨I.nodup,by simp,fun x hx y hy=>?_⟩
     simp at hy;subst hy
     intro e;subst e;exact hc2 (.inr hx)
    ·rw [e];intro j hj
     rcases List.mem_append.1 hj with h|h
     ·exact I.fl j h
     ·simp at h;subst h;exact hc4
    ·rw [e];exact I.ord.snoc _ hc3 hc4
    ·refine PlanOK.congr (fun j=>?_) hpl
     rw [e]
     simp only [With,List.mem_append,List.mem_singleton,or_assoc]
   |fork c snk p rest _ _=>
    intro pend ag I
    by_cases him:i∈pend.map (·.1)
    ·exact hpull pend _ ag I him
    ·refine hact pend _ ag I (I.st.resolve_left (by rintro⟨_,h⟩;cases h)) him ?_
     obtain⟨hall,hone,hrest⟩:=I.plan
     have hmem:=hall i hlt (by simp only [not_or];exact⟨by simp [hun],him⟩) (hd.mono fun j hj=>.inl hj)
     have hchain:ChainOK md ops (.fork c snk p rest) (fun k=>listed.getD k false=true∨k∈pend.map (·.1)):=⟨hone,hrest⟩
     exact chain_get hchain hmem I.wp
  exact hgo rem pend ag I
theorem wp_plan {id:Nat} {a:Act} {w:World} {l:List Oper} (p:Plan) (hm:P.follows .mixedOrders=true) (hB:planOKB .any l.toArray p=true) (hS:S w.drew)
 (h:wpPlan P l.toArray S Q p a w.drew):(Code.region id l.toArray true).wp P Q a w:=by
 simp only [planOKB,Bool.and_eq_true]at hB
 obtain⟨⟨hsel,hpair⟩,hplan⟩:=hB
 refine wp_region_any hm ?_
 have hrep: ∀j,(Array.replicate l.toArray.size false).getD j false=false:=by
  intro j
  rw [Array.getD_eq_getD_getElem?,Array.getElem?_replicate]
  split<;>rfl
 refine wpAny_of_plan (fun j oj hj cs b=>Region.noSelect_spec hsel j oj cs b hj) (pairsB_spec hpair) _ _ [] p a a _ ?_ ⟨by simp,?_,by simp,by simp,by simp,trivial,?_,.nil _,.inr hS,h⟩
 ·unfold unl
  rw [Array.toList_replicate,List.count_replicate]
  simp
 ·intro j hj
  rw [hrep]at hj;cases hj
 ·exact PlanOK.congr (fun j=>by simp) ((planB_spec p).1 _ (by simp) hplan)
def wpFork (P:Program) (ops:Array Oper) (S:World→Prop) (Q:Exit→Act→World→Prop) (i:Nat) (sink:Bool) (p:Plan) (a:Act) (w:World):Prop:=
 match ops[i]? with
  |none=>False
  |some o=>
   if Region.wanted o (yielded ops a.tmps)then o.wp P a w (fun a' w'=>((sink=true∧p=.done)∨S w')∧wpPlan P ops S Q p a' w') (fun _ _ _=>False)
   else wpPlan P ops S Q p (a.put o.dst undef) w
section
variable {a : Act} {w : World} {i : Nat} {p rest : Plan} {o : Oper} {snk : Bool}
theorem wpPlan_fork (h:wpFork P ops S Q i snk p a w) (hr:wpPlan P ops S Q rest a w):wpPlan P ops S Q (.fork i snk p rest) a w:=⟨h,hr⟩
theorem wpPlan_take {v:Value} (ho:ops[i]? =some o) (hw:Region.wanted o (yielded ops a.tmps)=true) (hr: ∀w',S w'→(execOp a.eval o).run P w'=.ok (.value v) w') (h:wpPlan P ops S Q p (a.put o.dst v) w):wpPlan P ops S Q (.take i p) a w:=by
 simp only [wpPlan,ho,if_pos hw]
 exact⟨v,hr,h⟩
theorem wpPlan_skip (ho:ops[i]? =some o) (hw:Region.wanted o (yielded ops a.tmps)=false) (h:wpPlan P ops S Q p (a.put o.dst undef) w):wpPlan P ops S Q (.take i p) a w:=by
 simp only [wpPlan,ho,hw]
 exact h
theorem wpFork_act (ho:ops[i]? =some o) (hw:Region.wanted o (yielded ops a.tmps)=true) (h:o.wp P a w (fun a' w'=>S w'∧wpPlan P ops S Q p a' w') (fun _ _ _=>False)):wpFork P ops S Q i snk p a w:=by
 simp only [wpFork,ho,if_pos hw]
 exact Oper.wp_mono (fun _ _ h=>⟨.inr h.1,h.2⟩) h
theorem wpFork_last (ho:ops[i]? =some o) (hw:Region.wanted o (yielded ops a.tmps)=true) (h:o.wp P a w (wpPlan P ops S Q .done) (fun _ _ _=>False)):wpFork P ops S Q i true .done a w:=by
 simp only [wpFork,ho,if_pos hw]
 exact Oper.wp_mono (fun _ _ h=>⟨.inl (by simp),h⟩) h
end
end
end Go.Proofs.YtalmjkcapecpiaaGreat.St
namespace Go.Proofs.YtalmjkcapecpiaaGreat
def bitLen (n:Nat):Nat:=if n=0 then 0 else Nat.log2 n+1
theorem bitLen_zero:bitLen 0=0:=rfl
theorem lt_bitLen (n:Nat):n<2^bitLen n:=by
 unfold bitLen
 split
 ·subst n;decide
 ·exact Nat.lt_log2_self
theorem bitLen_le {n k:Nat} :bitLen n≤k↔n<2^k:=by
 constructor
 ·intro h
  exact Nat.lt_of_lt_of_le (lt_bitLen n) (Nat.pow_le_pow_right (by omega) h)
 ·intro h
  unfold bitLen
  split
  ·omega
  ·rename_i h0
   have:=(Nat.log2_lt h0).2 h
   omega
theorem bitLen_eq {n k:Nat} (h1:n<2^k) (h2:k=0∨2^(k- 1)≤n):bitLen n=k:=by
 have a:=bitLen_le.2 h1
 rcases h2 with rfl|h2
 ·omega
 ·by_cases hk:bitLen n≤k- 1
  ·have:=bitLen_le.1 hk;omega
  ·omega
theorem bitLen_pos {n:Nat} (h:0<n):0<bitLen n:=by
 by_cases h0:bitLen n≤0
 ·have:=bitLen_le.1 h0;omega
 ·omega
theorem libBitLenAux_eq (f:Nat): ∀x,x<2^f→Lib.bitLenAux f x=bitLen x:=by
 induction f with
 | zero => intro x h; have : x = 0 := by simpa using h
           subst this;rfl
 |succ f ih=>
  intro x h
  unfold Lib.bitLenAux
  split
  ·rename_i h0;subst h0;rfl
  ·rename_i h0
   rw [ih (x/2) (by rw [Nat.pow_succ]at h;omega)]
   symm
   refine bitLen_eq ?_ (.inr ?_)
   ·have:=lt_bitLen (x/2)
    rw [Nat.add_comm,Nat.pow_succ];omega
   ·rw [show 1+bitLen (x/2)- 1=bitLen (x/2)from by omega]
    by_cases h1:x/2=0
    ·rw [h1];simp [bitLen_zero];omega
    ·have hp:=bitLen_pos (n:=x/2) (by omega)
     have: ¬bitLen (x/2)≤bitLen (x/2)- 1:=by omega
     rw [bitLen_le]at this
     have e:2^bitLen (x/2)=2^(bitLen (x/2)- 1)*2:=by rw [←Nat.pow_succ];congr 1;omega
     omega
theorem libBitLen_eq {x:Nat} (h:x<2^64):Lib.bitLen x=bitLen x:=libBitLenAux_eq 64 x h
def val (B:Nat):List Nat→Nat
 | []=>0
 |x::l=>x+B*val B l
theorem val_append (B:Nat) (a b:List Nat):val B (a++b)=val B a+B^a.length*val B b:=by
 induction a with
 |nil=>simp [val]
 |cons x a ih=>simp only [List.cons_append,val,ih,List.length_cons,Nat.pow_succ];rw [Nat.mul_add,Nat.add_assoc,Nat.mul_comm (B^a.length) B,Nat.mul_assoc]
theorem val_lt {B:Nat} {l:List Nat} (hB:0<B) (h: ∀x∈l,x<B):val B l<B^l.length:=by
 induction l with
 |nil=>simp [val]
 |cons x l ih=>
  have h1:=ih fun y hy=>h y (List.mem_cons_of_mem _ hy)
  have h2:=h x List.mem_cons_self
  simp only [val,List.length_cons,Nat.pow_succ]
  have h3:B*(val B l+1)≤B*B^l.length:=Nat.mul_le_mul_left _ h1
  rw [Nat.mul_add,Nat.mul_one]at h3
  rw [Nat.mul_comm (B^l.length) B]
  omega
theorem val_div_mod {B:Nat} {l:List Nat} (hB:0<B) (h: ∀x∈l,x<B): ∀(i:Nat) (hi:i<l.length),val B l/B^i % B=l[i]:=by
 induction l with
 |nil=>intro i hi;simp at hi
 |cons x l ih=>
  intro i hi
  have h2:=h x List.mem_cons_self
  cases i with
  |zero=>simp only [val,Nat.pow_zero,Nat.div_one,List.getElem_cons_zero];rw [Nat.add_mul_mod_self_left];exact Nat.mod_eq_of_lt h2
  |succ i=>
   simp only [val,List.getElem_cons_succ]
   rw [Nat.pow_succ,Nat.mul_comm (B^i) B, ←Nat.div_div_eq_div_mul,Nat.add_mul_div_left _ _ hB,Nat.div_eq_of_lt h2,Nat.zero_add]
   exact ih (fun y hy=>h y (List.mem_cons_of_mem _ hy)) i (by simpa using hi)
theorem val_replicate (B n:Nat):val B (List.replicate n 0)=0:=by
 induction n with
 |zero=>rfl
 |succ n ih=>simp [List.replicate_succ,val,ih]
theorem val_inj {B:Nat} (hB:0<B) {a b:List Nat} (hl:a.length=b.length) (ha: ∀x∈a,x<B) (hb: ∀x∈b,x<B) (h:val B a=val B b):a=b:=by
 apply List.ext_getElem hl
 intro i h1 h2
 rw [←val_div_mod hB ha i h1, ←val_div_mod hB hb i h2,h]
def dig (B k N:Nat):List Nat:=(List.range k).map fun i=>N/B^i % B
@[simp] theorem length_dig (B k N:Nat):(dig B k N).length=k:=by simp [dig]
theorem dig_lt {B:Nat} (hB:0<B) (k N:Nat): ∀x∈dig B k N,x<B:=by
 intro x hx;obtain⟨i,_,rfl⟩:=List.mem_map.1 hx;exact Nat.mod_lt _ hB
theorem dig_succ (B k N:Nat):dig B (k+1) N=N % B::dig B k (N/B):=by
 simp only [dig,List.range_succ_eq_map,List.map_cons,List.map_map,Nat.pow_zero,Nat.div_one]
 congr 1
 apply List.map_congr_left
 intro i _
 simp only [Function.comp]
 rw [Nat.pow_succ,Nat.mul_comm,Nat.div_div_eq_div_mul]
theorem val_dig (B:Nat): ∀(k N:Nat),val B (dig B k N)=N % B^k:=by
 intro k
 induction k with
 |zero=>intro N;simp [dig,val,Nat.mod_one]
 |succ k ih=>
  intro N
  rw [dig_succ,val,ih,Nat.pow_succ,Nat.mul_comm (B^k) B,Nat.mod_mul]
theorem dig_val {B:Nat} (hB:0<B) {l:List Nat} (h: ∀x∈l,x<B):dig B l.length (val B l)=l:=by
 apply List.ext_getElem (by simp)
 intro i h1 h2
 simp only [dig,List.getElem_map,List.getElem_range]
 exact val_div_mod hB h i h2
def n64 (l:List UInt64):List Nat:=l.map UInt64.toNat
def v64 (l:List UInt64):Nat:=val (2^64) (n64 l)
theorem n64_lt (l:List UInt64): ∀x∈n64 l,x<2^64:=by
 intro x hx;obtain⟨y,_,rfl⟩:=List.mem_map.1 hx;exact y.toNat_lt
theorem n64_inj {a b:List UInt64} (h:n64 a=n64 b):a=b:=List.map_inj_right (fun x y e=>UInt64.toNat_inj.1 e)|>.1 h
@[simp] theorem length_n64 (l:List UInt64):(n64 l).length=l.length:=by simp [n64]
theorem v64_lt (l:List UInt64):v64 l<2^(64*l.length):=by
 have:=val_lt (B:=2^64) (by decide) (n64_lt l)
 rw [length_n64, ←Nat.pow_mul]at this
 exact this
theorem v64_inj {a b:List UInt64} (hl:a.length=b.length) (h:v64 a=v64 b):a=b:=
 n64_inj (val_inj (by decide) (by simpa using hl) (n64_lt a) (n64_lt b) h)
def limbsN (k N:Nat):List UInt64:=(List.range k).map fun i=>UInt64.ofNat (N/2^(64*i))
@[simp] theorem length_limbsN (k N:Nat):(limbsN k N).length=k:=by simp [limbsN]
theorem n64_limbsN (k N:Nat):n64 (limbsN k N)=dig (2^64) k N:=by
 simp only [n64,limbsN,dig,List.map_map]
 apply List.map_congr_left
 intro i _
 show(UInt64.ofNat (N/2^(64*i))).toNat=_
 rw [UInt64.toNat_ofNat',Nat.pow_mul]
theorem v64_limbsN (k N:Nat):v64 (limbsN k N)=N % 2^(64*k):=by rw [v64,n64_limbsN,val_dig, ←Nat.pow_mul]
theorem limbsN_v64 (l:List UInt64):limbsN l.length (v64 l)=l:=by
 apply n64_inj;rw [n64_limbsN,v64, ←length_n64,dig_val (by decide) (n64_lt l)]
theorem eq_limbsN {l:List UInt64} {k N:Nat} (hl:l.length=k) (h:v64 l=N):l=limbsN k N:=by rw [←hl, ←h,limbsN_v64]
def limbsOf (N:Nat):List UInt64:=limbsN ((bitLen N+63)/64) N
theorem limbLen_le {N k:Nat} :(bitLen N+63)/64≤k↔N<2^(64*k):=by
 rw [←bitLen_le];omega
theorem length_limbsOf (N:Nat):(limbsOf N).length=(bitLen N+63)/64:=by simp [limbsOf]
theorem v64_append (a b:List UInt64):v64 (a++b)=v64 a+2^(64*a.length)*v64 b:=by
 simp only [v64,n64,List.map_append,val_append,List.length_map, ←Nat.pow_mul]
theorem v64_replicate (n:Nat):v64 (List.replicate n 0)=0:=by simp [v64,n64,val_replicate]
theorem trim_eq {l:List UInt64} {k:Nat} (hk:k≤l.length) (hz: ∀i (h:i<l.length),k≤i→l[i]=0) (hl:k=0∨ ∃h:k- 1<l.length,l[k- 1]≠0):l.take k=limbsOf (v64 l):=by
 have hd:l.drop k=List.replicate (l.length- k) 0:=by
  apply List.ext_getElem (by simp)
  intro i h1 h2
  simp only [List.length_drop]at h1
  simp only [List.getElem_drop,List.getElem_replicate]
  exact hz (k+i) (by omega) (by omega)
 have hv:v64 l=v64 (l.take k):=by
  conv=>lhs;rw [←List.take_append_drop k l]
  rw [v64_append,hd,v64_replicate];simp
 have hlen:(l.take k).length=k:=by simp;omega
 refine eq_limbsN ?_ hv.symm
 rw [hlen]
 have h1:v64 l<2^(64*k):=by rw [hv];have:=v64_lt (l.take k);rwa [hlen]at this
 have h2:=limbLen_le.2 h1
 rcases hl with rfl|⟨hlt,hne⟩
 ·omega
 ·by_cases hc:(bitLen (v64 l)+63)/64≤k- 1
  ·exfalso
   have h3:=limbLen_le.1 hc
   have h4:=val_div_mod (B:=2^64) (by decide) (n64_lt l) (k- 1) (by simpa using hlt)
   have h5:val (2^64) (n64 l)/ (2^64)^(k- 1)=0:=by
    rw [←Nat.pow_mul];exact Nat.div_eq_of_lt h3
   rw [h5]at h4
   simp [n64]at h4
   exact hne (by rw [←UInt64.toNat_inj];simpa using h4.symm)
  ·by_cases h0:k=0
   ·omega
   ·omega
def be (l:List UInt8):Nat:=l.foldl (fun a x=>a*256+x.toNat) 0
theorem be_foldl (l:List UInt8): ∀a,l.foldl (fun a x=>a*256+x.toNat) a=a*256^l.length+be l:=by
 induction l with
 |nil=>intro a;simp [be]
 |cons x l ih=>
  intro a
  simp only [List.foldl_cons,be,List.length_cons,Nat.pow_succ]
  rw [ih,ih (0*256+x.toNat)]
  rw [Nat.zero_mul,Nat.zero_add,Nat.add_mul,Nat.mul_assoc,Nat.mul_comm 256 (256^l.length)]
  omega
theorem be_nil:be []=0:=rfl
theorem be_append (a b:List UInt8):be (a++b)=be a*256^b.length+be b:=by
 rw [be,List.foldl_append,be_foldl];rfl
theorem be_snoc (a:List UInt8) (x:UInt8):be (a++ [x])=be a*256+x.toNat:=by
 rw [be,List.foldl_append];rfl
theorem be_cons (x:UInt8) (l:List UInt8):be (x::l)=x.toNat*256^l.length+be l:=by
 have:=be_append [x] l
 simpa [be]using this
theorem be_lt (l:List UInt8):be l<256^l.length:=by
 induction l with
 |nil=>simp [be]
 |cons x l ih=>
  rw [be_cons,List.length_cons,Nat.pow_succ]
  have hx:=x.toNat_lt
  have:(x.toNat+1)*256^l.length≤256*256^l.length:=Nat.mul_le_mul_right _ (by omega)
  rw [Nat.add_mul]at this
  rw [Nat.mul_comm (256^l.length)]
  omega
def bytesN (n N:Nat):List UInt8:=(List.range n).map fun i=>UInt8.ofNat (N/256^(n- 1- i))
@[simp] theorem length_bytesN (n N:Nat):(bytesN n N).length=n:=by simp [bytesN]
theorem bytesN_succ (n N:Nat):bytesN (n+1) N=bytesN n (N/256)++ [UInt8.ofNat N]:=by
 apply List.ext_getElem (by simp)
 intro i h1 h2
 simp only [length_bytesN]at h1
 by_cases hi:i<n
 ·rw [List.getElem_append_left (by simpa using hi)]
  simp only [bytesN,List.getElem_map,List.getElem_range]
  rw [Nat.div_div_eq_div_mul,Nat.mul_comm, ←Nat.pow_succ]
  congr 3
  omega
 ·have:i=n:=by omega
  subst this
  rw [List.getElem_append_right (by simp)]
  simp [bytesN]
theorem be_bytesN (n:Nat): ∀N,be (bytesN n N)=N % 256^n:=by
 induction n with
 |zero=>intro N;simp [bytesN,be,Nat.mod_one]
 |succ n ih=>
  intro N
  rw [bytesN_succ,be_snoc,ih,Nat.pow_succ,Nat.mul_comm (256^n) 256,Nat.mod_mul,UInt8.toNat_ofNat']
  omega
def bytesOf (N:Nat):List UInt8:=bytesN ((bitLen N+7)/8) N
theorem byteLen_le {N k:Nat} :(bitLen N+7)/8≤k↔N<256^k:=by
 rw [show(256:Nat)=2^8 from rfl, ←Nat.pow_mul, ←bitLen_le];omega
theorem be_bytesOf (N:Nat):be (bytesOf N)=N:=by
 rw [bytesOf,be_bytesN];exact Nat.mod_eq_of_lt (byteLen_le.1 (Nat.le_refl _))
theorem length_bytesOf (N:Nat):(bytesOf N).length=(bitLen N+7)/8:=by simp [bytesOf]
theorem head_bytesOf (N:Nat):(bytesOf N).head?≠some 0:=by
 intro h
 cases hb:bytesOf N with
 |nil=>rw [hb]at h;cases h
 |cons x l=>
  rw [hb]at h
  have hx:x=0:=by simpa using h
  have h1:=be_bytesOf N
  have h2:=length_bytesOf N
  rw [hb,be_cons,hx]at h1
  rw [hb]at h2
  have h3:=be_lt l
  have h4:N<256^l.length:=by rw [←h1];simpa using h3
  have:=byteLen_le.2 h4
  simp only [List.length_cons]at h2
  omega
theorem wrap_u64_nat (n:Nat):IntKind.u64.wrap (n:Int)=((UInt64.ofNat n).toNat:Int):=by
 rw [IntKind.wrap_u64,UInt64.toNat_ofNat'];omega
theorem wrap_u8_nat (n:Nat):IntKind.u8.wrap (n:Int)=((UInt8.ofNat n).toNat:Int):=by
 rw [IntKind.wrap_u8',UInt8.toNat_ofNat'];omega
theorem bits_or_u64 (x y:UInt64):bits .or .u64 (x.toNat:Int) (y.toNat:Int)=((x |||y).toNat:Int):=by
 rw [bits_or_u64_nat _ _ x.toNat_lt y.toNat_lt,UInt64.toNat_or]
theorem bits_and_u64 (x y:UInt64):bits .and .u64 (x.toNat:Int) (y.toNat:Int)=((x&&&y).toNat:Int):=by
 rw [bits_and_u64_nat _ _ x.toNat_lt y.toNat_lt,UInt64.toNat_and]
theorem bits_xor_u64 (x y:UInt64):bits .xor .u64 (x.toNat:Int) (y.toNat:Int)=((x^^^y).toNat:Int):=by
 rw [bits_xor_u64_nat _ _ x.toNat_lt y.toNat_lt,UInt64.toNat_xor]
end Go.Proofs.YtalmjkcapecpiaaGreat
