/- Several texts in one: see the remarks ahead of each part. No condition but those told there. -/
import Derived.Test.YtljacjjeinmfnaaU1
import Derived.Test.YtljacjjeinmfnaaU2
import Derived.Test.YtljacjjeinmfnaaU13
import Derived.Test.YtljacjjeinmfnaaU3
import Derived.ArgAppend
import Derived.Laws.OwnMore
import Derived.Test.YtljacjjeinmfnaaU4
import Derived.Test.YtljacjjeinmfnaaU10
set_option linter.unusedSimpArgs false
set_option linter.unusedVariables false
/- The order of a region that draws, where what acts may panic: it may be walked in one order. No condition. -/
namespace Go.Proofs.Ytljacjjeinmfnaa.Pn
open Go
variable {P : Program} {ops : Array Oper} {md : Region.Mode} {Q : Exit → Act → World → Prop}
/-- Only panics. -/
def panQ (Q:Exit→Act→World→Prop):Exit→Act→World→Prop:=fun e a w=>(∃ch,e=.panic ch)∧Q e a w
/-- Behind a panic nothing is asked of the slots. -/
def PanOK (Q:Exit→Act→World→Prop):Prop:= ∀ch (a a':Act) (w:World),a.defers=a'.defers→Q (.panic ch) a w→Q (.panic ch) a' w
/-- The walk of a region in one order: what floats must be fit to (floatOK); behind what acts every block is as it was, or nothing that floats can still be to come (sink). -/
def wpOne (P:Program) (ops:Array Oper) (sink:Nat→Bool) (Q:Exit→Act→World→Prop):List Nat→Act→World→Prop
 | [],a,w=>Q .normal a w
 |i::rest,a,w=>
  match ops[i]? with
  |none=>False
  |some o=>
   if Region.wanted o (yielded ops a.tmps)then
    if floats o.op then floatOK P o.op a.eval=true∧o.wp P a w (wpOne P ops sink Q rest) (fun _ _ _=>False)
    else o.wp P a w (fun a' w'=>(sink i=true∨Agree w w')∧wpOne P ops sink Q rest a' w') (panQ Q)
   else wpOne P ops sink Q rest (a.put o.dst undef) w
variable {sink : Nat → Bool}
theorem dfeq {w:World} {a ag:Act} {l:List (Nat×Value)} (h:PendRun P ops w a l ag):ag.defers=a.defers:=by
 induction h with
 |nil a=>rfl
 | @cons a ag i v o l _ _ _ ih=>exact ih.trans (by unfold Act.put;cases o.dst<;>rfl)
theorem upon_carry {o:Oper} {a ag:Act} {K K':Act→World→Prop} {r:Result Next} (hQ:PanOK Q) (hdf:ag.defers=a.defers) (hv: ∀v w',K (ag.put o.dst v) w'→K' (a.put o.dst v) w')
 (hd: ∀d w',K ({ ag with defers:=d::ag.defers }.put o.dst undef) w'→K' ({ a with defers:=d::a.defers }.put o.dst undef) w')
 (h:o.upon P ag K (panQ Q) r):o.upon P a K' Q r:=by
 cases r with
 |ok n w'=>
  cases n<;>simp only [Oper.upon]at h⊢
  case value v=>exact hv _ _ h
  case skip=>exact hv _ _ h
  case defer d=>exact hd _ _ h
  case enter f args=>
   refine Calls.mono h fun e w'' he=>?_
   cases e with
   |returned v=>exact hv _ _ he
   |panicked c=>exact hQ _ _ _ _ hdf he.2
   |outgrown=>obtain⟨_,_,⟨_,hx⟩,_⟩:=he;cases hx
  case row row args=>exact Rows.mono h fun u w'' he=>hv _ _ he
 |halt x w'=>
  cases x<;>simp only [Oper.upon]at h⊢
  case panic v=>exact hQ _ _ _ _ hdf h.2
/-- All that is known while the order goes its own way. -/
structure OneInv (P:Program) (md:Region.Mode) (ops:Array Oper) (sink:Nat→Bool) (Q:Exit→Act→World→Prop) (listed:Array Bool) (pend:List (Nat×Value)) (rem:List Nat) (a ag:Act) (w:World):Prop where
 size:listed.size=ops.size
 closed: ∀j,listed.getD j false=true→DepsIn md ops (fun k=>listed.getD k false=true) j
 parts: ∀j,j<ops.size→listed.getD j false=true∨j∈pend.map (·.1)++rem
 apart: ∀j∈pend.map (·.1)++rem,j<ops.size∧listed.getD j false=false
 nodup:(pend.map (·.1)++rem).Nodup
 fl: ∀j∈pend.map (·.1),FloatsAt ops j
 ord:OrdOK md ops sink (fun k=>listed.getD k false=true) (pend.map (·.1)++rem)
 run:PendRun P ops w a pend ag
 wp:wpOne P ops sink Q rem ag w
theorem OneInv.apartPre {listed:Array Bool} {pre:List (Nat×Value)} {l:List Nat} {i:Nat} {o:Oper} (hp:PairsOK md ops) (hi:ops[i]? =some o)
 (hd:DepsIn md ops (fun k=>listed.getD k false=true) i) (hun:listed.getD i false=false) (hpre: ∀j∈pre.map (·.1),listed.getD j false=false) (hn:i∉pre.map (·.1))
 (hord:OrdOK md ops sink (fun k=>listed.getD k false=true) (pre.map (·.1)++i::l)): ∀p∈pre, ∀oj,ops[p.1]? =some oj→oj.apart ops o=true:=by
 intro p hpp oj hoj
 have hpm:p.1∈pre.map (·.1):=List.mem_map_of_mem hpp
 have hne:p.1≠i:=fun e=>hn (e▸hpm)
 rcases hp p.1 i oj o hoj hi hne with h|h|h
 ·exact h
 ·exact absurd h (hord.noWait _ (by simp [hun]) hn p.1 hpm)
 ·obtain⟨o',ho',e,he,hb,heq⟩:=h
  have:=hd o' ho' e he hb
  rw [heq,hpre _ hpm]at this
  cases this
theorem wpAny_of_one (hs: ∀(j:Nat) (oj:Oper),ops[j]? =some oj→NoSel oj) (hp:PairsOK md ops) (hQ:PanOK Q):
 ∀(fuel:Nat) (listed:Array Bool) (pend:List (Nat×Value)) (rem:List Nat) (a ag:Act) (w:World),
  pend.length+rem.length≤fuel→OneInv P md ops sink Q listed pend rem a ag w→wpAny P md ops Q fuel listed a w:=by
 have stop: ∀(listed:Array Bool) (pend:List (Nat×Value)) (rem:List Nat) (a ag:Act) (w:World),OneInv P md ops sink Q listed pend rem a ag w→Region.ready md ops listed= []→Q .normal a w:=by
  intro listed pend rem a ag w I hr
  cases hl:pend.map (·.1)++rem with
  |nil=>
   obtain⟨h1,h2⟩:=List.append_eq_nil_iff.1 hl
   have h1':pend= []:=by simpa using h1
   subst h1';subst h2
   have hrun:=I.run
   cases hrun
   exact I.wp
  |cons i l=>
   have ha:=I.apart i (by rw [hl];exact List.mem_cons_self)
   have ho:=I.ord
   rw [hl]at ho
   have:i∈Region.ready md ops listed:=(ready_iff I.size).2 ⟨ha.1,ha.2,ho.1⟩
   rw [hr]at this
   cases this
 intro fuel
 induction fuel with
 |zero=>
  intro listed pend rem a ag w hlen I
  have hp0:pend= []:=List.eq_nil_of_length_eq_zero (by omega)
  have hr0:rem= []:=List.eq_nil_of_length_eq_zero (by omega)
  subst hp0;subst hr0
  have hready:Region.ready md ops listed= []:=by
   cases h:Region.ready md ops listed with
   |nil=>rfl
   |cons j l=>
    have hj:j∈Region.ready md ops listed:=by rw [h];exact List.mem_cons_self
    obtain⟨hlt,h0,_⟩:=(ready_iff I.size).1 hj
    rcases I.parts j hlt with h1|h1
    ·rw [h0]at h1;cases h1
    ·cases h1
  exact⟨hready,stop _ _ _ _ _ _ I hready⟩
 |succ fuel ih=>
  intro listed pend rem a ag w hlen I
  refine⟨stop _ _ _ _ _ _ I,?_⟩
  intro i hi
  obtain⟨hlt,hun,hd⟩:=(ready_iff I.size).1 hi
  obtain⟨o,ho⟩: ∃o,ops[i]? =some o:=⟨_,Array.getElem?_eq_getElem hlt⟩
  -- an operation that is pending comes up
  have hpull: ∀(pend:List (Nat×Value)) (rem:List Nat) (ag:Act),pend.length+rem.length≤fuel+1→OneInv P md ops sink Q listed pend rem a ag w→i∈pend.map (·.1)→
   wpOp P ops Q i (wpAny P md ops Q fuel (listed.setIfInBounds i true)) a w:=by
   intro pend rem ag hlen I hm
   obtain⟨⟨i',v⟩,hmem,rfl⟩:=List.mem_map.1 hm
   obtain⟨pre,post,rfl⟩:=List.append_of_mem hmem
   dsimp only at*
   have hord:=I.ord
   have hnd:=I.nodup
   simp only [List.map_append,List.map_cons,List.append_assoc,List.cons_append]at hord hnd
   have hn:i'∉pre.map (·.1):=by
    intro hh
    have:=List.nodup_append.1 hnd
    exact this.2.2 i' hh i' List.mem_cons_self rfl
   have hpre: ∀j∈pre.map (·.1),listed.getD j false=false:=fun j hj=>(I.apart j (by simp only [List.map_append,List.append_assoc];exact List.mem_append_left _ hj)).2
   obtain⟨h1,h2⟩:=PendRun.pull ho hs pre (OneInv.apartPre hp ho hd hun hpre hn hord) I.run
   refine h1.wpOp ho ?_
   refine ih _ (pre++post) rem _ ag w (by simp at hlen⊢;omega) ?_
   have hsub: ∀j,j∈(pre++post).map (·.1)++rem→j∈(pre++(i',v)::post).map (·.1)++rem∧j≠i':=by
    intro j hj
    simp only [List.map_append,List.map_cons,List.append_assoc,List.cons_append]at hj⊢
    refine⟨?_,?_⟩
    ·rcases List.mem_append.1 hj with h|h
     ·exact List.mem_append_left _ h
     ·exact List.mem_append_right _ (List.mem_cons_of_mem _ h)
    ·rintro rfl
     have hnd2:=List.nodup_append.1 hnd
     rcases List.mem_append.1 hj with h|h
     ·exact hn h
     ·exact(List.nodup_cons.1 hnd2.2.1).1 h
   refine⟨by simpa using I.size,closed_set I.size hlt I.closed hd,?_,?_,?_,?_,?_,h2,I.wp⟩
   ·intro j hj
    rcases I.parts j hj with h|h
    ·exact .inl ((bQ (by have:=I.size;omega)).2 (.inl h))
    ·by_cases hji:j=i'
     ·exact .inl ((bQ (by have:=I.size;omega)).2 (.inr hji))
     ·right
      simp only [List.map_append,List.map_cons,List.append_assoc,List.cons_append]at h⊢
      rcases List.mem_append.1 h with h|h
      ·exact List.mem_append_left _ h
      ·rcases List.mem_cons.1 h with h|h
       ·exact absurd h hji
       ·exact List.mem_append_right _ h
   ·intro j hj
    obtain⟨h1,h2⟩:=hsub j hj
    refine⟨(I.apart j h1).1,?_⟩
    rw [Go.getD_set_ne false (Ne.symm h2)]
    exact(I.apart j h1).2
   ·simp only [List.map_append,List.append_assoc]
    exact(List.nodup_cons.1 ((List.Perm.nodup_iff List.perm_middle).1 hnd)).2
   ·intro j hj
    refine I.fl j ?_
    simp only [List.map_append,List.map_cons]at hj⊢
    rcases List.mem_append.1 hj with h|h
    ·exact List.mem_append_left _ h
    ·exact List.mem_append_right _ (List.mem_cons_of_mem _ h)
   ·have:=OrdOK.pull (pre.map (·.1)) (fun j hj=>I.fl j (by simp only [List.map_append];exact List.mem_append_left _ hj)) hd hord
    simp only [List.map_append,List.append_assoc]
    exact OrdOK.congr (fun j=>(bQ (by have:=I.size;omega)).symm) this
  -- on along the order till i has been met
  have hgo: ∀(rem:List Nat) (pend:List (Nat×Value)) (ag:Act),pend.length+rem.length≤fuel+1→OneInv P md ops sink Q listed pend rem a ag w→
   wpOp P ops Q i (wpAny P md ops Q fuel (listed.setIfInBounds i true)) a w:=by
   intro rem
   induction rem with
   |nil=>
    intro pend ag hlen I
    rcases I.parts i hlt with h|h
    ·rw [hun]at h;cases h
    ·exact hpull pend [] ag hlen I (by simpa using h)
   |cons c rem ihr=>
    intro pend ag hlen I
    have hc:=I.apart c (by simp)
    obtain⟨oc,hoc⟩: ∃oc,ops[c]? =some oc:=⟨_,Array.getElem?_eq_getElem hc.1⟩
    have hat:=OrdOK.at (pend.map (·.1)) I.ord
    have hwp:=I.wp
    simp only [wpOne,hoc]at hwp
    by_cases hfl:floats oc.op=true
    · -- it floats: it joins those that are pending
     have hnext: ∃v,RunsNow P ops w oc ag v∧wpOne P ops sink Q rem (ag.put oc.dst v) w:=by
      by_cases hw:Region.wanted oc (yielded ops ag.tmps)=true
      ·rw [if_pos hw,if_pos hfl]at hwp
       exact runsNow_of_wp hw hwp.1 hwp.2
      ·rw [if_neg hw]at hwp
       exact⟨undef,.inr ⟨by simpa using hw,rfl⟩,hwp⟩
     obtain⟨v,hrn,hwp'⟩:=hnext
     have hrun:PendRun P ops w a (pend++ [(c,v)]) (ag.put oc.dst v):=by
      exact I.run.snoc hoc hrn
     have e:(pend++ [(c,v)]).map (·.1)++rem=pend.map (·.1)++c::rem:=by simp
     refine ihr (pend++ [(c,v)]) (ag.put oc.dst v) (by simp at hlen⊢;omega) ⟨I.size,I.closed,?_,?_,?_,?_,?_,hrun,hwp'⟩
     ·rw [e];exact I.parts
     ·rw [e];exact I.apart
     ·rw [e];exact I.nodup
     ·intro j hj
      simp only [List.map_append,List.map_cons,List.map_nil]at hj
      rcases List.mem_append.1 hj with h|h
      ·exact I.fl j h
      ·simp at h;subst h;intro o' ho';rw [hoc]at ho';cases ho';exact hfl
     ·rw [e];exact I.ord
    · -- it acts
     by_cases him:i∈pend.map (·.1)
     ·exact hpull pend (c::rem) ag hlen I him
     ·rcases hat.2.1 with hf|⟨honly,hsink⟩
      ·exact absurd (hf oc hoc) hfl
      have hci:i=c:=honly i hlt (by simp only [not_or];exact⟨by simp [hun],him⟩) (hd.mono fun j hj=>.inl hj)
      subst hci
      rw [ho]at hoc;cases hoc
      have hpre: ∀j∈pend.map (·.1),listed.getD j false=false:=fun j hj=>(I.apart j (List.mem_append_left _ hj)).2
      have hap:=OneInv.apartPre hp ho hd hun hpre him I.ord
      obtain⟨e1,e2,e3⟩:=PendRun.push hs (hs i o ho) I.run hap
      have hnd:=I.nodup
      have hstep: ∀w',(sink i=true∨Agree w w')→ ∀a' ag',wpOne P ops sink Q rem ag' w'→PendRun P ops w a' pend ag'→wpAny P md ops Q fuel (listed.setIfInBounds i true) a' w':=by
       intro w' hsa a' ag' hw' hrun'
       have hrun2:PendRun P ops w' a' pend ag':=by
        rcases hsa with hsa|hsa
        · -- the sink: nothing is pending
         have hnil:pend= []:=by
          rcases List.eq_nil_or_concat pend with h|⟨pre,⟨j,u⟩,h⟩
          ·exact h
          ·exfalso
           rw [List.concat_eq_append]at h
           subst h
           have hjm:j∈(pre++ [(j,u)]).map (·.1):=by simp
           have hju:=hpre j hjm
           obtain⟨k,hk,hwt⟩:=hsink hsa j (.inr hjm)
           have hord:=I.ord
           simp only [List.map_append,List.map_cons,List.map_nil,List.append_assoc,List.singleton_append]at hord hnd
           have hjn:j∉pre.map (·.1):=fun hh=>(List.nodup_append.1 hnd).2.2 j hh j List.mem_cons_self rfl
           have hself: ¬WaitsOn md ops j j:=by
            intro hh
            obtain⟨o',ho',e,he,hb,heq⟩:=hh
            have h0:=(OrdOK.at (pre.map (·.1)) hord).1 o' ho' e he hb
            rw [heq]at h0
            rcases h0 with h0|h0
            ·rw [hju]at h0;cases h0
            ·exact hjn h0
           obtain⟨o',ho',e,he,hb,heq⟩:=hwt
           rcases hk with (hk|hk)|hk
           ·have:=I.closed k hk o' ho' e he hb
            rw [heq,hju]at this;cases this
           ·simp only [List.map_append,List.map_cons,List.map_nil,List.mem_append,List.mem_singleton]at hk
            rcases hk with hk|hk
            ·exact hord.noWait _ (by simp [hju]) hjn k hk ⟨o',ho',e,he,hb,heq⟩
            ·subst hk;exact hself ⟨o',ho',e,he,hb,heq⟩
           ·subst hk
            have:=hd o' ho' e he hb
            rw [heq,hju]at this;cases this
         subst hnil
         cases hrun'
         exact .nil _
        ·exact hrun'.mono hsa
       refine ih _ pend rem a' ag' w' (by simp at hlen⊢;omega) ?_
       have hsub: ∀j,j∈pend.map (·.1)++rem→j∈pend.map (·.1)++i::rem∧j≠i:=by
        intro j hj
        refine⟨?_,?_⟩
        ·rcases List.mem_append.1 hj with h|h
         ·exact List.mem_append_left _ h
         ·exact List.mem_append_right _ (List.mem_cons_of_mem _ h)
        ·rintro rfl
         rcases List.mem_append.1 hj with h|h
         ·exact him h
         ·exact(List.nodup_cons.1 (List.nodup_append.1 hnd).2.1).1 h
       refine⟨by simpa using I.size,closed_set I.size hlt I.closed hd,?_,?_,?_,I.fl,?_,hrun2,hw'⟩
       ·intro j hj
        rcases I.parts j hj with h|h
        ·exact .inl ((bQ (by have:=I.size;omega)).2 (.inl h))
        ·by_cases hji:j=i
         ·exact .inl ((bQ (by have:=I.size;omega)).2 (.inr hji))
         ·right
          rcases List.mem_append.1 h with h|h
          ·exact List.mem_append_left _ h
          ·rcases List.mem_cons.1 h with h|h
           ·exact absurd h hji
           ·exact List.mem_append_right _ h
       ·intro j hj
        obtain⟨h1,h2⟩:=hsub j hj
        refine⟨(I.apart j h1).1,?_⟩
        rw [Go.getD_set_ne false (Ne.symm h2)]
        exact(I.apart j h1).2
       ·exact(List.nodup_cons.1 ((List.Perm.nodup_iff List.perm_middle).1 hnd)).2
       ·exact OrdOK.congr (fun j=>(bQ (by have:=I.size;omega)).symm) (OrdOK.pull (pend.map (·.1)) I.fl hd I.ord)
      unfold Go.wpOp
      simp only [ho]
      by_cases hw:Region.wanted o (yielded ops ag.tmps)=true
      ·rw [if_pos hw,if_neg hfl]at hwp
       rw [←e2,if_pos hw]
       left
       unfold Oper.wp at hwp⊢
       rw [e1]at hwp
       refine upon_carry hQ (dfeq I.run) (fun v w' hk=>?_) (fun d w' hk=>?_) hwp
       ·exact hstep w' hk.1 _ _ hk.2 (e3 v)
       ·exact hstep w' hk.1 _ _ hk.2 ((PendRun.push hs (hs i o ho) (I.run.defers d) hap).2.2 undef)
      ·rw [if_neg hw]at hwp
       rw [←e2,if_neg hw]
       exact hstep w (.inr (Agree.refl w)) _ _ hwp (e3 undef)
  exact hgo rem pend ag hlen I
/-! The check of an order, by evaluation. -/
/-- A REGION THAT DRAWS, WALKED IN ONE ORDER. -/
theorem wp_one {id:Nat} {a:Act} {w:World} {l:List Oper} (snk ord:List Nat) (hm:P.follows .mixedOrders=true) (hB:oneB .any l.toArray snk ord=true)
 (hQ:PanOK Q) (h:wpOne P l.toArray (fun i=>snk.contains i) Q ord a w.drew):(Code.region id l.toArray true).wp P Q a w:=by
 simp only [oneB,Bool.and_eq_true,decide_eq_true_eq]at hB
 obtain⟨⟨⟨⟨⟨⟨hsel,hpair⟩,hord⟩,hall⟩,hnd⟩,hlt⟩,hlen⟩:=hB
 refine wp_region_any hm (wpAny_of_one (fun j oj hj cs b=>Region.noSelect_spec hsel j oj cs b hj) (pairsB_spec hpair) hQ _ _ [] ord a a _ ?_ ⟨by simp,?_,?_,?_,by simpa using hnd,by simp,?_,.nil _,h⟩)
 ·simpa using hlen
 ·intro j hj
  exfalso
  rw [Array.getD_eq_getD_getElem?,Array.getElem?_replicate]at hj
  split at hj<;>cases hj
 ·intro j hj
  right
  have:=List.all_eq_true.1 hall j (List.mem_range.2 hj)
  simpa using this
 ·intro j hj
  refine⟨by simpa using List.all_eq_true.1 hlt j (by simpa using hj),?_⟩
  rw [Array.getD_eq_getD_getElem?,Array.getElem?_replicate]
  split<;>rfl
 ·exact ordB_spec _ _ (by simp) hord
/-! The steps. -/
section
variable {a : Act} {w : World} {i : Nat} {rest : List Nat} {o : Oper}
theorem wpOne_nil (h:Q .normal a w):wpOne P ops sink Q [] a w:=h
theorem wpOne_float (ho:ops[i]? =some o) (hf:floats o.op=true) (hw:Region.wanted o (yielded ops a.tmps)=true) (hok:floatOK P o.op a.eval=true)
 (h: ∀K:Act→World→Prop,(∀a w,wpOne P ops sink Q rest a w→K a w)→o.wp P a w K (fun _ _ _=>False)):wpOne P ops sink Q (i::rest) a w:=by
 simp only [wpOne,ho,if_pos hw,if_pos hf]
 exact⟨hok,h _ fun _ _ h=>h⟩
theorem wpOne_skip (ho:ops[i]? =some o) (hw:Region.wanted o (yielded ops a.tmps)=false) (h:wpOne P ops sink Q rest (a.put o.dst undef) w):wpOne P ops sink Q (i::rest) a w:=by
 simp only [wpOne,ho,hw]
 exact h
theorem wpOne_sink (ho:ops[i]? =some o) (hf:floats o.op=false) (hs:sink i=true) (hw:Region.wanted o (yielded ops a.tmps)=true)
 (h: ∀K:Act→World→Prop,(∀a w,wpOne P ops sink Q rest a w→K a w)→o.wp P a w K (panQ Q)):wpOne P ops sink Q (i::rest) a w:=by
 simp only [wpOne,ho,if_pos hw,hf,hs]
 exact h _ fun _ _ h=>⟨.inl trivial,h⟩
theorem wpOne_act (ho:ops[i]? =some o) (hf:floats o.op=false) (hw:Region.wanted o (yielded ops a.tmps)=true)
 (h: ∀K:Act→World→Prop,(∀a' w',(Agree w w'∧wpOne P ops sink Q rest a' w')→K a' w')→o.wp P a w K (panQ Q)):wpOne P ops sink Q (i::rest) a w:=by
 simp only [wpOne,ho,if_pos hw,hf]
 exact h _ fun _ _ h=>⟨.inr h.1,h.2⟩
end
end Go.Proofs.Ytljacjjeinmfnaa.Pn
/- The order of a region that draws, where what acts may panic and may write what nothing reads that floats: it may be walked in one order. No condition. -/
namespace Go.Proofs.Ytljacjjeinmfnaa.St.Sp
open Go Go.Proofs.Ytljacjjeinmfnaa
section
variable {P : Program} {ops : Array Oper} {md : Region.Mode} {S : World → Prop} {sink : Nat → Bool} {Q : Exit → Act → World → Prop}
def wpOne (P:Program) (ops:Array Oper):(World→Prop)→(Nat→Bool)→(Exit→Act→World→Prop)→List Nat→Act→World→Prop
 |_,_,Q,[],a,w=>Q .normal a w
 |S,sink,Q,i::rest,a,w=>
  match ops[i]? with
  |none=>False
  |some o=>
   if Region.wanted o (yielded ops a.tmps)then
    if floats o.op then ∃v,(∀w',S w'→(execOp a.eval o).run P w'=.ok (.value v) w')∧wpOne P ops S sink Q rest (a.put o.dst v) w
    else o.wp P a w (fun a' w'=> ∃S':World→Prop,((∀u,S' u→S u)∨sink i=true)∧S' w'∧wpOne P ops S' sink Q rest a' w') (Pn.panQ Q)
   else wpOne P ops S sink Q rest (a.put o.dst undef) w
theorem dfeq {a ag:Act} {l:List (Nat×Value)} (h:PendRun P ops S a l ag):ag.defers=a.defers:=by
 induction h with
 |nil a=>rfl
 | @cons a ag i v o l _ _ _ ih=>exact ih.trans (by unfold Act.put;cases o.dst<;>rfl)
/-- All that is known while the order goes its own way. -/
structure OneInv (P:Program) (md:Region.Mode) (ops:Array Oper) (S:World→Prop) (sink pl:Nat→Bool) (Q:Exit→Act→World→Prop) (listed:Array Bool) (pend:List (Nat×Value)) (rem:List Nat) (a ag:Act) (w:World):Prop where
 size:listed.size=ops.size
 closed: ∀j,listed.getD j false=true→DepsIn md ops (fun k=>listed.getD k false=true) j
 parts: ∀j,j<ops.size→listed.getD j false=true∨j∈pend.map (·.1)++rem
 apart: ∀j∈pend.map (·.1)++rem,j<ops.size∧listed.getD j false=false
 nodup:(pend.map (·.1)++rem).Nodup
 fl: ∀j∈pend.map (·.1),FloatsAt ops j
 ord:OrdOK md ops (fun _=>false) (fun k=>listed.getD k false=true) (pend.map (·.1)++rem)
 snk:SinkOK md ops sink pl (fun k=>listed.getD k false=true) (pend.map (·.1)++rem)
 run:PendRun P ops S a pend ag
 st:(pend= []∧rem= [])∨S w
 wp:wpOne P ops S sink Q rem ag w
theorem OneInv.apartPre {listed:Array Bool} {pre:List (Nat×Value)} {l:List Nat} {i:Nat} {o:Oper} (hp:PairsOK md ops) (hi:ops[i]? =some o)
 (hd:DepsIn md ops (fun k=>listed.getD k false=true) i) (hun:listed.getD i false=false) (hpre: ∀j∈pre.map (·.1),listed.getD j false=false) (hn:i∉pre.map (·.1))
 (hord:OrdOK md ops (fun _=>false) (fun k=>listed.getD k false=true) (pre.map (·.1)++i::l)): ∀p∈pre, ∀oj,ops[p.1]? =some oj→oj.apart ops o=true:=by
 intro p hpp oj hoj
 have hpm:p.1∈pre.map (·.1):=List.mem_map_of_mem hpp
 have hne:p.1≠i:=fun e=>hn (e▸hpm)
 rcases hp p.1 i oj o hoj hi hne with h|h|h
 ·exact h
 ·exact absurd h (hord.noWait _ (by simp [hun]) hn p.1 hpm)
 ·obtain⟨o',ho',e,he,hb,heq⟩:=h
  have:=hd o' ho' e he hb
  rw [heq,hpre _ hpm]at this
  cases this
theorem wpAny_of_one {pl:Nat→Bool} (hs: ∀(j:Nat) (oj:Oper),ops[j]? =some oj→NoSel oj) (hp:PairsOK md ops) (hQ:Pn.PanOK Q):
 ∀(fuel:Nat) (S:World→Prop) (listed:Array Bool) (pend:List (Nat×Value)) (rem:List Nat) (a ag:Act) (w:World),
  pend.length+rem.length≤fuel→OneInv P md ops S sink pl Q listed pend rem a ag w→wpAny P md ops Q fuel listed a w:=by
 have stop: ∀(S:World→Prop) (listed:Array Bool) (pend:List (Nat×Value)) (rem:List Nat) (a ag:Act) (w:World),OneInv P md ops S sink pl Q listed pend rem a ag w→Region.ready md ops listed= []→Q .normal a w:=by
  intro S listed pend rem a ag w I hr
  cases hl:pend.map (·.1)++rem with
  |nil=>
   obtain⟨h1,h2⟩:=List.append_eq_nil_iff.1 hl
   have h1':pend= []:=by simpa using h1
   subst h1';subst h2
   have hrun:=I.run
   cases hrun
   exact I.wp
  |cons i l=>
   have ha:=I.apart i (by rw [hl];exact List.mem_cons_self)
   have ho:=I.ord
   rw [hl]at ho
   have:i∈Region.ready md ops listed:=(ready_iff I.size).2 ⟨ha.1,ha.2,ho.1⟩
   rw [hr]at this
   cases this
 intro fuel
 induction fuel with
 |zero=>
  intro S listed pend rem a ag w hlen I
  have hp0:pend= []:=List.eq_nil_of_length_eq_zero (by omega)
  have hr0:rem= []:=List.eq_nil_of_length_eq_zero (by omega)
  subst hp0;subst hr0
  have hready:Region.ready md ops listed= []:=by
   cases h:Region.ready md ops listed with
   |nil=>rfl
   |cons j l=>
    have hj:j∈Region.ready md ops listed:=by rw [h];exact List.mem_cons_self
    obtain⟨hlt,h0,_⟩:=(ready_iff I.size).1 hj
    rcases I.parts j hlt with h1|h1
    ·rw [h0]at h1;cases h1
    ·cases h1
  exact⟨hready,stop _ _ _ _ _ _ _ I hready⟩
 |succ fuel ih=>
  intro S listed pend rem a ag w hlen I
  refine⟨stop _ _ _ _ _ _ _ I,?_⟩
  intro i hi
  obtain⟨hlt,hun,hd⟩:=(ready_iff I.size).1 hi
  obtain⟨o,ho⟩: ∃o,ops[i]? =some o:=⟨_,Array.getElem?_eq_getElem hlt⟩
  -- an operation that is pending comes up
  have hpull: ∀(pend:List (Nat×Value)) (rem:List Nat) (ag:Act),pend.length+rem.length≤fuel+1→OneInv P md ops S sink pl Q listed pend rem a ag w→i∈pend.map (·.1)→
   wpOp P ops Q i (wpAny P md ops Q fuel (listed.setIfInBounds i true)) a w:=by
   intro pend rem ag hlen I hm
   obtain⟨⟨i',v⟩,hmem,rfl⟩:=List.mem_map.1 hm
   obtain⟨pre,post,rfl⟩:=List.append_of_mem hmem
   dsimp only at*
   have hord:=I.ord
   have hnd:=I.nodup
   simp only [List.map_append,List.map_cons,List.append_assoc,List.cons_append]at hord hnd
   have hn:i'∉pre.map (·.1):=by
    intro hh
    have:=List.nodup_append.1 hnd
    exact this.2.2 i' hh i' List.mem_cons_self rfl
   have hpre: ∀j∈pre.map (·.1),listed.getD j false=false:=fun j hj=>(I.apart j (by simp only [List.map_append,List.append_assoc];exact List.mem_append_left _ hj)).2
   obtain⟨h1,h2⟩:=PendRun.pull ho hs pre (OneInv.apartPre hp ho hd hun hpre hn hord) I.run
   have hSw:S w:=I.st.resolve_left (by rintro⟨h,_⟩;simp at h)
   refine h1.wpOp hSw ho ?_
   refine ih S _ (pre++post) rem _ ag w (by simp at hlen⊢;omega) ?_
   have hsub: ∀j,j∈(pre++post).map (·.1)++rem→j∈(pre++(i',v)::post).map (·.1)++rem∧j≠i':=by
    intro j hj
    simp only [List.map_append,List.map_cons,List.append_assoc,List.cons_append]at hj⊢
    refine⟨?_,?_⟩
    ·rcases List.mem_append.1 hj with h|h
     ·exact List.mem_append_left _ h
     ·exact List.mem_append_right _ (List.mem_cons_of_mem _ h)
    ·rintro rfl
     have hnd2:=List.nodup_append.1 hnd
     rcases List.mem_append.1 hj with h|h
     ·exact hn h
     ·exact(List.nodup_cons.1 hnd2.2.1).1 h
   refine⟨by simpa using I.size,closed_set I.size hlt I.closed hd,?_,?_,?_,?_,?_,?_,h2,.inr hSw,I.wp⟩
   ·intro j hj
    rcases I.parts j hj with h|h
    ·exact .inl ((bQ (by have:=I.size;omega)).2 (.inl h))
    ·by_cases hji:j=i'
     ·exact .inl ((bQ (by have:=I.size;omega)).2 (.inr hji))
     ·right
      simp only [List.map_append,List.map_cons,List.append_assoc,List.cons_append]at h⊢
      rcases List.mem_append.1 h with h|h
      ·exact List.mem_append_left _ h
      ·rcases List.mem_cons.1 h with h|h
       ·exact absurd h hji
       ·exact List.mem_append_right _ h
   ·intro j hj
    obtain⟨h1,h2⟩:=hsub j hj
    refine⟨(I.apart j h1).1,?_⟩
    rw [Go.getD_set_ne false (Ne.symm h2)]
    exact(I.apart j h1).2
   ·simp only [List.map_append,List.append_assoc]
    exact(List.nodup_cons.1 ((List.Perm.nodup_iff List.perm_middle).1 hnd)).2
   ·intro j hj
    refine I.fl j ?_
    simp only [List.map_append,List.map_cons]at hj⊢
    rcases List.mem_append.1 hj with h|h
    ·exact List.mem_append_left _ h
    ·exact List.mem_append_right _ (List.mem_cons_of_mem _ h)
   ·have:=OrdOK.pull (pre.map (·.1)) (fun j hj=>I.fl j (by simp only [List.map_append];exact List.mem_append_left _ hj)) hd hord
    simp only [List.map_append,List.append_assoc]
    exact OrdOK.congr (fun j=>(bQ (by have:=I.size;omega)).symm) this
   ·have hsn:=I.snk
    simp only [List.map_append,List.map_cons,List.append_assoc,List.cons_append]at hsn
    have:=SinkOK.pull (pre.map (·.1)) (fun j hj=>I.fl j (by simp only [List.map_append];exact List.mem_append_left _ hj)) hsn
    simp only [List.map_append,List.append_assoc]
    exact SinkOK.congr (fun j=>(bQ (by have:=I.size;omega)).symm) this
  -- on along the order till i has been met
  have hgo: ∀(rem:List Nat) (pend:List (Nat×Value)) (ag:Act),pend.length+rem.length≤fuel+1→OneInv P md ops S sink pl Q listed pend rem a ag w→
   wpOp P ops Q i (wpAny P md ops Q fuel (listed.setIfInBounds i true)) a w:=by
   intro rem
   induction rem with
   |nil=>
    intro pend ag hlen I
    rcases I.parts i hlt with h|h
    ·rw [hun]at h;cases h
    ·exact hpull pend [] ag hlen I (by simpa using h)
   |cons c rem ihr=>
    intro pend ag hlen I
    have hc:=I.apart c (by simp)
    obtain⟨oc,hoc⟩: ∃oc,ops[c]? =some oc:=⟨_,Array.getElem?_eq_getElem hc.1⟩
    have hat:=OrdOK.at (pend.map (·.1)) I.ord
    have hwp:=I.wp
    simp only [wpOne,hoc]at hwp
    by_cases hfl:floats oc.op=true
    · -- it floats: it joins those that are pending
     have hnext: ∃v,RunsNow P ops S oc ag v∧wpOne P ops S sink Q rem (ag.put oc.dst v) w:=by
      by_cases hw:Region.wanted oc (yielded ops ag.tmps)=true
      ·rw [if_pos hw,if_pos hfl]at hwp
       obtain⟨v,h1,h2⟩:=hwp
       exact⟨v,.inl ⟨hw,h1⟩,h2⟩
      ·rw [if_neg hw]at hwp
       exact⟨undef,.inr ⟨by simpa using hw,rfl⟩,hwp⟩
     obtain⟨v,hrn,hwp'⟩:=hnext
     have hrun:PendRun P ops S a (pend++ [(c,v)]) (ag.put oc.dst v):=by
      exact I.run.snoc hoc hrn
     have e:(pend++ [(c,v)]).map (·.1)++rem=pend.map (·.1)++c::rem:=by simp
     refine ihr (pend++ [(c,v)]) (ag.put oc.dst v) (by simp at hlen⊢;omega) ⟨I.size,I.closed,?_,?_,?_,?_,?_,?_,hrun,.inr (I.st.resolve_left (by rintro⟨_,h⟩;cases h)),hwp'⟩
     ·rw [e];exact I.parts
     ·rw [e];exact I.apart
     ·rw [e];exact I.nodup
     ·intro j hj
      simp only [List.map_append,List.map_cons,List.map_nil]at hj
      rcases List.mem_append.1 hj with h|h
      ·exact I.fl j h
      ·simp at h;subst h;intro o' ho';rw [hoc]at ho';cases ho';exact hfl
     ·rw [e];exact I.ord
     ·rw [e];exact I.snk
    · -- it acts
     by_cases him:i∈pend.map (·.1)
     ·exact hpull pend (c::rem) ag hlen I him
     ·rcases hat.2.1 with hf|⟨honly,_⟩
      ·exact absurd (hf oc hoc) hfl
      have hci:i=c:=honly i hlt (by simp only [not_or];exact⟨by simp [hun],him⟩) (hd.mono fun j hj=>.inl hj)
      subst hci
      rw [ho]at hoc;cases hoc
      have hpre: ∀j∈pend.map (·.1),listed.getD j false=false:=fun j hj=>(I.apart j (List.mem_append_left _ hj)).2
      have hap:=OneInv.apartPre hp ho hd hun hpre him I.ord
      obtain⟨e1,e2,e3⟩:=PendRun.push hs (hs i o ho) I.run hap
      have hnd:=I.nodup
      have hstep: ∀w', ∀S':World→Prop,((∀u,S' u→S u)∨sink i=true)→S' w'→ ∀a' ag',wpOne P ops S' sink Q rem ag' w'→PendRun P ops S a' pend ag'→wpAny P md ops Q fuel (listed.setIfInBounds i true) a' w':=by
       have hSw:S w:=I.st.resolve_left (by rintro⟨_,h⟩;cases h)
       have hpure:sink i=true→ ∀p∈pend,PureAt ops pl p.1:=fun hsa=>by
        have hsk:=(SinkOK.at (pend.map (·.1)) I.snk).1.resolve_left (fun hf=>absurd (hf o ho) hfl) hsa
        have key: ∀(m:Nat) (pre post:List (Nat×Value)),post.length=m→pend=pre++post→ ∀p∈post,PureAt ops pl p.1:=by
         intro m
         induction m with
         |zero=>intro pre post hl _ p hpp;rw [List.eq_nil_of_length_eq_zero hl]at hpp;cases hpp
         |succ m ihm=>
          intro pre post hl he
          obtain⟨⟨j,u⟩,post',rfl⟩: ∃x xs,post=x::xs:=by
           cases post with
           |nil=>cases hl
           |cons x xs=>exact⟨x,xs,rfl⟩
          have hpost:=ihm (pre++ [(j,u)]) post' (by simpa using hl) (by simpa using he)
          intro p hpp
          rcases List.mem_cons.1 hpp with rfl|hpp
          ·have hjm:j∈pend.map (·.1):=by rw [he];simp
           have hju:=hpre j hjm
           have hord:=I.ord
           rw [he]at hord hnd
           simp only [List.map_append,List.map_cons,List.append_assoc,List.cons_append]at hord hnd
           have hjn:j∉pre.map (·.1):=fun hh=>(List.nodup_append.1 hnd).2.2 j hh j List.mem_cons_self rfl
           have hself: ¬WaitsOn md ops j j:=by
            intro hh
            obtain⟨o',ho',e,he,hb,heq⟩:=hh
            have h0:=(OrdOK.at (pre.map (·.1)) hord).1 o' ho' e he hb
            rw [heq]at h0
            rcases h0 with h0|h0
            ·rw [hju]at h0;cases h0
            ·exact hjn h0
           rcases hsk j (.inr hjm)with hnf|hpu|⟨k,hk,hkn,hwt⟩
           ·exact absurd (I.fl j hjm) hnf
           ·exact hpu
           ·exfalso
            have hwt2:=hwt
            obtain⟨o',ho',e,he',hb,heq⟩:=hwt
            rcases hk with (hk|hk)|hk
            ·have:=I.closed k hk o' ho' e he' hb
             rw [heq,hju]at this;cases this
            ·rw [he]at hk
             simp only [List.map_append,List.map_cons,List.mem_append,List.mem_cons]at hk
             rcases hk with hk|hk|hk
             ·exact hord.noWait _ (by simp [hju]) hjn k hk hwt2
             ·subst hk;exact hself hwt2
             ·obtain⟨q,hq,rfl⟩:=List.mem_map.1 hk
              exact hkn (hpost q hq)
            ·subst hk
             have:=hd o' ho' e he' hb
             rw [heq,hju]at this;cases this
          ·exact hpost p hpp
        exact key pend.length [] pend rfl rfl
       intro w' S' hSS hSw' a' ag' hw' hrun'
       have hrun2:PendRun P ops S' a' pend ag':=by
        rcases hSS with h|h
        ·exact hrun'.mono h
        ·exact hrun'.swap ⟨w,hSw⟩ (hpure h)
       have hSt:(pend= []∧rem= [])∨S' w':=.inr hSw'
       refine ih S' _ pend rem a' ag' w' (by simp at hlen⊢;omega) ?_
       have hsub: ∀j,j∈pend.map (·.1)++rem→j∈pend.map (·.1)++i::rem∧j≠i:=by
        intro j hj
        refine⟨?_,?_⟩
        ·rcases List.mem_append.1 hj with h|h
         ·exact List.mem_append_left _ h
         ·exact List.mem_append_right _ (List.mem_cons_of_mem _ h)
        ·rintro rfl
         rcases List.mem_append.1 hj with h|h
         ·exact him h
         ·exact(List.nodup_cons.1 (List.nodup_append.1 hnd).2.1).1 h
       refine⟨by simpa using I.size,closed_set I.size hlt I.closed hd,?_,?_,?_,I.fl,?_,?_,hrun2,hSt,hw'⟩
       ·intro j hj
        rcases I.parts j hj with h|h
        ·exact .inl ((bQ (by have:=I.size;omega)).2 (.inl h))
        ·by_cases hji:j=i
         ·exact .inl ((bQ (by have:=I.size;omega)).2 (.inr hji))
         ·right
          rcases List.mem_append.1 h with h|h
          ·exact List.mem_append_left _ h
          ·rcases List.mem_cons.1 h with h|h
           ·exact absurd h hji
           ·exact List.mem_append_right _ h
       ·intro j hj
        obtain⟨h1,h2⟩:=hsub j hj
        refine⟨(I.apart j h1).1,?_⟩
        rw [Go.getD_set_ne false (Ne.symm h2)]
        exact(I.apart j h1).2
       ·exact(List.nodup_cons.1 ((List.Perm.nodup_iff List.perm_middle).1 hnd)).2
       ·exact OrdOK.congr (fun j=>(bQ (by have:=I.size;omega)).symm) (OrdOK.pull (pend.map (·.1)) I.fl hd I.ord)
       ·exact SinkOK.congr (fun j=>(bQ (by have:=I.size;omega)).symm) (SinkOK.pull (pend.map (·.1)) I.fl I.snk)
      unfold Go.wpOp
      simp only [ho]
      by_cases hw:Region.wanted o (yielded ops ag.tmps)=true
      ·rw [if_pos hw,if_neg hfl]at hwp
       rw [←e2,if_pos hw]
       left
       unfold Oper.wp at hwp⊢
       rw [e1]at hwp
       refine Pn.upon_carry hQ (dfeq I.run) (fun v w' hk=>?_) (fun d w' hk=>?_) hwp
       ·obtain⟨S',h1,h2,h3⟩:=hk;exact hstep w' S' h1 h2 _ _ h3 (e3 v)
       ·obtain⟨S',h1,h2,h3⟩:=hk;exact hstep w' S' h1 h2 _ _ h3 ((PendRun.push hs (hs i o ho) (I.run.defers d) hap).2.2 undef)
      ·rw [if_neg hw]at hwp
       rw [←e2,if_neg hw]
       exact hstep w S (.inl fun _ h=>h) (I.st.resolve_left (by rintro⟨_,h⟩;cases h)) _ _ hwp (e3 undef)
  exact hgo rem pend ag hlen I
theorem wp_one {id:Nat} {a:Act} {w:World} {l:List Oper} (snk pl ord:List Nat) (hm:P.follows .mixedOrders=true) (hB:oneSB .any l.toArray snk pl ord=true) (hS:S w.drew) (hQ:Pn.PanOK Q)
 (h:wpOne P l.toArray S (fun i=>snk.contains i) Q ord a w.drew):(Code.region id l.toArray true).wp P Q a w:=by
 simp only [oneSB,oneB,Bool.and_eq_true,decide_eq_true_eq]at hB
 obtain⟨⟨⟨⟨⟨⟨⟨hsel,hpair⟩,hord⟩,hall⟩,hnd⟩,hlt⟩,hlen⟩,hsb⟩:=hB
 refine wp_region_any hm (wpAny_of_one (pl:=fun i=>pl.contains i) (fun j oj hj cs b=>Region.noSelect_spec hsel j oj cs b hj) (pairsB_spec hpair) hQ _ S _ [] ord a a _ ?_ ⟨by simp,?_,?_,?_,by simpa using hnd,by simp,?_,?_,.nil _,.inr hS,h⟩)
 ·simpa using hlen
 ·intro j hj
  exfalso
  rw [Array.getD_eq_getD_getElem?,Array.getElem?_replicate]at hj
  split at hj<;>cases hj
 ·intro j hj
  right
  have:=List.all_eq_true.1 hall j (List.mem_range.2 hj)
  simpa using this
 ·intro j hj
  refine⟨by simpa using List.all_eq_true.1 hlt j (by simpa using hj),?_⟩
  rw [Array.getD_eq_getD_getElem?,Array.getElem?_replicate]
  split<;>rfl
 ·have:=ordB_spec _ _ (by simp) hord
  simpa using this
 ·exact sinkB_spec _ _ (by simp) (fun j hj=>by simpa using List.all_eq_true.1 hlt j hj) hsb
/-! The steps. -/
section
variable {a : Act} {w : World} {i : Nat} {rest : List Nat} {o : Oper} {sink : Nat → Bool}
theorem wpOne_nil (h:Q .normal a w):wpOne P ops S sink Q [] a w:=h
theorem wpOne_float {v:Value} (ho:ops[i]? =some o) (hf:floats o.op=true) (hw:Region.wanted o (yielded ops a.tmps)=true) (hr: ∀w',S w'→(execOp a.eval o).run P w'=.ok (.value v) w')
 (h:wpOne P ops S sink Q rest (a.put o.dst v) w):wpOne P ops S sink Q (i::rest) a w:=by
 simp only [wpOne,ho,if_pos hw,if_pos hf]
 exact⟨v,hr,h⟩
theorem wpOne_skip (ho:ops[i]? =some o) (hw:Region.wanted o (yielded ops a.tmps)=false) (h:wpOne P ops S sink Q rest (a.put o.dst undef) w):wpOne P ops S sink Q (i::rest) a w:=by
 simp only [wpOne,ho,hw]
 exact h
theorem wpOne_act (ho:ops[i]? =some o) (hf:floats o.op=false) (hw:Region.wanted o (yielded ops a.tmps)=true)
 (h:o.wp P a w (fun a' w'=>S w'∧wpOne P ops S sink Q rest a' w') (Pn.panQ Q)):wpOne P ops S sink Q (i::rest) a w:=by
 simp only [wpOne,ho,if_pos hw,hf]
 exact Oper.wp_mono (fun _ _ h=>⟨S,.inl fun _ h=>h,h.1,h.2⟩) h
theorem wpOne_last (ho:ops[i]? =some o) (hf:floats o.op=false) (hs:sink i=true) (hw:Region.wanted o (yielded ops a.tmps)=true)
 (h:o.wp P a w (wpOne P ops S sink Q []) (Pn.panQ Q)):wpOne P ops S sink Q [i] a w:=by
 simp only [wpOne,ho,if_pos hw,hf]
 exact Oper.wp_mono (fun _ _ h=>⟨fun _=>True,.inr hs,trivial,h⟩) h
theorem wpOne_more (ho:ops[i]? =some o) (hf:floats o.op=false) (hw:Region.wanted o (yielded ops a.tmps)=true)
 (h:o.wp P a w (fun a' w'=> ∃S':World→Prop,(∀u,S' u→S u)∧S' w'∧wpOne P ops S' sink Q rest a' w') (Pn.panQ Q)):wpOne P ops S sink Q (i::rest) a w:=by
 simp only [wpOne,ho,if_pos hw,hf]
 exact Oper.wp_mono (fun _ _ ⟨S',h1,h2,h3⟩=>⟨S',.inl h1,h2,h3⟩) h
theorem wpOne_sink (ho:ops[i]? =some o) (hf:floats o.op=false) (hs:sink i=true) (hw:Region.wanted o (yielded ops a.tmps)=true)
 (h:o.wp P a w (fun a' w'=> ∃S':World→Prop,S' w'∧wpOne P ops S' sink Q rest a' w') (Pn.panQ Q)):wpOne P ops S sink Q (i::rest) a w:=by
 simp only [wpOne,ho,if_pos hw,hf]
 exact Oper.wp_mono (fun _ _ ⟨S',h1,h2⟩=>⟨S',.inr hs,h1,h2⟩) h
end
end
end Go.Proofs.Ytljacjjeinmfnaa.St.Sp
/- The engine: a region that draws its order, in which calls may panic. For whatever program. No condition. -/
namespace Go.Proofs.Ytljacjjeinmfnaa
open Go Go.RowKit
section
variable {P : Program} {n : Nat} {l : List (Nat × Value)} {E : World} {L : List Heaplet} {Q : Exit → Act → World → Prop} {ops : Array Oper} {o : Oper} {sink : Nat → Bool} {i : Nat} {is : List Nat} {Lst : List Heaplet}
theorem PanOK.then {K:Act→World→Prop} (h:Pn.PanOK Q):Pn.PanOK (Exit.then K Q):=fun ch a a' w e hx=>h ch a a' w e hx
theorem PanOK.inB {id:Nat} (h:Pn.PanOK Q):Pn.PanOK (Exit.inBlock id Q):=fun ch a a' w e hx=>h ch a a' w e hx
theorem PanOK.body {fn:Func} {R:Heaplet} {Post Pan:Value→List Heaplet→Prop} :Pn.PanOK (bodyPostX P fn E R Post Pan):=fun ch a a' w e hx hE=>⟨e▸(hx hE).1,(hx hE).2⟩
theorem wp_false {Q':Exit→Act→World→Prop} {a:Act} {w:World} {K:Act→World→Prop} (h:o.wp P a w K (fun _ _ _=>False)):o.wp P a w K Q':=by
 unfold Oper.wp at h⊢
 exact upon_carry (fun _ _ h=>h) (fun _ _ h=>h) h
theorem At.drawnR {id:Nat} {ops:List Oper} (Lst:List Heaplet) (snk pl ord:List Nat) (hm:P.follows .mixedOrders=true) (hB:St.oneSB .any ops.toArray snk pl ord=true) (hs:Lst.Sublist L) (hQ:Pn.PanOK Q)
 (h:At n l E L (St.Sp.wpOne P ops.toArray (Hp E Lst) (fun i=>snk.contains i) Q ord)):At n l E L ((Code.region id ops.toArray true).wp P Q):=fun a w hf hw=>St.Sp.wp_one snk pl ord hm hB (hw.drew.drop hs) hQ (h a w.drew hf hw.drew)
theorem At.rNil {S:World→Prop} (h:At n l E L (Q .normal)):At n l E L (St.Sp.wpOne P ops S sink Q []):=h
theorem nxrf (ho:ops[i]? =some o) (hf:floats o.op=true) (hg:o.guard=none):NxF P n l E L Lst o (St.Sp.wpOne P ops (Hp E Lst) sink Q (i::is)) (St.Sp.wpOne P ops (Hp E Lst) sink Q is):=fun a w v hfr hw hr hy=>
 St.Sp.wpOne_float ho hf (by simp [Region.wanted,hg]) hr hy
theorem nxrl (ho:ops[i]? =some o) (hf:floats o.op=false) (hs:sink i=true) (hg:o.guard=none):Nx P n l E L o (St.Sp.wpOne P ops (Hp E Lst) sink Q [i]) (St.Sp.wpOne P ops (Hp E Lst) sink Q []):=fun a w hfr hw hx=>
 St.Sp.wpOne_last ho hf hs (by simp [Region.wanted,hg]) (wp_false hx)
theorem nxrs (ho:ops[i]? =some o) (hf:floats o.op=false) (hs:sink i=true) (hg:o.guard=none):Nx P n l E L o (St.Sp.wpOne P ops (Hp E Lst) sink Q (i::is)) (fun a w=> ∃S':World→Prop,S' w∧St.Sp.wpOne P ops S' sink Q is a w):=fun a w hfr hw hx=>
 St.Sp.wpOne_sink ho hf hs (by simp [Region.wanted,hg]) (wp_false hx)
theorem nxrm (ho:ops[i]? =some o) (hf:floats o.op=false) (hg:o.guard=none):Nx P n l E L o (St.Sp.wpOne P ops (Hp E Lst) sink Q (i::is)) (fun a w=> ∃S':World→Prop,(∀u,S' u→Hp E Lst u)∧S' w∧St.Sp.wpOne P ops S' sink Q is a w):=fun a w hfr hw hx=>
 St.Sp.wpOne_more ho hf (by simp [Region.wanted,hg]) (wp_false hx)
theorem At.moreR {Lst Lst':List Heaplet} (h1:Lst.Sublist Lst') (hs:Lst'.Sublist L) (h:At n l E L (St.Sp.wpOne P ops (Hp E Lst') sink Q is)):At n l E L (fun a w=> ∃S':World→Prop,(∀u,S' u→Hp E Lst u)∧S' w∧St.Sp.wpOne P ops S' sink Q is a w):=fun a w hf hw=>⟨Hp E Lst',fun _ hu=>hu.drop h1,hw.drop hs,h a w hf hw⟩
theorem At.anyR {Lst:List Heaplet} (hs:Lst.Sublist L) (h:At n l E L (St.Sp.wpOne P ops (Hp E Lst) sink Q is)):At n l E L (fun a w=> ∃S':World→Prop,S' w∧St.Sp.wpOne P ops S' sink Q is a w):=fun a w hf hw=>⟨Hp E Lst,hw.drop hs,h a w hf hw⟩
variable {d : Nat} {ty : TypeId} {pos : String} {aft : Array Edge} {Post Pan : Value → List Heaplet → Prop}
/-- A call that may panic, within. -/
theorem op_callR {f:FuncId} {fn:Func} {xs:List Operand} {args:List Value} {ats:Array TypeId} {L0 Lr F Lst':List Heaplet}
 (ho:ops[i]? =some ⟨some d,.call ⟨.value (.func f),xs.toArray,ats⟩,ty,pos,aft,none⟩) (ha:Evs l xs args) (hc:FnE P f args.toArray L0 Lr Post Pan) (hfn:P.funcs[f]? =some fn) (hb:fn.body.isSome=true) (hne:(fn.name== "runtime.NumGoroutine")=false) (hL:L.Perm (L0++F)) (hr: ∀N∈Lr,N∈F) (hn:Nat.ble (d+1) n=true)
 (hsl:Lst.Sublist Lst') (hsf:Lst'.Sublist F)
 (hp: ∀v L1,Pan v L1→At n l E (L1++F) (Q (.panic (pnk v))))
 (h: ∀v L1,Post v L1→At n ((d,v)::l) E (L1++F) (St.Sp.wpOne P ops (Hp E Lst') sink Q is)):At n l E L (St.Sp.wpOne P ops (Hp E Lst) sink Q (i::is)):=fun a w hf hw=>by
 refine St.Sp.wpOne_more ho rfl rfl ?_
 unfold Oper.wp
 have hw2:=hw.perm hL
 have hrun:(execOp a.eval ⟨some d,.call ⟨.value (.func f),xs.toArray,ats⟩,ty,pos,aft,none⟩).run P w=.ok (.enter f args.toArray) w:=by
  have hne':fn.name≠ "runtime.NumGoroutine" :=by simpa using hne
  have he:a.eval (.func f)=.func (.func f) #[] #[]:=rfl
  simp only [execOp,resolve,invoke,Sem.run_bind,Sem.run_pure,Result.andThen_ok,List.map_toArray,ha.map hf,he,Deferred.ofValue,Array.empty_append,Array.append_empty,run_call hfn hb hne']
 rw [hrun]
 obtain⟨R,hwR,hFR,hF⟩:=hw2.apartRest
 refine Calls.mono (hc E w R hwR fun N hN=>hFR N (hr N hN)) ?_
 rintro e w' (⟨v,L1,rfl,hP,hw'⟩|⟨v,L1,rfl,hP,hw'⟩)
 ·have hw3:=hw'.refine hFR hF
  exact⟨Hp E Lst',fun _ hu=>hu.drop hsl,hw3.drop (hsf.trans (List.sublist_append_right _ _)),h v L1 hP _ _ (hf.put (Nat.le_of_ble_eq_true hn)) hw3⟩
 ·exact⟨⟨_,rfl⟩,hp v L1 hP _ _ hf (hw'.refine hFR hF)⟩
end
end Go.Proofs.Ytljacjjeinmfnaa
/- The engine, append to a slice without room: a new row, whatever memory the old one lies in. For whatever program. Condition: the old slice is full. -/
namespace Go.Proofs.Ytljacjjeinmfnaa
open Go Go.RowKit
section
variable {P : Program} {n : Nat} {l : List (Nat × Value)} {E : World} {L Ls : List Heaplet} {X Y : Act → World → Prop} {d : Nat} {t t' ty e : TypeId} {x y : Operand}
theorem run_append_G {w:World} {zv:Value} {size bytes len m cap cap':Nat} {b a:Addr} {xs ys:List Value} (ht:P.underlying t=some (.slice e)) (hE:ElemInfo P e zv size bytes)
 (hlo:xs.length=len*size) (ho: ∀j u,xs[j]? =some u→w.cell? (b.add j)=some u) (hl:ys.length=m*size) (hnews: ∀j u,ys[j]? =some u→w.cell? (a.add j)=some u) (hg:cap<len+m) (h63:len+m≤maxLen) (hb:(len+m)*bytes≤140737488355328):
 ∃cap2 w',(Builtin.append_ #[t,t] ty #[.slice (some b) len cap,.slice (some a) m cap']).run P w=.ok (.slice (some ⟨w.heap.size,0,none⟩) (len+m) cap2) w'∧
  w'.ownsRow 0 e size (.slice (some ⟨w.heap.size,0,none⟩) (len+m) cap2) (len+m) (xs++ys)∧w.grownBy w' none:=by
 obtain⟨i,hi,hz,hsz,hby,hzs,h0⟩:=hE
 subst hsz
 subst hby
 have hsmall:len+m≤9223372036854775807:=by simp only [maxLen]at h63;omega
 have hlen:(xs++ys).length=(len+m)*i.size:=by rw [List.length_append,hlo,hl,Nat.add_mul]
 have hge:=grownCap_ge w (len+m) cap e
 have hcm:grownCap w (len+m) cap e≤maxLen:=grownCap_le_maxLen w (len+m) cap e h63
 have hr:=run_append_grow (P:=P) w t ty e i zv ht hi hz b len cap xs hlo ho a m cap' ys hl hnews hg (by omega) (growslice_fits hg hb)
 refine⟨_,_,hr,⟨hlen,.inr ⟨w.heap.size,_,_,rfl,Nat.zero_le _,heap_alloc_new w.drew _,hge,hcm,?_,?_⟩⟩,⟨rfl,rfl,rfl,by simp,fun k hk _=>heap_alloc_old w.drew _ hk⟩⟩
 ·simp only [Array.size_append,List.size_toArray,size_zeroCells,hzs,hlo,hl, ←Nat.add_mul]
  congr 1
  omega
 ·simp only [Array.toList_append,List.append_assoc]
  rw [←List.append_assoc, ←hlen]
  exact List.take_left
end
end Go.Proofs.Ytljacjjeinmfnaa
/- The engine: many rows in one part of the memory, told apart by their blocks; stores and appends that leave the others as they are. For whatever program. No condition. -/
namespace Go.Proofs.Ytljacjjeinmfnaa
open Go Go.RowKit
/-- N' is N but for this block. -/
def Off (ao:Option Addr) (N N':Heaplet):Prop:= ∃b,ao=some ⟨b,0,none⟩∧ ∀k,k≠b→N' k=N k
/-- What an append leaves of the memory: in its own block, or in a new one. -/
def App (N N':Heaplet) (ao:Option Addr) (cap:Nat) (ao2:Option Addr) (cap2 need:Nat):Prop:=
 (ao2=ao∧cap2=cap∧need≤cap∧Off ao N N')∨(N.le N'∧ ∃b,ao2=some ⟨b,0,none⟩∧N b=none)
theorem Row.le {N M:Heaplet} (hl:N.le M) {e:TypeId} {size:Nat} {ao:Option Addr} {n cap:Nat} {xs:List Value} (h:Row N e size ao n cap xs):Row M e size ao n cap xs:=by
 obtain⟨h1,h2,h3,h4⟩:=h
 refine⟨h1,h2,h3,?_⟩
 rcases h4 with h4|⟨b,cur,ha,hN,hs,ht⟩
 ·exact .inl h4
 ·exact .inr ⟨b,cur,ha,hl _ _ hN,hs,ht⟩
/-- The block of a row. -/
theorem Row.block {N:Heaplet} {e:TypeId} {size:Nat} {ao:Option Addr} {n cap:Nat} {xs:List Value} (h:Row N e size ao n cap xs):(ao=none∧n=0∧cap=0)∨ ∃b o,ao=some ⟨b,0,none⟩∧N b=some o:=by
 obtain⟨_,_,_,h4⟩:=h
 rcases h4 with h4|⟨b,cur,ha,hN,_⟩
 ·exact .inl h4
 ·exact .inr ⟨b,_,ha,hN⟩
/-- A row is read off its block alone. -/
theorem Row.off {N N':Heaplet} {e:TypeId} {size:Nat} {ao p:Option Addr} {n cap:Nat} {xs:List Value} (h:Row N e size ao n cap xs) (ho:Off p N N') (hne:ao=none∨ao≠p):Row N' e size ao n cap xs:=by
 obtain⟨b,rfl,hk⟩:=ho
 obtain⟨h1,h2,h3,h4⟩:=h
 refine⟨h1,h2,h3,?_⟩
 rcases h4 with h4|⟨b',cur,ha,hN,hs,ht⟩
 ·exact .inl h4
 ·refine .inr ⟨b',cur,ha,?_,hs,ht⟩
  rw [hk b' fun e=>?_]
  ·exact hN
  ·subst e
   rcases hne with h|h
   ·rw [h]at ha;cases ha
   ·exact h ha
/-- The first part of a row. -/
theorem Row.first {N:Heaplet} {e:TypeId} {size:Nat} {ao:Option Addr} {n m cap:Nat} {xs ys:List Value} (h:Row N e size ao n cap xs) (hm:m≤n) (hy:xs.take (m*size)=ys) (ha:ao≠none):Row N e size ao m cap ys:=by
 obtain⟨h1,h2,h3,h4⟩:=h
 rcases h4 with ⟨h4,_⟩|⟨b',cur,hb,hN,hs,ht⟩
 ·exact absurd h4 ha
 ·have hle:m*size≤n*size:=Nat.mul_le_mul_right _ hm
  refine⟨by rw [←hy,List.length_take,h1];exact Nat.min_eq_left hle,Nat.le_trans hm h2,h3,.inr ⟨b',cur,hb,hN,hs,?_⟩⟩
  rw [←hy, ←ht,List.take_take,Nat.min_eq_left hle]
section
variable {P : Program} {n : Nat} {l : List (Nat × Value)} {E : World} {L L1 Ls : List Heaplet} {X Y : Act → World → Prop} {d : Nat} {t t' ty e : TypeId} {x y : Operand}
theorem op_storeU {vs:List Value} {kk:Nat} {N:Heaplet} {v:Value} {ao:Option Addr} {j size len cap:Nat} {xs:List Value} {pos:_} {aft:_} {g:_} (s:Nx P n l E L ⟨none,.store t x y,ty,pos,aft,g⟩ X Y) (ht0:siz P t=some kk) (hx:ev l x=some (eptr ao j)) (hy:ev l y=some v) (hv:v.cells=vs.toArray) (hk:vs.length=kk) (h1:vs.all (·.oneCell')=true) (hb:Row N e size ao len cap xs) (hlen:j+vs.length≤xs.length) (h0:0<vs.length) (hs:L.Perm (N::L1))
 (h: ∀N',Row N' e size ao len cap (setL xs j vs)→Off ao N N'→At n l E (N'::L1) Y):At n l E L X:=fun a w hf hw=>by
 have ht:siz P t=some vs.length:=by rw [ht0,hk]
 have hw2:=hw.perm hs
 obtain⟨a1,a2,a3,a4⟩:=hb
 have hn0:0<len:=by
  rcases Nat.eq_zero_or_pos len with h|h
  ·rw [h,Nat.zero_mul]at a1;omega
  ·exact h
 rcases a4 with ⟨_,hz,_⟩|⟨b,cur,rfl,hN,hcs,ht'⟩
 ·omega
 have hN':N b=some (.cells cur.toList.toArray e (0,0)):=by simpa using hN
 have hheap:=hw2.sub N (List.mem_cons_self ..) _ _ hN'
 have hxl:xs.length≤cur.toList.length:=by rw [a1,Array.length_toList,hcs];exact Nat.mul_le_mul_right _ a2
 obtain⟨w',hr,e1,e2,e3,e4,e5⟩:=run_storeCells (P:=P) vs w b j 0 cur.toList e hheap (fun u hu=>List.all_eq_true.1 h1 u hu) (by omega)
 obtain⟨i,hi,hsz⟩:=Option.map_eq_some_iff.1 ht
 refine s a w hf hw ?_
 unfold Oper.wp
 have hrun:(execOp a.eval ⟨none,.store t x y,ty,pos,aft,g⟩).run P w=.ok .skip w':=by
  simp only [execOp,hf.eval hx,hf.eval hy,eptr,Option.map_some,Nat.zero_add,Instr.storeAt,Instr.sureAddr,Sem.run_bind,Sem.run_pure,Result.andThen_ok,storeVar,run_sizeOf hi,hsz,hv]
  simp only [List.size_toArray,ne_eq,not_true,if_false]
  rw [hr]
  rfl
 rw [hrun]
 refine h (upd N b (.cells (setL cur.toList j vs).toArray e (0,0))) ⟨by rw [length_setL,a1],a2,a3,.inr ⟨b,_,rfl,upd_self _ _ _,by simp [length_setL,hcs],?_⟩⟩ ⟨b,rfl,fun k hk=>by simp [upd,hk]⟩ a w' hf (hw2.put hN' e1 e2 e3 (by simpa using e4) fun k hk _=>e5 k hk)
 rw [List.toList_toArray,setL_take _ _ _ _ (by omega),ht']
theorem op_appendU {zv:Value} {bytes m cap' size len cap:Nat} {ao ao':Option Addr} {xs ys:List Value} {N M:Heaplet} {t2 e2:TypeId} {pos:_} {aft:_} {g:_} (s:Nx P n l E L ⟨some d,.call ⟨.builtin .append, #[x,y], #[t,t2]⟩,ty,pos,aft,g⟩ X Y) (ht:P.underlying t=some (.slice e)) (ht2:P.underlying t2=some (.slice e2)) (hE:ElemInfo P e zv size bytes)
 (hx:ev l x=some (.slice ao len cap)) (hy:ev l y=some (.slice ao' m cap')) (hr:Row N e size ao len cap xs) (hs:RSl M size ao' m cap' ys) (hM:M∈L) (hm:0<m) (h1: ∀u∈ys,u.oneCell'=true) (hb:(len+m)*bytes≤140737488355328) (hl:len+m≤9223372036854775807) (sel:L.Perm (N::L1)) (hn:Nat.ble (d+1) n=true)
 (h: ∀N' ao2 cap2,Row N' e size ao2 (len+m) cap2 (xs++ys)→App N N' ao cap ao2 cap2 (len+m)→At n ((d,.slice ao2 (len+m) cap2)::l) E (N'::L1) Y):At n l E L X:=by
 refine op_upd s (fun v L'=> ∃N' ao2 cap2,v=.slice ao2 (len+m) cap2∧L'=N'::L1∧Row N' e size ao2 (len+m) cap2 (xs++ys)∧App N N' ao cap ao2 cap2 (len+m)) (fun a w hf hw=>?_) rfl hn (fun v L' ⟨N',ao2,cap2,hv,hL,hB,hA⟩=>by subst hv;subst hL;exact h N' ao2 cap2 hB hA)
 have hw2:=hw.perm sel
 have hrest:Hp E L1 w:=hw2.drop (List.sublist_cons_self ..)
 obtain⟨i,hi,hz,hsz,hby,hzs,hpos⟩:=hE
 obtain⟨y1,y2,y3,y4⟩:=hs.sl (hw.sub M hM)
 obtain⟨bs,os,rfl,cs⟩:=y4 hm
 have hnews: ∀j u,ys[j]? =some u→w.cell? ((⟨bs,os,none⟩:Addr).add j)=some u:=fun j u hu=>by
  obtain⟨hj,rfl⟩:=List.getElem?_eq_some_iff.1 hu
  rw [addr_add];exact cs j hj
 have fin: ∀v w',(Builtin.append_ #[t,t] ty #[.slice ao len cap,.slice (some ⟨bs,os,none⟩) m cap']).run P w=.ok v w'→(execOp a.eval ⟨some d,.call ⟨.builtin .append, #[x,y], #[t,t2]⟩,ty,pos,aft,g⟩).run P w=.ok (.value v) w':=fun v w' h4=>by
  simp only [execOp,resolve,invoke,builtin,Sem.run_bind,Sem.run_pure,Result.andThen_ok,List.map_toArray,List.map_cons,List.map_nil,hf.eval hx,hf.eval hy,run_append_src ht ht2,h4]
 have hmax:len+m≤maxLen:=by unfold maxLen;exact hl
 rcases Nat.lt_or_ge cap (len+m)with hg|hg
 · -- a new row
  have new: ∃cap2 w',(Builtin.append_ #[t,t] ty #[.slice ao len cap,.slice (some ⟨bs,os,none⟩) m cap']).run P w=.ok (.slice (some ⟨w.heap.size,0,none⟩) (len+m) cap2) w'∧
   w'.ownsRow 0 e size (.slice (some ⟨w.heap.size,0,none⟩) (len+m) cap2) (len+m) (xs++ys)∧w.grownBy w' none:=by
   rcases hr.block with ⟨rfl,rfl,rfl⟩|⟨b,o,rfl,_⟩
   ·have hx0:xs= []:=List.eq_nil_of_length_eq_zero (by simpa using hr.1)
    obtain⟨ao2,cap2,w',h4,h5,h6,h7⟩:=run_append_row (P:=P) (ty:=ty) ht ⟨i,hi,hz,hsz,hby,hzs,hpos⟩ (hw2.sub N (List.mem_cons_self ..)) hr (hs.sl (hw.sub M hM)) h1 hb hmax
    subst hx0
    rcases h7 with h7|h7
    ·rcases owns_row h5 with ⟨rfl,hrow⟩|⟨b,cur,rfl,hheap,hrow⟩
     ·have:=(hrow nilH).block
      rcases this with ⟨_,h0,_⟩|⟨b,o,hb0,_⟩
      ·omega
      ·cases hb0
     ·cases h7
    ·rcases owns_row h5 with ⟨rfl,hrow⟩|⟨b,cur,rfl,hheap,hrow⟩
     ·cases h7
     ·have:b=w.heap.size:=by simpa [Value.ownBlock]using h7
      subst this
      exact⟨cap2,w',h4,h5,h6⟩
   ·obtain⟨cap2,w',h4,h5,h6⟩:=run_append_G (P:=P) (ty:=ty) (cap':=cap') ht ⟨i,hi,hz,hsz,hby,hzs,hpos⟩ hr.1 (b:=⟨b,0,none⟩) (a:=⟨bs,os,none⟩) (fun j u hu=>by
     obtain⟨hj,rfl⟩:=List.getElem?_eq_some_iff.1 hu
     obtain⟨_,_,_,r4⟩:=hr.rsl.sl (hw2.sub N (List.mem_cons_self ..))
     have h0:0<len:=by
      rcases Nat.eq_zero_or_pos len with h|h
      ·have:=hr.1;rw [h,Nat.zero_mul]at this;omega
      ·exact h
     obtain⟨b1,o1,e1,c1⟩:=r4 h0
     cases e1
     rw [addr_add];exact c1 j hj) y1 hnews hg hmax hb
    exact⟨cap2,w',h4,h5,h6⟩
  obtain⟨cap2,w',h4,h5,h6⟩:=new
  obtain⟨N',h8,h9⟩:=hp_append (L1:=N::L1) (N:=nilH) (e:=e) (size:=size) ⟨hw2.os,hw2.tape,hw2.output,fun K hK=>by
   rcases List.mem_cons.1 hK with rfl|hK
   ·intro k o hk;cases hk
   ·exact hw2.sub K hK,by rw [List.pairwise_cons];exact⟨fun _ _ _=>.inl rfl,hw2.sep⟩⟩ (Row.nil nilH e size) h5 h6 (.inr rfl)
  have hap:=(List.pairwise_cons.1 h9.sep).1 N (by simp)
  refine⟨_,w',_,fin _ _ h4,h9.merge,join2 N' N,_,cap2,rfl,rfl,h8.le join2_left,.inr ⟨join2_right hap,w.heap.size,rfl,?_⟩⟩
  cases hk:N w.heap.size with
  |none=>rfl
  |some o=>exact absurd (hw2.lt (List.mem_cons_self ..) hk) (Nat.lt_irrefl _)
 · -- in its own block
  rcases hr.block with ⟨rfl,rfl,rfl⟩|⟨b,o,rfl,hN⟩
  ·omega
  ·obtain⟨w',h4,h5,h6⟩:=run_append_fits (P:=P) w 0 t ty e i size ht hi hsz b len cap xs (hr.owns (hw2.sub N (List.mem_cons_self ..))) ⟨bs,os,none⟩ m cap' ys y1 hnews h1 hg
   rcases owns_row h5 with ⟨hno,_⟩|⟨b2,cur,hb2,hheap,hrow⟩
   ·cases hno
   ·cases hb2
    have henv:=grown_env h6
    refine⟨_,w',_,fin _ _ h4,hw2.put (o':=.cells cur e (0,0)) hN henv.1 henv.2.1 henv.2.2 hheap (fun k hk hlt=>grown_block h6 hlt (by
     intro h;exact hk (Option.some.inj h).symm)),upd N b (.cells cur e (0,0)),_,cap,rfl,rfl,hrow _ (upd_self _ _ _),.inl ⟨rfl,rfl,hg,b,rfl,fun k hk=>by simp [upd,hk]⟩⟩
end
end Go.Proofs.Ytljacjjeinmfnaa
/- Many slices of bytes in one part of the memory, each with a block of its own. For whatever program. No condition. -/
namespace Go.Proofs.Ytljacjjeinmfnaa
open Go Go.RowKit
/-- Slices of bytes, each with a block of its own. -/
structure Bag (e:TypeId) (N:Heaplet) (vs:List Value) (xs:List (List UInt8)):Prop where
 len:vs.length=xs.length
 row: ∀(i:Nat) (x:List UInt8),xs[i]? =some x→ ∃p c,vs[i]? =some (Value.slice p x.length c)∧Row N e 1 p x.length c (u8s x)
 apart: ∀(i j:Nat) (p q:Option Addr) (n m c d:Nat),i≠j→vs[i]? =some (Value.slice p n c)→vs[j]? =some (Value.slice q m d)→p=none∨p≠q
/-- Slices of bytes that can be read. -/
structure Bags (N:Heaplet) (vs:List Value) (xs:List (List UInt8)):Prop where
 len:vs.length=xs.length
 rsl: ∀(i:Nat) (x:List UInt8),xs[i]? =some x→ ∃p c,vs[i]? =some (Value.slice p x.length c)∧RSl N 1 p x.length c (u8s x)
theorem Bag.nil (e:TypeId) (N:Heaplet):Bag e N [] []:=⟨rfl,fun i x h=>by simp at h,fun i j p q n m c d _ h=>by simp at h⟩
theorem Bags.nil (N:Heaplet):Bags N [] []:=⟨rfl,fun i x h=>by simp at h⟩
theorem Bags.le {N M:Heaplet} {vs:List Value} {xs:List (List UInt8)} (h:Bags N vs xs) (hl:N.le M):Bags M vs xs:=⟨h.len,fun i x hx=>let ⟨p,c,h1,h2⟩:=h.rsl i x hx;⟨p,c,h1,h2.le hl⟩⟩
theorem Bag.le {e:TypeId} {N M:Heaplet} {vs:List Value} {xs:List (List UInt8)} (h:Bag e N vs xs) (hl:N.le M):Bag e M vs xs:=⟨h.len,fun i x hx=>let ⟨p,c,h1,h2⟩:=h.row i x hx;⟨p,c,h1,h2.le hl⟩,h.apart⟩
theorem snoc_get {α:Type} {xs:List α} {y z:α} {i:Nat} (h:(xs++ [y])[i]? =some z):(i<xs.length∧xs[i]? =some z)∨(i=xs.length∧z=y):=by
 rcases Nat.lt_or_ge i xs.length with hi|hi
 ·rw [List.getElem?_append_left hi]at h;exact .inl ⟨hi,h⟩
 ·rw [List.getElem?_append_right hi]at h
  rcases Nat.eq_zero_or_pos (i- xs.length)with h0|h0
  ·rw [h0]at h;simp at h;exact .inr ⟨by omega,h.symm⟩
  ·rw [List.getElem?_eq_none (by simp;omega)]at h;cases h
theorem get_snoc_l {α:Type} {xs:List α} {y z:α} {i:Nat} (h:xs[i]? =some z):(xs++ [y])[i]? =some z:=by
 rw [List.getElem?_append_left (List.getElem?_eq_some_iff.1 h).1];exact h
theorem get_snoc_r {α:Type} {xs:List α} {y:α} {i:Nat} (h:i=xs.length):(xs++ [y])[i]? =some y:=by subst h;simp
theorem Bags.snoc {N M:Heaplet} {vs:List Value} {xs:List (List UInt8)} {x:List UInt8} {p:Option Addr} {c:Nat} (h:Bags N vs xs) (hr:RSl M 1 p x.length c (u8s x)) (ha:Apart M N):Bags (join2 M N) (vs++ [Value.slice p x.length c]) (xs++ [x]):=by
 refine⟨by simp [h.len],fun i y hy=>?_⟩
 rcases snoc_get hy with ⟨hi,hy⟩|⟨hi,rfl⟩
 ·obtain⟨q,d,h1,h2⟩:=h.rsl i y hy
  exact⟨q,d,get_snoc_l h1,h2.le (join2_right ha)⟩
 ·exact⟨p,c,get_snoc_r (by rw [hi,h.len]),hr.le join2_left⟩
theorem Bag.snoc {e:TypeId} {N M:Heaplet} {vs:List Value} {xs:List (List UInt8)} {x:List UInt8} {p:Option Addr} {c:Nat} (h:Bag e N vs xs) (hr:Row M e 1 p x.length c (u8s x)) (ha:Apart M N):Bag e (join2 M N) (vs++ [Value.slice p x.length c]) (xs++ [x]):=by
 have old: ∀i q m d,i<vs.length→vs[i]? =some (Value.slice q m d)→p=none∨q=none∨p≠q:=fun i q m d hi hv=>by
  obtain⟨y,hy⟩: ∃y,xs[i]? =some y:=⟨_,List.getElem?_eq_getElem (by rw [←h.len];exact hi)⟩
  obtain⟨q',d',h1,h2⟩:=h.row i y hy
  rw [hv]at h1
  simp only [Option.some.injEq,Value.slice.injEq]at h1
  obtain⟨rfl,rfl,rfl⟩:=h1
  rcases hr.block with ⟨hp,_⟩|⟨b,o,hp,hb⟩
  ·exact .inl hp
  ·rcases h2.block with ⟨hq,_⟩|⟨b',o',hq,hb'⟩
   ·exact .inr (.inl hq)
   ·refine .inr (.inr fun e=>?_)
    rw [hp,hq]at e
    cases e
    rcases ha b with h|h
    ·rw [hb]at h;cases h
    ·rw [hb']at h;cases h
 refine⟨by simp [h.len],fun i y hy=>?_,fun i j q r n m c' d hij hi hj=>?_⟩
 ·rcases snoc_get hy with ⟨hi,hy⟩|⟨hi,rfl⟩
  ·obtain⟨q,d,h1,h2⟩:=h.row i y hy
   exact⟨q,d,get_snoc_l h1,h2.le (join2_right ha)⟩
  ·exact⟨p,c,get_snoc_r (by rw [hi,h.len]),hr.le join2_left⟩
 ·rcases snoc_get hi with ⟨li,hi'⟩|⟨li,hi'⟩<;>rcases snoc_get hj with ⟨lj,hj'⟩|⟨lj,hj'⟩
  ·exact h.apart i j q r n m c' d hij hi' hj'
  ·simp only [Value.slice.injEq]at hj'
   obtain⟨rfl,_⟩:=hj'
   rcases old i q n c' li hi' with h|h|h
   ·by_cases hq:q=none
    ·exact .inl hq
    ·exact .inr fun e=>hq (e.trans h)
   ·exact .inl h
   ·exact .inr fun e=>h e.symm
  ·simp only [Value.slice.injEq]at hi'
   obtain⟨rfl,_⟩:=hi'
   rcases old j r m d lj hj' with h|h|h
   ·exact .inl h
   ·by_cases hq:q=none
    ·exact .inl hq
    ·exact .inr fun e=>hq (e.trans h)
   ·exact .inr h
  ·omega
/-- One of them is written. -/
theorem Bag.set {e:TypeId} {N N':Heaplet} {vs:List Value} {xs:List (List UInt8)} {i n c:Nat} {x:List UInt8} {p:Option Addr} (h:Bag e N vs xs) (hv:vs[i]? =some (Value.slice p n c)) (hr:Row N' e 1 p n c (u8s x)) (ho:Off p N N'):Bag e N' vs (xs.set i x):=by
 refine⟨by simp [h.len],fun j y hy=>?_,h.apart⟩
 by_cases hij:i=j
 ·subst hij
  have hlt:i<xs.length:=by
   have:=(List.getElem?_eq_some_iff.1 hy).1
   simpa using this
  rw [List.getElem?_set_self hlt]at hy
  cases hy
  have hlen:x.length=n:=by have:=hr.1;simpa using this
  subst hlen
  exact⟨p,c,hv,hr⟩
 ·rw [List.getElem?_set_ne hij]at hy
  obtain⟨q,d,h1,h2⟩:=h.row j y hy
  exact⟨q,d,h1,h2.off ho (h.apart j i q p _ _ _ _ (fun e=>hij e.symm) h1 hv)⟩
/-! Parts of the memory put together. -/
def joinL:List Heaplet→Heaplet
 | []=>nilH
 |N::t=>join2 N (joinL t)
theorem apart_joinL {A:Heaplet} : ∀ {Ns:List Heaplet},(∀N∈Ns,Apart A N)→Apart A (joinL Ns):=by
 intro Ns
 induction Ns with
 |nil=>intro _ k;exact .inr rfl
 |cons N t ih=>
  intro h k
  rcases h N (by simp) k with h1|h1
  ·exact .inl h1
  ·rcases ih (fun M hM=>h M (by simp [hM])) k with h2|h2
   ·exact .inl h2
   ·exact .inr (by simp [joinL,join2,h1,h2])
theorem Hp.packL {E:World} {w:World} : ∀ {Ns L:List Heaplet},Hp E (Ns++L) w→Hp E (joinL Ns::L) w:=by
 intro Ns
 induction Ns with
 |nil=>
  intro L h
  exact⟨h.os,h.tape,h.output,fun N hN=>by
   rcases List.mem_cons.1 hN with rfl|hN
   ·intro k o hk;cases hk
   ·exact h.sub N hN,by rw [List.pairwise_cons];exact⟨fun _ _ _=>.inl rfl,h.sep⟩⟩
 |cons N t ih=>
  intro L h
  have h1:Hp E (t++(N::L)) w:=h.perm (List.perm_middle.symm)
  exact((ih h1).perm (.swap ..)).merge
theorem le_joinL {Ns:List Heaplet} (hs:Ns.Pairwise Apart) {N:Heaplet} (hN:N∈Ns):N.le (joinL Ns):=by
 induction Ns with
 |nil=>cases hN
 |cons A t ih=>
  have hp:=List.pairwise_cons.1 hs
  rcases List.mem_cons.1 hN with rfl|hN
  ·exact join2_left
  ·exact Heaplet.le_trans (ih hp.2 hN) (join2_right (apart_joinL hp.1))
theorem Hp.unpackL {E:World} {L:List Heaplet} {w:World} {Ns:List Heaplet} (hs:Ns.Pairwise Apart) (h:Hp E (joinL Ns::L) w):Hp E (Ns++L) w:=by
 have hp:=List.pairwise_cons.1 h.sep
 refine⟨h.os,h.tape,h.output,fun N hN=>?_,?_⟩
 ·rcases List.mem_append.1 hN with hN|hN
  ·exact Heaplet.le_trans (le_joinL hs hN) (h.sub _ (by simp))
  ·exact h.sub N (by simp [hN])
 ·rw [List.pairwise_append]
  exact⟨hs,hp.2,fun a ha b hb=>(hp.1 b hb).le (le_joinL hs ha) (Heaplet.le_refl _)⟩
/-- A function's own parts of the memory, handed over as one. -/
theorem Fn.pack {P:Program} {f:FuncId} {args:Array Value} {L0 Lr:List Heaplet} {Post Post':Value→List Heaplet→Prop} {As:List Heaplet} (hA:As.Pairwise Apart) (h:Fn P f args (As++L0) Lr Post)
 (hp: ∀v L,Post v L→ ∃Bs L1,L=Bs++L1∧(Bs.Pairwise Apart→Post' v (joinL Bs::L1))):Fn P f args (joinL As::L0) Lr Post':=by
 intro E w R hw hr
 have hw2:Hp E (As++L0++ [R]) w:=by
  rw [List.append_assoc]
  exact hw.unpackL hA
 refine(h E w R hw2 hr).mono ?_
 rintro e w' ⟨v,L,rfl,hP,hh⟩
 obtain⟨Bs,L1,rfl,hq⟩:=hp v L hP
 rw [List.append_assoc]at hh
 have hs:=(List.pairwise_append.1 hh.sep).1
 exact⟨v,_,rfl,hq hs,hh.packL⟩
end Go.Proofs.Ytljacjjeinmfnaa
/- The engine: parts of the memory handed over as one, to a call that may panic. For whatever program. No condition. -/
namespace Go.Proofs.Ytljacjjeinmfnaa
open Go Go.RowKit
theorem FnE.packR {P:Program} {f:FuncId} {args:Array Value} {Lr:List Heaplet} {Post Post' Pan:Value→List Heaplet→Prop} {N1:Heaplet} {As:List Heaplet} (hA:As.Pairwise Apart) (h:FnE P f args (N1::As) Lr Post Pan)
 (hp: ∀v L,Post v L→ ∃M Bs,L=M::Bs∧(Bs.Pairwise Apart→Post' v [M,joinL Bs])):FnE P f args [N1,joinL As] Lr Post' Pan:=by
 intro E w R hw hr
 have hw1:Hp E (joinL As::([N1]++ [R])) w:=hw.perm (List.Perm.swap _ _ _)
 have hw2:Hp E ((N1::As)++ [R]) w:=by
  have:=hw1.unpackL hA
  refine this.perm ?_
  show(As++([N1]++ [R])).Perm ((N1::As)++ [R])
  rw [←List.append_assoc]
  exact List.Perm.append_right _ List.perm_append_comm
 refine(h E w R hw2 hr).mono ?_
 rintro e w' (⟨v,L,rfl,hP,hh⟩|hx)
 ·obtain⟨M,Bs,rfl,hq⟩:=hp v L hP
  have hh2:Hp E (Bs++([M]++ [R])) w':=hh.perm (by
   show((M::Bs)++ [R]).Perm (Bs++([M]++ [R]))
   rw [←List.append_assoc]
   exact List.Perm.append_right _ (List.perm_append_comm (l₁:= [M])))
  have hs:=(List.pairwise_append.1 hh2.sep).1
  exact .inl ⟨v,_,rfl,hq hs,hh2.packL.perm (List.Perm.swap _ _ _)⟩
 ·exact .inr hx
section
variable {n : Nat} {l : List (Nat × Value)} {E : World} {L : List Heaplet} {K : Act → World → Prop} {As : List Heaplet}
theorem At.pack (h:As.Pairwise Apart→At n l E (joinL As::L) K):At n l E (As++L) K:=fun a w hf hw=>h (List.pairwise_append.1 hw.sep).1 a w hf hw.packL
theorem At.unpack (hA:As.Pairwise Apart) (h:At n l E (As++L) K):At n l E (joinL As::L) K:=fun a w hf hw=>h a w hf (hw.unpackL hA)
end
end Go.Proofs.Ytljacjjeinmfnaa
/- Layer 14: lists of hashes. No condition. -/
namespace Go.Proofs.Ytljacjjeinmfnaa
open Go Go.RowKit
set_option maxRecDepth 100000
section
variable {Np NI Nl Na : Heaplet} {bp bl m c : Nat} {a : Option Addr} {t : It} {ts : List It} {hs : List (List UInt8)} {z : IV} {zs : List IV}
theorem FHashes1_0 (h:PartsN Np NI bp (z::zs) (t::ts)) (B:Blk Nl bl 41 [.slice a m c]) (r:Row Na 73 32 a m c (hashC hs)) (hm:m<1099511627776) (h32: ∀x∈hs,x.length=32):
 FnE Try.prog 127 #[.pointer (some ⟨bp,0,none⟩),.pointer (some ⟨bl,0,none⟩)] [Np,Nl,Na] [NI] (fun _ L=> ∃Np Nl Na b a c,L= [Np,Nl,Na]∧fixE 32 t=.ok b∧b.length=32∧PartsN Np NI bp zs ts∧Blk Nl bl 41 [.slice a (m+1) c]∧Row Na 73 32 a (m+1) c (hashC (hs++ [b]))) (fun v L=> ∃e:Nat,v=gaveV e∧L= []∧fixE 32 t=.error e):=by
 have h1:=FHash_p h
 refine FnE.enter (vs:= [.pointer (some ⟨bp,0,none⟩),.pointer (some ⟨bl,0,none⟩)]) Try.func127 rfl rfl rfl ?_
 intro E R hR
 have hNR:=hR NI (by simp)
 have h1:=h1.liftB hNR
 have Bl:=B
 change At _ _ E [Np,Nl,Na,R] _
 refine At.perm aW (At.perm aX (At.perm aW (At.perm aW (At.drawnR [Nl,R] [4,5] [] [0,1,2,3,4,5] (by kernel_rfl) (by kernel_rfl) (.cons _ (.cons _ (.refl _))) (by repeat first|exact PanOK.body|apply PanOK.then|apply PanOK.inB) ?_))))
 refine aH (nxrf rfl rfl rfl) sc41 rfl Bl (by first|rfl) aN rfl ?_
 refine aD (nxrf rfl rfl rfl) rfl rfl (op_callR rfl (.cons rfl .nil) (h1) (F:= [Na,Nl,R]) (Lst':= [Nl,R]) Try.func111 rfl rfl (.refl _) (by simp) rfl (.refl _) (.cons _ (.refl _)) ?_ ?_)
 ·rintro v5 L5 ⟨e,rfl,rfl,he⟩
  change At _ _ _ [Na,Nl,R] _
  refine At.sub (L':= [R]) (.cons _ (.cons _ (.cons_cons _ (.slnil)))) (a0 (L1:= []) (.refl _) (.refl _) ?_)
  exact⟨e,rfl,rfl,he⟩
 rintro v5 L5 ⟨Mp,b,rfl,rfl,he,hb,hp⟩
 change At _ _ _ [Mp,Na,Nl,R] _
 refine op_lit (Nx.agree (nxrm rfl rfl rfl)) Try.underlying41 ze73 sz73 (.cons rfl .nil) rfl rfl (by(intro p hp;rw [List.mem_singleton.1 hp];show(u8s b).length=32;rw [bN,hb])) rfl rfl rfl (fun N6 a6 r6=>?_)
 simp only [flatV,List.flatMap_cons,List.flatMap_nil,Value.cells,List.append_nil,List.cons_append,List.nil_append]at r6
 have s6:=r6.rsl
 refine At.perm bJ (At.perm bJ (At.perm aX (At.perm bJ (At.perm bJ (At.moreR (Lst:= [Nl,R]) (Lst':= [N6,Nl,R]) (.cons _ (.refl _)) (.cons _ (.cons _ (.refl _))) ?_)))))
 change RSl N6 32 a6 1 1 (u8s b)at s6
 rw [show u8s b=hashC [b] by simp [hashC]]at s6
 refine op_append (nxrs rfl rfl rfl rfl) Try.underlying41 Try.underlying41 te73 rfl rfl r (by assumption) (by first|exact aN|exact bC|exact bV|exact mem3|exact mem4|exact mem5|exact mem6|exact mem7|exact mem8|exact mem9) (hashC_one _) (by omega) (by omega) bZ rfl (fun N7 a7 p7 r7=>?_)
 have s7:=r7.rsl
 refine At.anyR (.refl _) ?_
 rw [hashC,hashC, ←List.flatMap_append]at r7
 change Row N7 _ 32 a7 (m+1) p7 (hashC (hs++ [b]))at r7
 refine aG (nxrl rfl rfl rfl rfl) sz41 rfl rfl rfl rfl rfl Bl (by simp) aW (fun Nl Bl=>?_)
 simp only [setL,List.set]at Bl
 refine At.rNil (At.norX (At.sub (L':= [Nl,N7,Mp,R]) (.cons_cons _ (.cons_cons _ (.cons_cons _ (.cons _ (.cons_cons _ (.slnil)))))) (At.perm aW (At.perm aX (At.perm aX (At.perm aW (At.retNE (L1:= [Mp,Nl,N7]) rfl .nil rfl (.refl _) (.refl _) ?_)))))))
 exact⟨Mp,Nl,N7,b,a7,p7,rfl,he,hb,hp,Bl,r7⟩
/-- A variable that holds hashes. -/
def HashV (b:Nat) (hs:List (List UInt8)) (N:Heaplet):Prop:= ∃Nl Na a c,[Nl,Na].Pairwise Apart∧N=joinL [Nl,Na]∧Blk Nl b 41 [.slice a hs.length c]∧Row Na 73 32 a hs.length c (hashC hs)∧ ∀x∈hs,x.length=32
theorem FHashes1_p {NO:Heaplet} (h:PartsN Np NI bp (z::zs) (t::ts)) (hV:HashV bl hs NO) (hm:hs.length<1099511627776):
 FnE Try.prog 127 ([Value.pointer (some ⟨bp,0,none⟩)]++ [Value.pointer (some ⟨bl,0,none⟩)]).toArray [Np,NO] [NI] (fun _ L=> ∃Np NO b,L= [Np,NO]∧fixE 32 t=.ok b∧PartsN Np NI bp zs ts∧HashV bl (hs++ [b]) NO) (fun v L=> ∃e:Nat,v=gaveV e∧L= []∧fixE 32 t=.error e):=by
 obtain⟨Nl,Na,a,c,hA,rfl,B,r,h32⟩:=hV
 refine FnE.packR hA (FHashes1_0 h B r hm h32) fun v L hp=>?_
 obtain⟨Mp,Ml,Ma,b,a',c',rfl,he,hb,hq,B',r'⟩:=hp
 refine⟨Mp,[Ml,Ma],rfl,fun hA'=>⟨Mp,_,b,rfl,he,hq,Ml,Ma,a',c',hA',rfl,?_,?_,fun x hx=>?_⟩⟩
 ·rw [List.length_append];exact B'
 ·rw [List.length_append];exact r'
 ·rcases List.mem_append.1 hx with hx|hx
  ·exact h32 x hx
  ·rw [List.mem_singleton.1 hx];exact hb
def hashesE:It→Except Nat (List (List UInt8)):=eachE (fixE 32)
/-- A list of hashes. -/
theorem FHashes_p (h:PartsN Np NI bp (z::zs) (t::ts)) (hk: ∀its,listE t=.ok its→its.length≤1099511627776):FnE Try.prog 109 #[.pointer (some ⟨bp,0,none⟩)] [Np] [NI] (fun v L=> ∃Np Na a c hs,v=.slice a hs.length c∧L= [Np,Na]∧hashesE t=.ok hs∧PartsN Np NI bp zs ts∧Row Na 73 32 a hs.length c (hashC hs)∧ ∀x∈hs,x.length=32) (fun v L=> ∃e:Nat,v=gaveV e∧L= []∧hashesE t=.error e):=by
 refine FnE.enter (vs:= [.pointer (some ⟨bp,0,none⟩)]) Try.func109 rfl rfl rfl ?_
 intro E R hR
 have hNR:=hR NI (by simp)
 change At _ _ E [Np,R] _
 refine At.seq fun _ s_1=>At.region (aE (aC rfl) rfl rfl (aA (aB (s_1 (At.seq fun _ s_2=>At.region (aU (aV rfl) ze41 rfl (fun N3 b3 B3=>?_)))))))
 change Blk N3 b3 _ [.slice none 0 0]at B3
 refine aA (aB (s_2 (At.seq fun _ s_3=>At.region (aD (aC rfl) rfl rfl (op_mkF (aC rfl) .nil (.cons rfl .nil) rfl (At.empty (At.perm aW (At.perm aW (At.perm aX (At.perm aW (At.pack (As:= [N3,nilH]) (fun hANO=>?_))))))))))))
 obtain⟨NO,eNO⟩: ∃N,N=joinL [N3,nilH]:=⟨_,rfl⟩
 rw [←eNO]
 have hE:=FEach_p (g:=fixE 32) (Inv:=fun _=>HashV b3) (f:=127) (caps:= [Value.pointer (some ⟨b3,0,none⟩)]) h (NO:=NO) ⟨N3,nilH,none,0,hANO,eNO,B3,Row.nil _ _ _,fun x hx=>by cases hx⟩ hk (El:=fun _=>True) (fun _ _ _ _=>trivial) Try.func127 rfl rfl fun Nq NO bq z zs ys t ts l h1 h2 _ h3 _=>FHashes1_p h1 h2 h3
 refine At.perm aX (At.perm bZ (At.perm aX (aQ (.cons rfl (.cons rfl .nil)) (hE.liftB hNR) (F:= [R]) Try.func75 rfl rfl (.refl _) (by simp) rfl ?_ ?_)))
 ·rintro v6 L6 ⟨e,rfl,rfl,he⟩
  change At _ _ _ [R] _
  refine aI ((a0 (L1:= []) (.refl _) (.refl _) ?_))
  exact⟨e,rfl,rfl,he⟩
 rintro v6 L6 ⟨Mp,NV,l,ys,rfl,rfl,he,hp,⟨N3,Na,a,c,hA,eNV,B3,r,h32⟩,_⟩
 change At _ _ _ [Mp,NV,R] _
 refine aA (aB (s_3 (At.seq fun _ s_4=>At.region (At.perm aX (At.perm bZ (At.perm aX ?_))))))
 try rw [eNV]
 refine At.unpack hA ?_
 change At _ _ _ [N3,Na,Mp,R] _
 refine aH (aC rfl) sc41 rfl B3 (by first|rfl) aN rfl ?_
 refine aE (aC rfl) rfl rfl (aA (aB (s_4 (At.ret ((At.retX (At.sub (L':= [Na,Mp,R]) (.cons _ (.cons_cons _ (.cons_cons _ (.cons_cons _ (.slnil))))) (At.perm aX (At.perm bZ (At.perm aX (aZ (L1:= [Mp,Na]) rfl (.tmp rfl .nil) (.refl _) (.refl _) ?_)))))))))))
 exact⟨Mp,Na,a,c,l,rfl,rfl,he,hp,r,h32⟩
end
end Go.Proofs.Ytljacjjeinmfnaa
/- Layer 14: lists of accounts with places. No condition. -/
namespace Go.Proofs.Ytljacjjeinmfnaa
open Go Go.RowKit
set_option maxRecDepth 100000
/-- An access, its cells. -/
structure AccM where
 addr:List UInt8
 keys:List (List UInt8)
structure AV where
 addr:List UInt8
 ka:Option Addr
 kn:Nat
 kc:Nat
def AV.cells (x:AV):List Value:=u8s x.addr++ [.slice x.ka x.kn x.kc]
def accC (xs:List AV):List Value:=xs.flatMap AV.cells
def AccN (N:Heaplet) (g:AccM) (x:AV):Prop:=x.addr=g.addr∧g.addr.length=20∧x.kn=g.keys.length∧RSl N 32 x.ka x.kn x.kc (hashC g.keys)∧ ∀h∈g.keys,h.length=32
def AccsN (N:Heaplet) (gs:List AccM) (xs:List AV):Prop:=xs.length=gs.length∧ ∀(i:Nat) (g:AccM) (x:AV),gs[i]? =some g→xs[i]? =some x→AccN N g x
section
variable {N M : Heaplet} {g : AccM} {x : AV} {gs : List AccM} {xs : List AV}
theorem AccN.le (hl:N.le M) (h:AccN N g x):AccN M g x:=⟨h.1,h.2.1,h.2.2.1,h.2.2.2.1.le hl,h.2.2.2.2⟩
theorem AccsN.le (hl:N.le M) (h:AccsN N gs xs):AccsN M gs xs:=⟨h.1,fun i g x h1 h2=>(h.2 i g x h1 h2).le hl⟩
theorem AccsN.nil:AccsN N [] []:=⟨rfl,fun i g x h=>by simp at h⟩
theorem AccsN.snoc (h:AccsN N gs xs) (k:AccN N g x):AccsN N (gs++ [g]) (xs++ [x]):=by
 refine⟨by simp [h.1],fun i g' x' h1 h2=>?_⟩
 rcases Nat.lt_or_ge i gs.length with hi|hi
 ·rw [List.getElem?_append_left hi]at h1
  rw [List.getElem?_append_left (by rw [h.1];exact hi)]at h2
  exact h.2 i g' x' h1 h2
 ·rw [List.getElem?_append_right hi]at h1
  rw [List.getElem?_append_right (by rw [h.1];exact hi),h.1]at h2
  have h0:i- gs.length=0:=by
   obtain⟨h3,_⟩:=List.getElem?_eq_some_iff.1 h1
   simp at h3;omega
  rw [h0]at h1 h2
  simp at h1 h2
  subst h1;subst h2;exact k
theorem AccsN.at (h:AccsN N gs xs) {i:Nat} (hi:i<gs.length): ∃g x,gs[i]? =some g∧xs[i]? =some x∧AccN N g x:=by
 have hx:i<xs.length:=by rw [h.1];exact hi
 exact⟨gs[i],xs[i],List.getElem?_eq_getElem hi,List.getElem?_eq_getElem hx,h.2 i _ _ (List.getElem?_eq_getElem hi) (List.getElem?_eq_getElem hx)⟩
theorem AV.cells_len {x:AV} (h:x.addr.length=20):x.cells.length=21:=by rw [AV.cells,List.length_append,bN,h];rfl
theorem AV.cells_one (x:AV):x.cells.all (·.oneCell')=true:=by
 refine List.all_eq_true.2 fun u hu=>?_
 rcases List.mem_append.1 hu with hu|hu
 ·exact one_u8s _ u hu
 ·obtain rfl:=List.mem_singleton.1 hu;rfl
theorem accC_one (xs:List AV): ∀u∈accC xs,u.oneCell'=true:=fun u hu=>by
 obtain⟨x,_,hx⟩:=List.mem_flatMap.1 hu
 exact List.all_eq_true.1 (AV.cells_one x) u hx
end
theorem fill_acc {a:List UInt8} (ha:a.length=20) (ka:Option Addr) (kn kc:Nat) (cs:List Value) (hc:cs.length=21):
 fillL [(0,20),(20,1)] cs [(0,.agg (u8s a).toArray),(1,.slice ka kn kc)]=some (AV.cells ⟨a,ka,kn,kc⟩):=by
 have hu:(u8s a).length=20:=by rw [bN,ha]
 obtain⟨x,hx⟩: ∃x,cs.drop 20= [x]:=by
  have hl:(cs.drop 20).length=1:=by rw [List.length_drop];omega
  match h:cs.drop 20,hl with
  | [x],_=>exact⟨x,rfl⟩
 have e0:setL cs 0 (u8s a)=u8s a++ [x]:=by rw [setL_head (by omega),hu,hx]
 have e1:setL (u8s a++ [x]) 20 [.slice ka kn kc]=u8s a++ [.slice ka kn kc]:=by
  have:=setL_append [.slice ka kn kc] (u8s a) [x] [] rfl
  rw [hu]at this
  simpa using this
 have c0:(Value.agg (u8s a).toArray).cells.toList=u8s a:=rfl
 simp only [fillL,List.getElem?_cons_zero,List.getElem?_cons_succ,c0,hu,hc,e0]
 rw [if_pos (by decide),if_pos ⟨rfl,by rw [List.length_append,hu];show 20+1≤20+1;decide⟩]
 rw [show(Value.slice ka kn kc).cells.toList= [.slice ka kn kc]from rfl,e1]
 rfl
def accE (t:It):Except Nat AccM:=match listE t with
 |.error e=>.error e
 |.ok [x,y]=>match fixE 20 x with
  |.error e=>.error e
  |.ok a=>match hashesE y with
   |.error e=>.error e
   |.ok ks=>.ok ⟨a,ks⟩
 |.ok _=>.error 2
theorem accE_ne {t:It} {its:List It} (h:listE t=.ok its) (k:its.length∉ [2]):accE t=.error 2:=by
 simp only [accE,h]
 match its,k with
 | [],_=>rfl
 | [_],_=>rfl
 | [_,_],k=>exact absurd (by simp) k
 |_::_::_::_,_=>rfl
theorem two_of {its:List It} (k:its.length∈ [2]): ∃u y,its= [u,y]:=by
 match its,k with
 | [],k=>simp at k
 | [_],k=>simp at k
 | [u,y],_=>exact⟨u,y,rfl⟩
 |_::_::_::_,k=>simp at k
section
variable {Np NI Nl Na Nk : Heaplet} {bp bl m c : Nat} {a : Option Addr} {t : It} {ts : List It} {gs : List AccM} {xs : List AV} {z : IV} {zs : List IV}
theorem PartsN.two {u y:It} (h:PartsN Np NI bp zs [u,y]): ∃a b,zs= [a,b]:=by
 obtain⟨ao,n,cap,B,hs,x,ys,rfl,hx,x',ys',rfl,hx',e⟩:=h
 have e:ys'= []:=e
 subst e;exact⟨x,x',rfl⟩
/-- Its lists, and theirs, are not too long. -/
def ItOK (B:Nat) (t:It):Prop:= ∀its,listE t=.ok its→its.length≤B∧ ∀y∈its, ∀l,listE y=.ok l→l.length≤B
set_option maxHeartbeats 2000000 in
theorem FAccess1_0 (h:PartsN Np NI bp (z::zs) (t::ts)) (B:Blk Nl bl 56 [.slice a m c]) (r:Row Na 109 21 a m c (accC xs)) (hk:AccsN Nk gs xs) (hm:m<1099511627776) (hI:ItOK 1099511627776 t):
 FnE Try.prog 126 #[.pointer (some ⟨bp,0,none⟩),.pointer (some ⟨bl,0,none⟩)] [Np,Nl,Na,Nk] [NI] (fun _ L=> ∃Np Nl Na Nk g x a c,L= [Np,Nl,Na,Nk]∧accE t=.ok g∧PartsN Np NI bp zs ts∧Blk Nl bl 56 [.slice a (m+1) c]∧Row Na 109 21 a (m+1) c (accC (xs++ [x]))∧AccsN Nk (gs++ [g]) (xs++ [x])) (fun v L=> ∃e:Nat,v=gaveV e∧L= []∧accE t=.error e):=by
 have h1:=FNext_p h
 refine FnE.enter (vs:= [.pointer (some ⟨bp,0,none⟩),.pointer (some ⟨bl,0,none⟩)]) Try.func126 rfl rfl rfl ?_
 intro E R hR
 have hNR:=hR NI (by simp)
 have h1:=h1.liftB hNR
 have Bl:=B
 change At _ _ E [Np,Nl,Na,Nk,R] _
 refine At.seq fun _ s_1=>At.region (aD (aC rfl) rfl rfl (op_call (nxl rfl) (.cons rfl .nil) (h1) (F:= [Nl,Na,Nk,R]) Try.func74 rfl rfl (.refl _) (by simp) rfl ?_))
 rintro v5 L5 ⟨Mp,rfl,rfl,hp,hx⟩
 change At _ _ _ [Mp,Nl,Na,Nk,R] _
 change At _ ((5,.agg #[.bool z.l,.slice z.ab z.nb z.cb,.slice z.ai z.ni z.ci])::_) _ _ _
 refine aQ (.cons rfl .nil) ((FOpened_p hx).liftB hNR) (F:= [Mp,Nl,Na,Nk,R]) Try.func68 rfl rfl (.refl _) (by simp) rfl ?_ ?_
 ·rintro v6 L6 ⟨e,rfl,rfl,he⟩
  change At _ _ _ [Mp,Nl,Na,Nk,R] _
  refine aI ((At.sub (L':= [R]) (.cons _ (.cons _ (.cons _ (.cons _ (.cons_cons _ (.slnil)))))) (a0 (L1:= []) (.refl _) (.refl _) ?_)))
  exact⟨e,rfl,rfl,by simp only [accE,he]⟩
 rintro v6 L6 ⟨Nq,bq,its,zq,rfl,rfl,he,hq,hzq⟩
 change At _ _ _ [Nq,Mp,Nl,Na,Nk,R] _
 refine aE (aC rfl) rfl rfl (aA (aB (s_1 (At.seq fun _ s_2=>At.region (aD (aC rfl) rfl rfl (op_lit (aV rfl) Try.underlying167 ze3 sz3 (.cons rfl .nil) rfl rfl (by simp [Value.cells]) rfl rfl rfl (fun N8 a8 r8=>?_)))))))
 simp only [flatV,List.flatMap_cons,List.flatMap_nil,Value.cells,List.append_nil,List.cons_append,List.nil_append]at r8
 have s8:=r8.rsl
 change Row N8 _ 1 a8 1 1 (intC [2])at r8
 refine At.perm bR (At.perm bR (At.perm bR (At.perm bR (At.perm bR (At.perm bL (At.perm bR (aQ (.cons rfl (.cons rfl .nil)) (FJust_p hq r8.rsl (by decide)) (F:= [N8,Mp,Nl,Na,Nk,R]) Try.func73 rfl rfl (.refl _) (by simp) rfl ?_ ?_)))))))
 ·rintro v9 L9 ⟨rfl,rfl,hjm⟩
  change At _ _ _ [N8,Mp,Nl,Na,Nk,R] _
  refine aI ((At.sub (L':= [R]) (.cons _ (.cons _ (.cons _ (.cons _ (.cons _ (.cons_cons _ (.slnil))))))) (a0 (L1:= []) (.refl _) (.refl _) ?_)))
  exact⟨2,rfl,rfl,accE_ne he hjm⟩
 rintro v9 L9 ⟨rfl,rfl,hjm⟩
 change At _ _ _ [Nq,N8,Mp,Nl,Na,Nk,R] _
 obtain⟨u,y,rfl⟩:=two_of hjm;obtain⟨z1,z2,rfl⟩:=hq.two;have hk2:=(hI _ he).2 y (by simp)
 refine aA (aB (s_2 (At.perm bR (At.perm bJ (At.perm bR (At.perm bR (At.perm bR (At.perm bR (At.perm bR (At.drawnR [Nl,R] [7,8] [3] [0,1,3,2,4,5,6,7,8] (by kernel_rfl) (by kernel_rfl) (.cons _ (.cons _ (.cons _ (.cons _ (.cons _ (.refl _)))))) (by repeat first|exact PanOK.body|apply PanOK.then|apply PanOK.inB) ?_))))))))))
 refine aH (nxrf rfl rfl rfl) sc56 rfl Bl (by first|rfl) aN rfl ?_
 refine aD (nxrf rfl rfl rfl) rfl rfl (aD (nxrf rfl rfl rfl) rfl rfl (op_callR rfl (.cons rfl .nil) ((FAddr_p hq).liftB hNR) (F:= [N8,Mp,Na,Nk,Nl,R]) (Lst':= [Nl,R]) Try.func81 rfl rfl (.refl _) (by simp) rfl (.refl _) (.cons _ (.cons _ (.cons _ (.cons _ (.refl _))))) ?_ ?_))
 ·rintro v12 L12 ⟨e,rfl,rfl,hb⟩
  change At _ _ _ [N8,Mp,Na,Nk,Nl,R] _
  refine At.sub (L':= [R]) (.cons _ (.cons _ (.cons _ (.cons _ (.cons _ (.cons_cons _ (.slnil))))))) (a0 (L1:= []) (.refl _) (.refl _) ?_)
  exact⟨e,rfl,rfl,by simp only [accE,he,hb]⟩
 rintro v12 L12 ⟨Mq,b,rfl,rfl,hb,hbl,hq2⟩
 change At _ _ _ [Mq,N8,Mp,Na,Nk,Nl,R] _
 refine op_callR rfl (.cons rfl .nil) ((FHashes_p hq2 hk2).liftB hNR) (F:= [N8,Mp,Na,Nk,Nl,R]) (Lst':= [Nl,R]) Try.func109 rfl rfl (.refl _) (by simp) rfl (.refl _) (.cons _ (.cons _ (.cons _ (.cons _ (.refl _))))) ?_ ?_
 ·rintro v14 L14 ⟨e,rfl,rfl,hks⟩
  change At _ _ _ [N8,Mp,Na,Nk,Nl,R] _
  refine At.sub (L':= [R]) (.cons _ (.cons _ (.cons _ (.cons _ (.cons _ (.cons_cons _ (.slnil))))))) (a0 (L1:= []) (.refl _) (.refl _) ?_)
  exact⟨e,rfl,rfl,by simp only [accE,he,hb,hks]⟩
 rintro v14 L14 ⟨Mq,NK,ak,ck,ks,rfl,rfl,hks,hq3,rk,h32⟩
 change At _ _ _ [Mq,NK,N8,Mp,Na,Nk,Nl,R] _
 refine op_build (out:=AV.cells ⟨b,ak,ks.length,ck⟩) (nxrf rfl rfl rfl) ze109 pl109 (.cons rfl (.cons rfl .nil)) (fill_acc hbl _ _ _ _ rfl) rfl ?_
 refine op_lit (Nx.agree (nxrm rfl rfl rfl)) Try.underlying56 ze109 sz109 (.cons rfl .nil) rfl rfl (by(intro p hp;rw [List.mem_singleton.1 hp];exact AV.cells_len (x:=⟨b,ak,ks.length,ck⟩) hbl)) rfl rfl rfl (fun N16 a16 r16=>?_)
 simp only [flatV,List.flatMap_cons,List.flatMap_nil,Value.cells,List.append_nil,List.cons_append,List.nil_append]at r16
 have s16:=r16.rsl
 refine At.perm sel8 (At.perm sel8 (At.perm aX (At.perm sel8 (At.perm sel8 (At.perm sel8 (At.perm sel8 (At.perm sel8 (At.perm sel8 (At.moreR (Lst:= [Nl,R]) (Lst':= [N16,Nl,R]) (.cons _ (.refl _)) (.cons _ (.cons _ (.cons _ (.cons _ (.cons _ (.cons _ (.refl _))))))) ?_)))))))))
 have s16:RSl N16 21 a16 1 1 (accC [⟨b,ak,ks.length,ck⟩]):=by
  have:=r16.rsl
  simp only [accC,List.flatMap_cons,List.flatMap_nil,List.append_nil]
  exact this
 refine op_append (nxrs rfl rfl rfl rfl) Try.underlying56 Try.underlying56 te109 rfl rfl r s16 (by first|exact aN|exact bC|exact bV|exact mem3|exact mem4|exact mem5|exact mem6|exact mem7|exact mem8|exact mem9) (accC_one _) (by omega) (by omega) bJ rfl (fun N17 a17 p17 r17=>?_)
 have s17:=r17.rsl
 refine At.anyR (.refl _) ?_
 rw [accC,accC, ←List.flatMap_append]at r17
 change Row N17 _ 21 a17 (m+1) p17 (accC (xs++ [⟨b,ak,ks.length,ck⟩]))at r17
 refine aG (nxrl rfl rfl rfl rfl) sz56 rfl rfl rfl rfl rfl Bl (by simp) sel7 (fun Nl Bl=>?_)
 simp only [setL,List.set]at Bl
 refine At.rNil (At.norX (At.perm sel8 (At.perm sel8 (At.perm sel7 (At.perm sel7 (At.perm bR (At.perm bR (At.perm bR (At.perm sel7 (At.perm sel8 (At.mergeN (fun J J1 J2=>At.sub (L':= [J,Nl,N17,Mp,R]) (.cons_cons _ (.cons_cons _ (.cons_cons _ (.cons _ (.cons _ (.cons_cons _ (.cons _ (.cons_cons _ (.slnil))))))))) (At.perm bJ (At.perm bZ (At.perm aW (At.perm aW (At.perm bJ (At.retNE (L1:= [Mp,Nl,N17,J]) rfl .nil rfl (.refl _) (.refl _) ?_))))))))))))))))))
 exact⟨Mp,Nl,N17,J,⟨b,ks⟩,⟨b,ak,ks.length,ck⟩,a17,p17,rfl,by simp only [accE,he,hb,hks],hp,Bl,r17,(hk.le J1).snoc ⟨rfl,hbl,rfl,rk.rsl.le J2,h32⟩⟩
/-- A variable that holds accounts with places. -/
def AccV (b:Nat) (gs:List AccM) (N:Heaplet):Prop:= ∃Nl Na Nk a c xs,[Nl,Na,Nk].Pairwise Apart∧N=joinL [Nl,Na,Nk]∧Blk Nl b 56 [.slice a gs.length c]∧Row Na 109 21 a gs.length c (accC xs)∧AccsN Nk gs xs
theorem FAccess1_p {NO:Heaplet} (h:PartsN Np NI bp (z::zs) (t::ts)) (hV:AccV bl gs NO) (hm:gs.length<1099511627776) (hI:ItOK 1099511627776 t):
 FnE Try.prog 126 ([Value.pointer (some ⟨bp,0,none⟩)]++ [Value.pointer (some ⟨bl,0,none⟩)]).toArray [Np,NO] [NI] (fun _ L=> ∃Np NO g,L= [Np,NO]∧accE t=.ok g∧PartsN Np NI bp zs ts∧AccV bl (gs++ [g]) NO) (fun v L=> ∃e:Nat,v=gaveV e∧L= []∧accE t=.error e):=by
 obtain⟨Nl,Na,Nk,a,c,xs,hA,rfl,B,r,hk⟩:=hV
 refine FnE.packR hA (FAccess1_0 h B r hk hm hI) fun v L hp=>?_
 obtain⟨Mp,Ml,Ma,Mk,g,x,a',c',rfl,he,hq,B',r',hk'⟩:=hp
 refine⟨Mp,[Ml,Ma,Mk],rfl,fun hA'=>⟨Mp,_,g,rfl,he,hq,Ml,Ma,Mk,a',c',xs++ [x],hA',rfl,?_,?_,hk'⟩⟩
 ·rw [List.length_append];exact B'
 ·rw [List.length_append];exact r'
def accessE:It→Except Nat (List AccM):=eachE accE
/-- A list of accounts with places. -/
theorem FAccess_p (h:PartsN Np NI bp (z::zs) (t::ts)) (hk: ∀its,listE t=.ok its→its.length≤1099511627776∧ ∀y∈its,ItOK 1099511627776 y):FnE Try.prog 108 #[.pointer (some ⟨bp,0,none⟩)] [Np] [NI] (fun v L=> ∃Np Na Nk a c gs xs,v=.slice a gs.length c∧L= [Np,Na,Nk]∧accessE t=.ok gs∧PartsN Np NI bp zs ts∧Row Na 109 21 a gs.length c (accC xs)∧AccsN Nk gs xs) (fun v L=> ∃e:Nat,v=gaveV e∧L= []∧accessE t=.error e):=by
 refine FnE.enter (vs:= [.pointer (some ⟨bp,0,none⟩)]) Try.func108 rfl rfl rfl ?_
 intro E R hR
 have hNR:=hR NI (by simp)
 change At _ _ E [Np,R] _
 refine At.seq fun _ s_1=>At.region (aE (aC rfl) rfl rfl (aA (aB (s_1 (At.seq fun _ s_2=>At.region (aU (aV rfl) ze56 rfl (fun N3 b3 B3=>?_)))))))
 change Blk N3 b3 _ [.slice none 0 0]at B3
 refine aA (aB (s_2 (At.seq fun _ s_3=>At.region (aD (aC rfl) rfl rfl (op_mkF (aC rfl) .nil (.cons rfl .nil) rfl (At.empty (At.empty (At.perm bJ (At.perm bJ (At.perm aX (At.perm aW (At.perm bJ (At.pack (As:= [N3,nilH,nilH]) (fun hANO=>?_))))))))))))))
 obtain⟨NO,eNO⟩: ∃N,N=joinL [N3,nilH,nilH]:=⟨_,rfl⟩
 rw [←eNO]
 have hE:=FEach_p (g:=accE) (Inv:=fun _=>AccV b3) (f:=126) (caps:= [Value.pointer (some ⟨b3,0,none⟩)]) h (NO:=NO) ⟨N3,nilH,nilH,none,0,[],hANO,eNO,B3,Row.nil _ _ _,AccsN.nil⟩ (fun its hi=>(hk its hi).1) (El:=ItOK 1099511627776) (fun its hi=>(hk its hi).2) Try.func126 rfl rfl fun Nq NO bq z zs ys t ts l h1 h2 _ h3 h4=>FAccess1_p h1 h2 h3 h4
 refine At.perm aX (At.perm bZ (At.perm aX (aQ (.cons rfl (.cons rfl .nil)) (hE.liftB hNR) (F:= [R]) Try.func75 rfl rfl (.refl _) (by simp) rfl ?_ ?_)))
 ·rintro v6 L6 ⟨e,rfl,rfl,he⟩
  change At _ _ _ [R] _
  refine aI ((a0 (L1:= []) (.refl _) (.refl _) ?_))
  exact⟨e,rfl,rfl,he⟩
 rintro v6 L6 ⟨Mp,NV,gs,ys,rfl,rfl,he,hp,⟨N3,Na,Nk,a,c,xs,hA,eNV,B3,r,hg⟩,_⟩
 change At _ _ _ [Mp,NV,R] _
 refine aA (aB (s_3 (At.seq fun _ s_4=>At.region (At.perm aX (At.perm bZ (At.perm aX ?_))))))
 try rw [eNV]
 refine At.unpack hA ?_
 change At _ _ _ [N3,Na,Nk,Mp,R] _
 refine aH (aC rfl) sc56 rfl B3 (by first|rfl) aN rfl ?_
 refine aE (aC rfl) rfl rfl (aA (aB (s_4 (At.ret ((At.retX (At.sub (L':= [Na,Nk,Mp,R]) (.cons _ (.cons_cons _ (.cons_cons _ (.cons_cons _ (.cons_cons _ (.slnil)))))) (At.perm aW (At.perm aX (At.perm aX (At.perm aW (aZ (L1:= [Mp,Na,Nk]) rfl (.tmp rfl .nil) (.refl _) (.refl _) ?_))))))))))))
 exact⟨Mp,Na,Nk,a,c,gs,xs,rfl,rfl,he,hp,r,hg⟩
end
end Go.Proofs.Ytljacjjeinmfnaa
/- Layer 14: a transaction's cells; its To is read. No condition. -/
namespace Go.Proofs.Ytljacjjeinmfnaa
open Go Go.RowKit
set_option maxRecDepth 100000
/-- A transaction's parts. -/
def txP (ki:Int) (ch nn pr tp ga:Nat) (mk:Bool) (to:List UInt8) (va:Nat) (d a:Value) (bf:Nat) (b:Value) (od:Bool) (r s:Nat):List (List Value):= [[.int .i64 ki],[.int .u64 (ch:Int)],[.int .u64 (nn:Int)],u64s (wl pr),u64s (wl tp),[.int .u64 (ga:Int)],[.bool mk],u8s to,u64s (wl va),[d],[a],u64s (wl bf),[b],[.bool od],u64s (wl r),u64s (wl s)]
def txLens:List Nat:= [1,1,1,4,4,1,1,20,4,1,1,4,1,1,4,4]
section
variable {ki : Int} {ch nn pr tp ga va bf r s : Nat} {mk od : Bool} {to : List UInt8} {d a b : Value}
theorem txP_lens (ht:to.length=20):(txP ki ch nn pr tp ga mk to va d a bf b od r s).map List.length=txLens:=by
 simp only [txP,List.map_cons,List.map_nil,bN,u64s_len,length_wl,ht]
 rfl
theorem bG (ht:to.length=20):(txP ki ch nn pr tp ga mk to va d a bf b od r s).flatten.length=53:=by
 rw [flatten_len,txP_lens ht];rfl
def zero20:List UInt8:=List.replicate 20 0
/-- A part is copied over. -/
theorem part_copy {ps:List (List Value)} {ls:List Nat} {j o:Nat} {p q:List Value} (hl:ps.map List.length=ls) (hp:ps[j]? =some p) (ho:(ls.take j).sum=o) (hq:q.length=p.length):ps.flatten.take o++q++ps.flatten.drop (o+q.length)=(ps.set j q).flatten:=by
 have h1:=(part_len hl j).trans ho
 obtain⟨hj,_⟩:=List.getElem?_eq_some_iff.1 hp
 rw [part_cut hp,List.take_left' h1, ←List.drop_drop,List.drop_left' h1,List.drop_left' hq.symm,List.set_eq_take_append_cons_drop,if_pos hj,List.flatten_append,List.flatten_cons,List.append_assoc]
/-- What To is, or what is wrong. -/
def toE (ki:Int) (t:It):Except Nat (Bool×List UInt8):=match strE t with
 |.error e=>.error e
 |.ok l=>if l.length=20 then .ok (false,l)else if l.length=0∧ki≠3 then .ok (true,zero20)else .error 2
theorem toE_20 {t:It} {l:List UInt8} (he:strE t=.ok l) (h:l.length=20):toE ki t=.ok (false,l):=by simp only [toE,he];rw [if_pos h]
theorem toE_0 {t:It} {l:List UInt8} (he:strE t=.ok l) (h:l.length=0) (k:ki≠3):toE ki t=.ok (true,zero20):=by simp only [toE,he];rw [if_neg (by omega),if_pos ⟨h,k⟩]
theorem toE_bad {t:It} {l:List UInt8} (he:strE t=.ok l) (h: ¬l.length=20) (k: ¬(l.length=0∧ki≠3)):toE ki t=.error 2:=by simp only [toE,he];rw [if_neg h,if_neg k]
theorem yes_no {P:Prop} (h:true=false):P:=by cases h
theorem no_yes {P:Prop} (h:false=true):P:=by cases h
end
section
variable {Np NI Nt : Heaplet} {bp bt : Nat} {t : It} {ts : List It} {z : IV} {zs : List IV} {ki : Int} {ch nn pr tp ga va bf r s : Nat} {mk od : Bool} {d a b : Value}
set_option maxHeartbeats 2000000 in
theorem FTo_p (h:PartsN Np NI bp (z::zs) (t::ts)) (B:Blk Nt bt 58 (txP ki ch nn pr tp ga mk zero20 va d a bf b od r s).flatten):
 FnE Try.prog 106 #[.pointer (some ⟨bp,0,none⟩),.pointer (some ⟨bt,0,none⟩)] [Np,Nt] [NI] (fun v L=> ∃Np Nt m l,v=.tuple #[]∧L= [Np,Nt]∧toE ki t=.ok (m,l)∧l.length=20∧PartsN Np NI bp zs ts∧Blk Nt bt 58 (txP ki ch nn pr tp ga m l va d a bf b od r s).flatten) (fun v L=> ∃(e:Nat) (Nt:Heaplet) (cs:List Value),v=gaveV e∧L= [Nt]∧toE ki t=.error e∧Blk Nt bt 58 cs∧cs.length=53):=by
 have h1:=FBytes_p h
 have hz:zero20.length=20:=List.length_replicate ..
 have hls:=fun(mk:Bool)=>txP_lens (ki:=ki) (ch:=ch) (nn:=nn) (pr:=pr) (tp:=tp) (ga:=ga) (mk:=mk) (va:=va) (d:=d) (a:=a) (bf:=bf) (b:=b) (od:=od) (r:=r) (s:=s) hz
 have hln:=fun(mk:Bool)=>bG (ki:=ki) (ch:=ch) (nn:=nn) (pr:=pr) (tp:=tp) (ga:=ga) (mk:=mk) (va:=va) (d:=d) (a:=a) (bf:=bf) (b:=b) (od:=od) (r:=r) (s:=s) hz
 refine FnE.enter (vs:= [.pointer (some ⟨bp,0,none⟩),.pointer (some ⟨bt,0,none⟩)]) Try.func106 rfl rfl rfl ?_
 intro E R hR
 have hNR:=hR NI (by simp)
 have h1:=h1.liftB hNR
 have Bt:=B
 change At _ _ E [Np,Nt,R] _
 refine At.seq fun _ s_1=>At.region (aD (aC rfl) rfl rfl (aQ (.cons rfl .nil) (h1) (F:= [Nt,R]) Try.func107 rfl rfl (.refl _) (by simp) rfl ?_ ?_))
 ·rintro v6 L6 ⟨e,rfl,rfl,he⟩
  change At _ _ _ [Nt,R] _
  refine aI ((a0 (L1:= [Nt]) (.refl _) (.refl _) ?_))
  exact⟨e,Nt,_,rfl,rfl,by simp only [toE,he],Bt,hln mk⟩
 rintro v6 L6 ⟨Mp,pa,pc,l,rfl,rfl,he,hp,hr⟩
 change At _ _ _ [Mp,Nt,R] _
 have hrR:=hr.le hNR
 refine aE (aC rfl) rfl rfl (aA (aB (s_1 (At.seq fun _ s_2=>At.region (aD (aC rfl) rfl rfl (aD (aC rfl) rfl rfl (bP (aC rfl) se27 rfl rfl (op_eql (aC rfl) rfl rfl rfl (aK (aC rfl) rfl rfl (aF (aC rfl) fl58_6 rfl rfl ?_))))))))))
 refine aG (nxl rfl) sz4 rfl rfl rfl rfl rfl Bt (by rw [hln];exact show 0+12+1≤53 by decide) bZ (fun Nt Bt=>?_)
 rw [part_set (hls mk) (j:=6) (o:=0+12) (q:= [.bool (decide ((l.length:Int)=0))]) rfl rfl rfl]at Bt;change Blk Nt bt 58 (txP ki ch nn pr tp ga (decide ((l.length:Int)=0)) zero20 va d a bf b od r s).flatten at Bt
 refine aA (aB (s_2 (At.seq fun _ s_3=>At.region (aD (aC rfl) rfl rfl (bP (aC rfl) se27 rfl rfl (op_eql (aC rfl) rfl rfl rfl (aD (aC rfl) rfl rfl (bU (d:=16) rfl (fun g16=>?_) (fun g16=>?_)))))))))
 ·refine aJ rfl rfl rfl rfl rfl rfl rfl (aJ rfl rfl rfl rfl rfl rfl rfl (aJ rfl rfl rfl rfl rfl rfl rfl (aJ rfl rfl rfl rfl rfl rfl rfl (aJ rfl rfl rfl rfl rfl rfl rfl (bO rfl rfl rfl rfl rfl rfl (bO rfl rfl rfl rfl rfl rfl (bO rfl rfl rfl rfl rfl rfl (bO rfl rfl rfl rfl rfl rfl (bO rfl rfl rfl rfl rfl rfl (aJ rfl rfl rfl rfl rfl rfl rfl (bW (aC rfl) rfl rfl rfl (aQ (.cons rfl .nil) (FMust_any _) (F:= [Nt,Mp,R]) Try.func66 rfl rfl (.refl _) (by simp) rfl ?_ ?_))))))))))))
  ·rintro v29 L29 ⟨rfl,rfl,hb⟩
   change At _ _ _ [Nt,Mp,R] _
   refine aI ((At.sub (L':= [Nt,R]) (.cons_cons _ (.cons _ (.cons_cons _ (.slnil)))) (a0 (L1:= [Nt]) (.refl _) (.refl _) ?_)))
   first
    |exact yes_no hb
    |exact⟨2,Nt,_,rfl,rfl,toE_bad he (by omega) (fun k=>of_decide_eq_false hb k.2),Bt,hln _⟩
    |exact⟨2,Nt,_,rfl,rfl,toE_bad he (by omega) (fun k=>by omega),Bt,hln _⟩
  rintro v29 L29 ⟨rfl,rfl,hb⟩
  change At _ _ _ [Nt,Mp,R] _
  refine aA (aB (s_3 (At.region (aD (aC rfl) rfl rfl (aK (aC rfl) rfl rfl (aF (aC rfl) fl58_7 rfl rfl (op_sliceA (aC rfl) ae23 rfl .none .none .none (by omega) (by omega) (by omega) (by simp) rfl (aD (aC rfl) rfl rfl ?_))))))))
  refine op_copyB (nxl rfl) se27 rfl rfl Bt hrR (by first|exact aN|exact bC|exact bV|exact mem3|exact mem4|exact mem5|exact mem6|exact mem7|exact mem8|exact mem9) (by first|exact one_u8s _|exact one_u64s _|exact one_u32s _|(intro u hu;simp at hu;subst hu;rfl)) (by rw [hln];omega) sel0 rfl (fun Nt Bt=>?_)
  skip
  refine aA (At.norX (At.perm aX (At.perm bZ (At.perm aX (At.retNE (L1:= [Mp,Nt]) rfl .nil rfl (.refl _) (.refl _) ?_)))))
  have h20:l.length=20:=by omega
  have e1:(u8s l).take (min l.length (20- 0))=u8s l:=List.take_of_length_le (by rw [bN];omega)
  have e2:min l.length (20- 0)=(u8s l).length:=by rw [bN];omega
  have e:=part_copy (q:=u8s l) (hls (decide ((l.length:Int)=0))) (j:=7) (o:=0+13+0*1) rfl rfl (by rw [bN,bN,h20,hz])
  rw [e1,e2,e]at Bt
  change Blk Nt bt 58 (txP ki ch nn pr tp ga (decide ((l.length:Int)=0)) l va d a bf b od r s).flatten at Bt
  rw [decide_eq_false (show ¬(l.length:Int)=0 by omega)]at Bt
  exact⟨Mp,Nt,false,l,rfl,rfl,toE_20 he h20,h20,hp,Bt⟩
 refine aD (aS rfl rfl rfl rfl) rfl rfl (aK (aS rfl rfl rfl rfl) rfl rfl (aF (aS rfl rfl rfl rfl) fl58_6 rfl rfl (aH (aS rfl rfl rfl rfl) sc4 rfl Bt (by first|rfl) aN rfl ?_)))
 refine aD (aS rfl rfl rfl rfl) rfl rfl (bU (d:=21) rfl (fun g21=>?_) (fun g21=>?_))
 ·refine aD (aS rfl rfl rfl rfl) rfl rfl (aK (aS rfl rfl rfl rfl) rfl rfl (aF (aS rfl rfl rfl rfl) fl58_0 rfl rfl (aH (aS rfl rfl rfl rfl) sc3 rfl Bt (by first|rfl) aN rfl ?_)))
  refine op_neq (aS rfl rfl rfl rfl) rfl rfl rfl (bW (aS rfl rfl rfl rfl) rfl rfl rfl (bM (aC rfl) rfl rfl rfl (aQ (.cons rfl .nil) (FMust_any _) (F:= [Nt,Mp,R]) Try.func66 rfl rfl (.refl _) (by simp) rfl ?_ ?_)))
  ·rintro v29 L29 ⟨rfl,rfl,hb⟩
   change At _ _ _ [Nt,Mp,R] _
   refine aI ((At.sub (L':= [Nt,R]) (.cons_cons _ (.cons _ (.cons_cons _ (.slnil)))) (a0 (L1:= [Nt]) (.refl _) (.refl _) ?_)))
   first
    |exact yes_no hb
    |exact⟨2,Nt,_,rfl,rfl,toE_bad he (by omega) (fun k=>of_decide_eq_false hb k.2),Bt,hln _⟩
    |exact⟨2,Nt,_,rfl,rfl,toE_bad he (by omega) (fun k=>by omega),Bt,hln _⟩
  rintro v29 L29 ⟨rfl,rfl,hb⟩
  change At _ _ _ [Nt,Mp,R] _
  refine aA (aB (s_3 (At.region (aD (aC rfl) rfl rfl (aK (aC rfl) rfl rfl (aF (aC rfl) fl58_7 rfl rfl (op_sliceA (aC rfl) ae23 rfl .none .none .none (by omega) (by omega) (by omega) (by simp) rfl (aD (aC rfl) rfl rfl ?_))))))))
  refine op_copyB (nxl rfl) se27 rfl rfl Bt hrR (by first|exact aN|exact bC|exact bV|exact mem3|exact mem4|exact mem5|exact mem6|exact mem7|exact mem8|exact mem9) (by first|exact one_u8s _|exact one_u64s _|exact one_u32s _|(intro u hu;simp at hu;subst hu;rfl)) (by rw [hln];omega) sel0 rfl (fun Nt Bt=>?_)
  skip
  refine aA (At.norX (At.perm aX (At.perm bZ (At.perm aX (At.retNE (L1:= [Mp,Nt]) rfl .nil rfl (.refl _) (.refl _) ?_)))))
  have h0:l.length=0:=by omega
  have e2:min l.length (20- 0)=0:=by omega
  rw [e2,List.take_zero,List.append_nil,Nat.add_zero,List.take_append_drop]at Bt
  rw [decide_eq_true (show(l.length:Int)=0 by omega)]at Bt
  exact⟨Mp,Nt,true,zero20,rfl,rfl,toE_0 he h0 (of_decide_eq_true hb),hz,hp,Bt⟩
 refine aJ rfl rfl rfl rfl rfl rfl rfl (aJ rfl rfl rfl rfl rfl rfl rfl (aJ rfl rfl rfl rfl rfl rfl rfl (aJ rfl rfl rfl rfl rfl rfl rfl (aJ rfl rfl rfl rfl rfl rfl rfl (bM (aS rfl rfl rfl rfl) rfl rfl rfl (bM (aC rfl) rfl rfl rfl (aQ (.cons rfl .nil) (FMust_any _) (F:= [Nt,Mp,R]) Try.func66 rfl rfl (.refl _) (by simp) rfl ?_ ?_)))))))
 ·rintro v29 L29 ⟨rfl,rfl,hb⟩
  change At _ _ _ [Nt,Mp,R] _
  refine aI ((At.sub (L':= [Nt,R]) (.cons_cons _ (.cons _ (.cons_cons _ (.slnil)))) (a0 (L1:= [Nt]) (.refl _) (.refl _) ?_)))
  first
   |exact yes_no hb
   |exact⟨2,Nt,_,rfl,rfl,toE_bad he (by omega) (fun k=>of_decide_eq_false hb k.2),Bt,hln _⟩
   |exact⟨2,Nt,_,rfl,rfl,toE_bad he (by omega) (fun k=>by omega),Bt,hln _⟩
 rintro v29 L29 ⟨rfl,rfl,hb⟩
 change At _ _ _ [Nt,Mp,R] _
 refine aA (aB (s_3 (At.region (aD (aC rfl) rfl rfl (aK (aC rfl) rfl rfl (aF (aC rfl) fl58_7 rfl rfl (op_sliceA (aC rfl) ae23 rfl .none .none .none (by omega) (by omega) (by omega) (by simp) rfl (aD (aC rfl) rfl rfl ?_))))))))
 refine op_copyB (nxl rfl) se27 rfl rfl Bt hrR (by first|exact aN|exact bC|exact bV|exact mem3|exact mem4|exact mem5|exact mem6|exact mem7|exact mem8|exact mem9) (by first|exact one_u8s _|exact one_u64s _|exact one_u32s _|(intro u hu;simp at hu;subst hu;rfl)) (by rw [hln];omega) sel0 rfl (fun Nt Bt=>?_)
 skip
 refine aA (At.norX (At.perm aX (At.perm bZ (At.perm aX (At.retNE (L1:= [Mp,Nt]) rfl .nil rfl (.refl _) (.refl _) ?_)))))
 exact no_yes hb
end
end Go.Proofs.Ytljacjjeinmfnaa
/- Orders with signs, of package word and of the reference. No condition. -/
namespace Go.Proofs.Ytljacjjeinmfnaa
open Go Go.RowKit
def scmp (x y:Nat):Int:=if (negB x !=negB y)=true then (if negB x=true then-1 else 1)else cmpN x y
end Go.Proofs.Ytljacjjeinmfnaa
