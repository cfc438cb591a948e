/- Several texts in one: see the remarks ahead of each part. No condition but those told there. -/
import Derived.Test.YtjfagifjajielaaGreatX15
import Derived.Test.YtjfagifjajielaaGreatX9
import Derived.Test.YtjfagifjajielaaGreatX1
import Derived.Test.YtjfagifjajielaaGreatX2
import Derived.Test.YtjfagifjajielaaGreatX16
set_option linter.unusedSimpArgs false
set_option linter.unusedVariables false
namespace Go.Proofs.YtjfagifjajielaaGreat
open Go Go.RowKit
set_option maxRecDepth 100000
theorem FnE.liftB {P:Program} {f:FuncId} {args:Array Value} {L0:List Heaplet} {N R:Heaplet} {Post Pan:Value→List Heaplet→Prop} (h:FnE P f args L0 [N] Post Pan) (hl:N.le R):FnE P f args L0 [R] Post Pan:=fun E w F hp hr=>
 h E w F hp fun M hM=>by rw [List.mem_singleton.1 hM];exact Heaplet.le_trans hl (hr R (by simp))
section
variable {Np NI : Heaplet} {bp k : Nat} {t : It} {ts : List It} {z : IV} {zs : List IV}
end
def intC (ks:List Nat):List Value:=ks.map fun k:Nat=>Value.int .i64 (k:Int)
section
variable {Np NI M : Heaplet} {bp n cap m c : Nat} {ao a : Option Addr} {t : It} {ts : List It} {x z : IV} {zs : List IV} {ks : List Nat}
theorem PartsN.len (h:PartsN Np NI bp zs ts): ∃ao cap,Blk Np bp 157 [.slice ao ts.length cap]∧ts.length≤cap∧cap≤maxLen:=by
 obtain⟨ao,n,cap,B,hs,hi⟩:=h
 have hn:=hs.1
 rw [cellsI_len,hi.length]at hn
 have:n=ts.length:=by omega
 subst this
 exact⟨ao,cap,B,hs.2.1,hs.2.2.1⟩
end
section
variable {P : Program} {n : Nat} {l : List (Nat × Value)} {E : World} {L : List Heaplet} {d : Nat} {ty : TypeId} {pos : _} {aft : _} {Q : Exit → Act → World → Prop} {rest : List Oper} {ops : Array Oper} {Post Pan : Value → List Heaplet → Prop}
end
def mapE {α:Type} (g:It→Except Nat α):List It→Except Nat (List α)
 | []=>.ok []
 |t::ts=>match g t with
  |.error e=>.error e
  |.ok a=>match mapE g ts with
   |.error e=>.error e
   |.ok l=>.ok (a::l)
def eachE {α:Type} (g:It→Except Nat α) (t:It):Except Nat (List α):=match listE t with
 |.error e=>.error e
 |.ok its=>mapE g its
def restE {α:Type} (g:It→Except Nat α) (done:List α) (ts:List It):Except Nat (List α):=match mapE g ts with
 |.error e=>.error e
 |.ok l=>.ok (done++l)
section
variable {α : Type} {El : It → Prop} {g : It → Except Nat α} {Inv : List IV → List α → Heaplet → Prop} {z : IV} {zs : List IV} {Np NI NO : Heaplet} {bp : Nat} {t : It} {ts : List It} {f : FuncId} {fn : Func} {caps : List Value}
end
end Go.Proofs.YtjfagifjajielaaGreat
namespace Go.Proofs.YtjfagifjajielaaGreat.Pn
open Go
variable {P : Program} {ops : Array Oper} {md : Region.Mode} {Q : Exit → Act → World → Prop}
def panQ (Q:Exit→Act→World→Prop):Exit→Act→World→Prop:=fun e a w=>(∃ch,e=.panic ch)∧Q e a w
def PanOK (Q:Exit→Act→World→Prop):Prop:= ∀ch (a a':Act) (w:World),a.defers=a'.defers→Q (.panic ch) a w→Q (.panic ch) a' w
def wpOne (P:Program) (ops:Array Oper) (sink:Nat→Bool) (Q:Exit→Act→World→Prop):List Nat→Act→World→Prop
 | [],a,w=>Q .normal a w
 |i::rest,a,w=>
  match ops[i]? with
  |none=>False
  |some o=>
   if Region.wanted o (yielded ops a.tmps)then
    if floats o.op then floatOK P o.op a.eval=true∧o.wp P a w (wpOne P ops sink Q rest) (fun _ _ _=>False)
    else o.wp P a w (fun a' w'=>(sink i=true∨Agree w w')∧wpOne P ops sink Q rest a' w') (panQ Q)
   else wpOne P ops sink Q rest (a.put o.dst undef) w
variable {sink : Nat → Bool}
theorem dfeq {w:World} {a ag:Act} {l:List (Nat×Value)} (h:PendRun P ops w a l ag):ag.defers=a.defers:=by
 induction h with
 |nil a=>rfl
 | @cons a ag i v o l _ _ _ ih=>exact ih.trans (by unfold Act.put;cases o.dst<;>rfl)
theorem upon_carry {o:Oper} {a ag:Act} {K K':Act→World→Prop} {r:Result Next} (hQ:PanOK Q) (hdf:ag.defers=a.defers) (hv: ∀v w',K (ag.put o.dst v) w'→K' (a.put o.dst v) w')
 (hd: ∀d w',K ({ ag with defers:=d::ag.defers }.put o.dst undef) w'→K' ({ a with defers:=d::a.defers }.put o.dst undef) w')
 (h:o.upon P ag K (panQ Q) r):o.upon P a K' Q r:=by
 cases r with
 |ok n w'=>
  cases n<;>simp only [Oper.upon]at h⊢
  case value v=>exact hv _ _ h
  case skip=>exact hv _ _ h
  case defer d=>exact hd _ _ h
  case enter f args=>
   refine Calls.mono h fun e w'' he=>?_
   cases e with
   |returned v=>exact hv _ _ he
   |panicked c=>exact hQ _ _ _ _ hdf he.2
   |outgrown=>obtain⟨_,_,⟨_,hx⟩,_⟩:=he;cases hx
  case row row args=>exact Rows.mono h fun u w'' he=>hv _ _ he
 |halt x w'=>
  cases x<;>simp only [Oper.upon]at h⊢
  case panic v=>exact hQ _ _ _ _ hdf h.2
structure OneInv (P:Program) (md:Region.Mode) (ops:Array Oper) (sink:Nat→Bool) (Q:Exit→Act→World→Prop) (listed:Array Bool) (pend:List (Nat×Value)) (rem:List Nat) (a ag:Act) (w:World):Prop where
 size:listed.size=ops.size
 closed: ∀j,listed.getD j false=true→DepsIn md ops (fun k=>listed.getD k false=true) j
 parts: ∀j,j<ops.size→listed.getD j false=true∨j∈pend.map (·.1)++rem
 apart: ∀j∈pend.map (·.1)++rem,j<ops.size∧listed.getD j false=false
 nodup:(pend.map (·.1)++rem).Nodup
 fl: ∀j∈pend.map (·.1),FloatsAt ops j
 ord:OrdOK md ops sink (fun k=>listed.getD k false=true) (pend.map (·.1)++rem)
 run:PendRun P ops w a pend ag
 wp:wpOne P ops sink Q rem ag w
theorem OneInv.apartPre {listed:Array Bool} {pre:List (Nat×Value)} {l:List Nat} {i:Nat} {o:Oper} (hp:PairsOK md ops) (hi:ops[i]? =some o)
 (hd:DepsIn md ops (fun k=>listed.getD k false=true) i) (hun:listed.getD i false=false) (hpre: ∀j∈pre.map (·.1),listed.getD j false=false) (hn:i∉pre.map (·.1))
 (hord:OrdOK md ops sink (fun k=>listed.getD k false=true) (pre.map (·.1)++i::l)): ∀p∈pre, ∀oj,ops[p.1]? =some oj→oj.apart ops o=true:=by
 intro p hpp oj hoj
 have hpm:p.1∈pre.map (·.1):=List.mem_map_of_mem hpp
 have hne:p.1≠i:=fun e=>hn (e▸hpm)
 rcases hp p.1 i oj o hoj hi hne with h|h|h
 ·exact h
 ·exact absurd h (hord.noWait _ (by simp [hun]) hn p.1 hpm)
 ·obtain⟨o',ho',e,he,hb,heq⟩:=h
  have:=hd o' ho' e he hb
  rw [heq,hpre _ hpm]at this
  cases this
theorem wpAny_of_one (hs: ∀(j:Nat) (oj:Oper),ops[j]? =some oj→NoSel oj) (hp:PairsOK md ops) (hQ:PanOK Q):
 ∀(fuel:Nat) (listed:Array Bool) (pend:List (Nat×Value)) (rem:List Nat) (a ag:Act) (w:World),
  pend.length+rem.length≤fuel→OneInv P md ops sink Q listed pend rem a ag w→wpAny P md ops Q fuel listed a w:=by
 have stop: ∀(listed:Array Bool) (pend:List (Nat×Value)) (rem:List Nat) (a ag:Act) (w:World),OneInv P md ops sink Q listed pend rem a ag w→Region.ready md ops listed= []→Q .normal a w:=by
  intro listed pend rem a ag w I hr
  cases hl:pend.map (·.1)++rem with
  |nil=>
   obtain⟨h1,h2⟩:=List.append_eq_nil_iff.1 hl
   have h1':pend= []:=by simpa using h1
   subst h1';subst h2
   have hrun:=I.run
   cases hrun
   exact I.wp
  |cons i l=>
   have ha:=I.apart i (by rw [hl];exact List.mem_cons_self)
   have ho:=I.ord
   rw [hl]at ho
   have:i∈Region.ready md ops listed:=(ready_iff I.size).2 ⟨ha.1,ha.2,ho.1⟩
   rw [hr]at this
   cases this
 intro fuel
 induction fuel with
 |zero=>
  intro listed pend rem a ag w hlen I
  have hp0:pend= []:=List.eq_nil_of_length_eq_zero (by omega)
  have hr0:rem= []:=List.eq_nil_of_length_eq_zero (by omega)
  subst hp0;subst hr0
  have hready:Region.ready md ops listed= []:=by
   cases h:Region.ready md ops listed with
   |nil=>rfl
   |cons j l=>
    have hj:j∈Region.ready md ops listed:=by rw [h];exact List.mem_cons_self
    obtain⟨hlt,h0,_⟩:=(ready_iff I.size).1 hj
    rcases I.parts j hlt with h1|h1
    ·rw [h0]at h1;cases h1
    ·cases h1
  exact⟨hready,stop _ _ _ _ _ _ I hready⟩
 |succ fuel ih=>
  intro listed pend rem a ag w hlen I
  refine⟨stop _ _ _ _ _ _ I,?_⟩
  intro i hi
  obtain⟨hlt,hun,hd⟩:=(ready_iff I.size).1 hi
  obtain⟨o,ho⟩: ∃o,ops[i]? =some o:=⟨_,Array.getElem?_eq_getElem hlt⟩
  -- an operation that is pending comes up
  have hpull: ∀(pend:List (Nat×Value)) (rem:List Nat) (ag:Act),pend.length+rem.length≤fuel+1→OneInv P md ops sink Q listed pend rem a ag w→i∈pend.map (·.1)→
   wpOp P ops Q i (wpAny P md ops Q fuel (listed.setIfInBounds i true)) a w:=by
   intro pend rem ag hlen I hm
   obtain⟨⟨i',v⟩,hmem,rfl⟩:=List.mem_map.1 hm
   obtain⟨pre,post,rfl⟩:=List.append_of_mem hmem
   dsimp only at*
   have hord:=I.ord
   have hnd:=I.nodup
   simp only [List.map_append,List.map_cons,List.append_assoc,List.cons_append]at hord hnd
   have hn:i'∉pre.map (·.1):=by
    intro hh
    have:=List.nodup_append.1 hnd
    exact this.2.2 i' hh i' List.mem_cons_self U
   have hpre: ∀j∈pre.map (·.1),listed.getD j false=false:=fun j hj=>(I.apart j (by simp only [List.map_append,List.append_assoc];exact List.mem_append_left _ hj)).2
   obtain⟨h1,h2⟩:=PendRun.pull ho hs pre (OneInv.apartPre hp ho hd hun hpre hn hord) I.run
   refine h1.wpOp ho ?_
   refine ih _ (pre++post) rem _ ag w (by simp at hlen⊢;omega) ?_
   have hsub: ∀j,j∈(pre++post).map (·.1)++rem→j∈(pre++(i',v)::post).map (·.1)++rem∧j≠i':=by
    intro j hj
    simp only [List.map_append,List.map_cons,List.append_assoc,List.cons_append]at hj⊢
    refine⟨?_,?_⟩
    ·rcases List.mem_append.1 hj with h|h
     ·exact List.mem_append_left _ h
     ·exact List.mem_append_right _ (List.mem_cons_of_mem _ h)
    ·rintro rfl
     have hnd2:=List.nodup_append.1 hnd
     rcases List.mem_append.1 hj with h|h
     ·exact hn h
     ·exact(List.nodup_cons.1 hnd2.2.1).1 h
   refine⟨by simpa using I.size,closed_set I.size hlt I.closed hd,?_,?_,?_,?_,?_,h2,I.wp⟩
   ·intro j hj
    rcases I.parts j hj with h|h
    ·exact .inl ((cE (by have:=I.size;omega)).2 (.inl h))
    ·by_cases hji:j=i'
     ·exact .inl ((cE (by have:=I.size;omega)).2 (.inr hji))
     ·right
      simp only [List.map_append,List.map_cons,List.append_assoc,List.cons_append]at h⊢
      rcases List.mem_append.1 h with h|h
      ·exact List.mem_append_left _ h
      ·rcases List.mem_cons.1 h with h|h
       ·exact absurd h hji
       ·exact List.mem_append_right _ h
   ·intro j hj
    obtain⟨h1,h2⟩:=hsub j hj
    refine⟨(I.apart j h1).1,?_⟩
    rw [Go.getD_set_ne false (Ne.symm h2)]
    exact(I.apart j h1).2
   ·simp only [List.map_append,List.append_assoc]
    exact(List.nodup_cons.1 ((List.Perm.nodup_iff List.perm_middle).1 hnd)).2
   ·intro j hj
    refine I.fl j ?_
    simp only [List.map_append,List.map_cons]at hj⊢
    rcases List.mem_append.1 hj with h|h
    ·exact List.mem_append_left _ h
    ·exact List.mem_append_right _ (List.mem_cons_of_mem _ h)
   ·have:=OrdOK.pull (pre.map (·.1)) (fun j hj=>I.fl j (by simp only [List.map_append];exact List.mem_append_left _ hj)) hd hord
    simp only [List.map_append,List.append_assoc]
    exact OrdOK.congr (fun j=>(cE (by have:=I.size;omega)).symm) this
  -- on along the order till i has been met
  have hgo: ∀(rem:List Nat) (pend:List (Nat×Value)) (ag:Act),pend.length+rem.length≤fuel+1→OneInv P md ops sink Q listed pend rem a ag w→
   wpOp P ops Q i (wpAny P md ops Q fuel (listed.setIfInBounds i true)) a w:=by
   intro rem
   induction rem with
   |nil=>
    intro pend ag hlen I
    rcases I.parts i hlt with h|h
    ·rw [hun]at h;cases h
    ·exact hpull pend [] ag hlen I (by simpa using h)
   |cons c rem ihr=>
    intro pend ag hlen I
    have hc:=I.apart c (by simp)
    obtain⟨oc,hoc⟩: ∃oc,ops[c]? =some oc:=⟨_,Array.getElem?_eq_getElem hc.1⟩
    have hat:=OrdOK.at (pend.map (·.1)) I.ord
    have hwp:=I.wp
    simp only [wpOne,hoc]at hwp
    by_cases hfl:floats oc.op=true
    · -- it floats: it joins those that are pending
     have hnext: ∃v,RunsNow P ops w oc ag v∧wpOne P ops sink Q rem (ag.put oc.dst v) w:=by
      by_cases hw:Region.wanted oc (yielded ops ag.tmps)=true
      ·rw [if_pos hw,if_pos hfl]at hwp
       exact runsNow_of_wp hw hwp.1 hwp.2
      ·rw [if_neg hw]at hwp
       exact⟨undef,.inr ⟨by simpa using hw,rfl⟩,hwp⟩
     obtain⟨v,hrn,hwp'⟩:=hnext
     have hrun:PendRun P ops w a (pend++ [(c,v)]) (ag.put oc.dst v):=by
      exact I.run.snoc hoc hrn
     have e:(pend++ [(c,v)]).map (·.1)++rem=pend.map (·.1)++c::rem:=by simp
     refine ihr (pend++ [(c,v)]) (ag.put oc.dst v) (by simp at hlen⊢;omega) ⟨I.size,I.closed,?_,?_,?_,?_,?_,hrun,hwp'⟩
     ·rw [e];exact I.parts
     ·rw [e];exact I.apart
     ·rw [e];exact I.nodup
     ·intro j hj
      simp only [List.map_append,List.map_cons,List.map_nil]at hj
      rcases List.mem_append.1 hj with h|h
      ·exact I.fl j h
      ·simp at h;subst h;intro o' ho';rw [hoc]at ho';cases ho';exact hfl
     ·rw [e];exact I.ord
    · -- it acts
     by_cases him:i∈pend.map (·.1)
     ·exact hpull pend (c::rem) ag hlen I him
     ·rcases hat.2.1 with hf|⟨honly,hsink⟩
      ·exact absurd (hf oc hoc) hfl
      have hci:i=c:=honly i hlt (by simp only [not_or];exact⟨by simp [hun],him⟩) (hd.mono fun j hj=>.inl hj)
      subst hci
      rw [ho]at hoc;cases hoc
      have hpre: ∀j∈pend.map (·.1),listed.getD j false=false:=fun j hj=>(I.apart j (List.mem_append_left _ hj)).2
      have hap:=OneInv.apartPre hp ho hd hun hpre him I.ord
      obtain⟨e1,e2,e3⟩:=PendRun.push hs (hs i o ho) I.run hap
      have hnd:=I.nodup
      have hstep: ∀w',(sink i=true∨Agree w w')→ ∀a' ag',wpOne P ops sink Q rem ag' w'→PendRun P ops w a' pend ag'→wpAny P md ops Q fuel (listed.setIfInBounds i true) a' w':=by
       intro w' hsa a' ag' hw' hrun'
       have hrun2:PendRun P ops w' a' pend ag':=by
        rcases hsa with hsa|hsa
        · -- the sink: nothing is pending
         have hnil:pend= []:=by
          rcases List.eq_nil_or_concat pend with h|⟨pre,⟨j,u⟩,h⟩
          ·exact h
          ·exfalso
           rw [List.concat_eq_append]at h
           subst h
           have hjm:j∈(pre++ [(j,u)]).map (·.1):=by simp
           have hju:=hpre j hjm
           obtain⟨k,hk,hwt⟩:=hsink hsa j (.inr hjm)
           have hord:=I.ord
           simp only [List.map_append,List.map_cons,List.map_nil,List.append_assoc,List.singleton_append]at hord hnd
           have hjn:j∉pre.map (·.1):=fun hh=>(List.nodup_append.1 hnd).2.2 j hh j List.mem_cons_self rfl
           have hself: ¬WaitsOn md ops j j:=by
            intro hh
            obtain⟨o',ho',e,he,hb,heq⟩:=hh
            have h0:=(OrdOK.at (pre.map (·.1)) hord).1 o' ho' e he hb
            rw [heq]at h0
            rcases h0 with h0|h0
            ·rw [hju]at h0;cases h0
            ·exact hjn h0
           obtain⟨o',ho',e,he,hb,heq⟩:=hwt
           rcases hk with (hk|hk)|hk
           ·have:=I.closed k hk o' ho' e he hb
            rw [heq,hju]at this;cases this
           ·simp only [List.map_append,List.map_cons,List.map_nil,List.mem_append,List.mem_singleton]at hk
            rcases hk with hk|hk
            ·exact hord.noWait _ (by simp [hju]) hjn k hk ⟨o',ho',e,he,hb,heq⟩
            ·subst hk;exact hself ⟨o',ho',e,he,hb,heq⟩
           ·subst hk
            have:=hd o' ho' e he hb
            rw [heq,hju]at this;cases this
         subst hnil
         cases hrun'
         exact .nil _
        ·exact hrun'.mono hsa
       refine ih _ pend rem a' ag' w' (by simp at hlen⊢;omega) ?_
       have hsub: ∀j,j∈pend.map (·.1)++rem→j∈pend.map (·.1)++i::rem∧j≠i:=by
        intro j hj
        refine⟨?_,?_⟩
        ·rcases List.mem_append.1 hj with h|h
         ·exact List.mem_append_left _ h
         ·exact List.mem_append_right _ (List.mem_cons_of_mem _ h)
        ·rintro rfl
         rcases List.mem_append.1 hj with h|h
         ·exact him h
         ·exact(List.nodup_cons.1 (List.nodup_append.1 hnd).2.1).1 h
       refine⟨by simpa using I.size,closed_set I.size hlt I.closed hd,?_,?_,?_,I.fl,?_,hrun2,hw'⟩
       ·intro j hj
        rcases I.parts j hj with h|h
        ·exact .inl ((cE (by have:=I.size;omega)).2 (.inl h))
        ·by_cases hji:j=i
         ·exact .inl ((cE (by have:=I.size;omega)).2 (.inr hji))
         ·right
          rcases List.mem_append.1 h with h|h
          ·exact List.mem_append_left _ h
          ·rcases List.mem_cons.1 h with h|h
           ·exact absurd h hji
           ·exact List.mem_append_right _ h
       ·intro j hj
        obtain⟨h1,h2⟩:=hsub j hj
        refine⟨(I.apart j h1).1,?_⟩
        rw [Go.getD_set_ne false (Ne.symm h2)]
        exact(I.apart j h1).2
       ·exact(List.nodup_cons.1 ((List.Perm.nodup_iff List.perm_middle).1 hnd)).2
       ·exact OrdOK.congr (fun j=>(cE (by have:=I.size;omega)).symm) (OrdOK.pull (pend.map (·.1)) I.fl hd I.ord)
      unfold Go.wpOp
      simp only [ho]
      by_cases hw:Region.wanted o (yielded ops ag.tmps)=true
      ·rw [if_pos hw,if_neg hfl]at hwp
       rw [←e2,if_pos hw]
       left
       unfold Oper.wp at hwp⊢
       rw [e1]at hwp
       refine upon_carry hQ (dfeq I.run) (fun v w' hk=>?_) (fun d w' hk=>?_) hwp
       ·exact hstep w' hk.1 _ _ hk.2 (e3 v)
       ·exact hstep w' hk.1 _ _ hk.2 ((PendRun.push hs (hs i o ho) (I.run.defers d) hap).2.2 undef)
      ·rw [if_neg hw]at hwp
       rw [←e2,if_neg hw]
       exact hstep w (.inr (Agree.refl w)) _ _ hwp (e3 undef)
  exact hgo rem pend ag hlen I
theorem wp_one {id:Nat} {a:Act} {w:World} {l:List Oper} (snk ord:List Nat) (hm:P.follows .mixedOrders=true) (hB:oneB .any l.toArray snk ord=true)
 (hQ:PanOK Q) (h:wpOne P l.toArray (fun i=>snk.contains i) Q ord a w.drew):(Code.region id l.toArray true).wp P Q a w:=by
 simp only [oneB,Bool.and_eq_true,decide_eq_true_eq]at hB
 obtain⟨⟨⟨⟨⟨⟨hsel,hpair⟩,hord⟩,hall⟩,hnd⟩,hlt⟩,hlen⟩:=hB
 refine wp_region_any hm (wpAny_of_one (fun j oj hj cs b=>Region.noSelect_spec hsel j oj cs b hj) (pairsB_spec hpair) hQ _ _ [] ord a a _ ?_ ⟨by simp,?_,?_,?_,by simpa using hnd,by simp,?_,.nil _,h⟩)
 ·simpa using hlen
 ·intro j hj
  exfalso
  rw [Array.getD_eq_getD_getElem?,Array.getElem?_replicate]at hj
  split at hj<;>cases hj
 ·intro j hj
  right
  have:=List.all_eq_true.1 hall j (List.mem_range.2 hj)
  simpa using this
 ·intro j hj
  refine⟨by simpa using List.all_eq_true.1 hlt j (by simpa using hj),?_⟩
  rw [Array.getD_eq_getD_getElem?,Array.getElem?_replicate]
  split<;>rfl
 ·exact ordB_spec _ _ (by simp) hord
section
variable {a : Act} {w : World} {i : Nat} {rest : List Nat} {o : Oper}
theorem wpOne_nil (h:Q .normal a w):wpOne P ops sink Q [] a w:=h
theorem wpOne_float (ho:ops[i]? =some o) (hf:floats o.op=true) (hw:Region.wanted o (yielded ops a.tmps)=true) (hok:floatOK P o.op a.eval=true)
 (h: ∀K:Act→World→Prop,(∀a w,wpOne P ops sink Q rest a w→K a w)→o.wp P a w K (fun _ _ _=>False)):wpOne P ops sink Q (i::rest) a w:=by
 simp only [wpOne,ho,if_pos hw,if_pos hf]
 exact⟨hok,h _ fun _ _ h=>h⟩
theorem wpOne_skip (ho:ops[i]? =some o) (hw:Region.wanted o (yielded ops a.tmps)=false) (h:wpOne P ops sink Q rest (a.put o.dst undef) w):wpOne P ops sink Q (i::rest) a w:=by
 simp only [wpOne,ho,hw]
 exact h
theorem wpOne_sink (ho:ops[i]? =some o) (hf:floats o.op=false) (hs:sink i=true) (hw:Region.wanted o (yielded ops a.tmps)=true)
 (h: ∀K:Act→World→Prop,(∀a w,wpOne P ops sink Q rest a w→K a w)→o.wp P a w K (panQ Q)):wpOne P ops sink Q (i::rest) a w:=by
 simp only [wpOne,ho,if_pos hw,hf,hs]
 exact h _ fun _ _ h=>⟨.inl trivial,h⟩
theorem wpOne_act (ho:ops[i]? =some o) (hf:floats o.op=false) (hw:Region.wanted o (yielded ops a.tmps)=true)
 (h: ∀K:Act→World→Prop,(∀a' w',(Agree w w'∧wpOne P ops sink Q rest a' w')→K a' w')→o.wp P a w K (panQ Q)):wpOne P ops sink Q (i::rest) a w:=by
 simp only [wpOne,ho,if_pos hw,hf]
 exact h _ fun _ _ h=>⟨.inr h.1,h.2⟩
end
end Go.Proofs.YtjfagifjajielaaGreat.Pn
namespace Go.Proofs.YtjfagifjajielaaGreat.St.Sp
open Go Go.Proofs.YtjfagifjajielaaGreat
section
variable {P : Program} {ops : Array Oper} {md : Region.Mode} {S : World → Prop} {sink : Nat → Bool} {Q : Exit → Act → World → Prop}
def wpOne (P:Program) (ops:Array Oper):(World→Prop)→(Nat→Bool)→(Exit→Act→World→Prop)→List Nat→Act→World→Prop
 |_,_,Q,[],a,w=>Q .normal a w
 |S,sink,Q,i::rest,a,w=>
  match ops[i]? with
  |none=>False
  |some o=>
   if Region.wanted o (yielded ops a.tmps)then
    if floats o.op then ∃v,(∀w',S w'→(execOp a.eval o).run P w'=.ok (.value v) w')∧wpOne P ops S sink Q rest (a.put o.dst v) w
    else o.wp P a w (fun a' w'=> ∃S':World→Prop,((∀u,S' u→S u)∨sink i=true)∧S' w'∧wpOne P ops S' sink Q rest a' w') (Pn.panQ Q)
   else wpOne P ops S sink Q rest (a.put o.dst undef) w
theorem dfeq {a ag:Act} {l:List (Nat×Value)} (h:PendRun P ops S a l ag):ag.defers=a.defers:=by
 induction h with
 |nil a=>rfl
 | @cons a ag i v o l _ _ _ ih=>exact ih.trans (by unfold Act.put;cases o.dst<;>rfl)
structure OneInv (P:Program) (md:Region.Mode) (ops:Array Oper) (S:World→Prop) (sink pl:Nat→Bool) (Q:Exit→Act→World→Prop) (listed:Array Bool) (pend:List (Nat×Value)) (rem:List Nat) (a ag:Act) (w:World):Prop where
 size:listed.size=ops.size
 closed: ∀j,listed.getD j false=true→DepsIn md ops (fun k=>listed.getD k false=true) j
 parts: ∀j,j<ops.size→listed.getD j false=true∨j∈pend.map (·.1)++rem
 apart: ∀j∈pend.map (·.1)++rem,j<ops.size∧listed.getD j false=false
 nodup:(pend.map (·.1)++rem).Nodup
 fl: ∀j∈pend.map (·.1),FloatsAt ops j
 ord:OrdOK md ops (fun _=>false) (fun k=>listed.getD k false=true) (pend.map (·.1)++rem)
 snk:SinkOK md ops sink pl (fun k=>listed.getD k false=true) (pend.map (·.1)++rem)
 run:PendRun P ops S a pend ag
 st:(pend= []∧rem= [])∨S w
 wp:wpOne P ops S sink Q rem ag w
theorem OneInv.apartPre {listed:Array Bool} {pre:List (Nat×Value)} {l:List Nat} {i:Nat} {o:Oper} (hp:PairsOK md ops) (hi:ops[i]? =some o)
 (hd:DepsIn md ops (fun k=>listed.getD k false=true) i) (hun:listed.getD i false=false) (hpre: ∀j∈pre.map (·.1),listed.getD j false=false) (hn:i∉pre.map (·.1))
 (hord:OrdOK md ops (fun _=>false) (fun k=>listed.getD k false=true) (pre.map (·.1)++i::l)): ∀p∈pre, ∀oj,ops[p.1]? =some oj→oj.apart ops o=true:=by
 intro p hpp oj hoj
 have hpm:p.1∈pre.map (·.1):=List.mem_map_of_mem hpp
 have hne:p.1≠i:=fun e=>hn (e▸hpm)
 rcases hp p.1 i oj o hoj hi hne with h|h|h
 ·exact h
 ·exact absurd h (hord.noWait _ (by simp [hun]) hn p.1 hpm)
 ·obtain⟨o',ho',e,he,hb,heq⟩:=h
  have:=hd o' ho' e he hb
  rw [heq,hpre _ hpm]at this
  cases this
theorem wpAny_of_one {pl:Nat→Bool} (hs: ∀(j:Nat) (oj:Oper),ops[j]? =some oj→NoSel oj) (hp:PairsOK md ops) (hQ:Pn.PanOK Q):
 ∀(fuel:Nat) (S:World→Prop) (listed:Array Bool) (pend:List (Nat×Value)) (rem:List Nat) (a ag:Act) (w:World),
  pend.length+rem.length≤fuel→OneInv P md ops S sink pl Q listed pend rem a ag w→wpAny P md ops Q fuel listed a w:=by
 have stop: ∀(S:World→Prop) (listed:Array Bool) (pend:List (Nat×Value)) (rem:List Nat) (a ag:Act) (w:World),OneInv P md ops S sink pl Q listed pend rem a ag w→Region.ready md ops listed= []→Q .normal a w:=by
  intro S listed pend rem a ag w I hr
  cases hl:pend.map (·.1)++rem with
  |nil=>
   obtain⟨h1,h2⟩:=List.append_eq_nil_iff.1 hl
   have h1':pend= []:=by simpa using h1
   subst h1';subst h2
   have hrun:=I.run
   cases hrun
   exact I.wp
  |cons i l=>
   have ha:=I.apart i (by rw [hl];exact List.mem_cons_self)
   have ho:=I.ord
   rw [hl]at ho
   have:i∈Region.ready md ops listed:=(ready_iff I.size).2 ⟨ha.1,ha.2,ho.1⟩
   rw [hr]at this
   cases this
 intro fuel
 induction fuel with
 |zero=>
  intro S listed pend rem a ag w hlen I
  have hp0:pend= []:=List.eq_nil_of_length_eq_zero (by omega)
  have hr0:rem= []:=List.eq_nil_of_length_eq_zero (by omega)
  subst hp0;subst hr0
  have hready:Region.ready md ops listed= []:=by
   cases h:Region.ready md ops listed with
   |nil=>rfl
   |cons j l=>
    have hj:j∈Region.ready md ops listed:=by rw [h];exact List.mem_cons_self
    obtain⟨hlt,h0,_⟩:=(ready_iff I.size).1 hj
    rcases I.parts j hlt with h1|h1
    ·rw [h0]at h1;cases h1
    ·cases h1
  exact⟨hready,stop _ _ _ _ _ _ _ I hready⟩
 |succ fuel ih=>
  intro S listed pend rem a ag w hlen I
  refine⟨stop _ _ _ _ _ _ _ I,?_⟩
  intro i hi
  obtain⟨hlt,hun,hd⟩:=(ready_iff I.size).1 hi
  obtain⟨o,ho⟩: ∃o,ops[i]? =some o:=⟨_,Array.getElem?_eq_getElem hlt⟩
  -- an operation that is pending comes up
  have hpull: ∀(pend:List (Nat×Value)) (rem:List Nat) (ag:Act),pend.length+rem.length≤fuel+1→OneInv P md ops S sink pl Q listed pend rem a ag w→i∈pend.map (·.1)→
   wpOp P ops Q i (wpAny P md ops Q fuel (listed.setIfInBounds i true)) a w:=by
   intro pend rem ag hlen I hm
   obtain⟨⟨i',v⟩,hmem,rfl⟩:=List.mem_map.1 hm
   obtain⟨pre,post,rfl⟩:=List.append_of_mem hmem
   dsimp only at*
   have hord:=I.ord
   have hnd:=I.nodup
   simp only [List.map_append,List.map_cons,List.append_assoc,List.cons_append]at hord hnd
   have hn:i'∉pre.map (·.1):=by
    intro hh
    have:=List.nodup_append.1 hnd
    exact this.2.2 i' hh i' List.mem_cons_self U
   have hpre: ∀j∈pre.map (·.1),listed.getD j false=false:=fun j hj=>(I.apart j (by simp only [List.map_append,List.append_assoc];exact List.mem_append_left _ hj)).2
   obtain⟨h1,h2⟩:=PendRun.pull ho hs pre (OneInv.apartPre hp ho hd hun hpre hn hord) I.run
   have hSw:S w:=I.st.resolve_left (by rintro⟨h,_⟩;simp at h)
   refine h1.wpOp hSw ho ?_
   refine ih S _ (pre++post) rem _ ag w (by simp at hlen⊢;omega) ?_
   have hsub: ∀j,j∈(pre++post).map (·.1)++rem→j∈(pre++(i',v)::post).map (·.1)++rem∧j≠i':=by
    intro j hj
    simp only [List.map_append,List.map_cons,List.append_assoc,List.cons_append]at hj⊢
    refine⟨?_,?_⟩
    ·rcases List.mem_append.1 hj with h|h
     ·exact List.mem_append_left _ h
     ·exact List.mem_append_right _ (List.mem_cons_of_mem _ h)
    ·rintro rfl
     have hnd2:=List.nodup_append.1 hnd
     rcases List.mem_append.1 hj with h|h
     ·exact hn h
     ·exact(List.nodup_cons.1 hnd2.2.1).1 h
   refine⟨by simpa using I.size,closed_set I.size hlt I.closed hd,?_,?_,?_,?_,?_,?_,h2,.inr hSw,I.wp⟩
   ·intro j hj
    rcases I.parts j hj with h|h
    ·exact .inl ((cE (by have:=I.size;omega)).2 (.inl h))
    ·by_cases hji:j=i'
     ·exact .inl ((cE (by have:=I.size;omega)).2 (.inr hji))
     ·right
      simp only [List.map_append,List.map_cons,List.append_assoc,List.cons_append]at h⊢
      rcases List.mem_append.1 h with h|h
      ·exact List.mem_append_left _ h
      ·rcases List.mem_cons.1 h with h|h
       ·exact absurd h hji
       ·exact List.mem_append_right _ h
   ·intro j hj
    obtain⟨h1,h2⟩:=hsub j hj
    refine⟨(I.apart j h1).1,?_⟩
    rw [Go.getD_set_ne false (Ne.symm h2)]
    exact(I.apart j h1).2
   ·simp only [List.map_append,List.append_assoc]
    exact(List.nodup_cons.1 ((List.Perm.nodup_iff List.perm_middle).1 hnd)).2
   ·intro j hj
    refine I.fl j ?_
    simp only [List.map_append,List.map_cons]at hj⊢
    rcases List.mem_append.1 hj with h|h
    ·exact List.mem_append_left _ h
    ·exact List.mem_append_right _ (List.mem_cons_of_mem _ h)
   ·have:=OrdOK.pull (pre.map (·.1)) (fun j hj=>I.fl j (by simp only [List.map_append];exact List.mem_append_left _ hj)) hd hord
    simp only [List.map_append,List.append_assoc]
    exact OrdOK.congr (fun j=>(cE (by have:=I.size;omega)).symm) this
   ·have hsn:=I.snk
    simp only [List.map_append,List.map_cons,List.append_assoc,List.cons_append]at hsn
    have:=SinkOK.pull (pre.map (·.1)) (fun j hj=>I.fl j (by simp only [List.map_append];exact List.mem_append_left _ hj)) hsn
    simp only [List.map_append,List.append_assoc]
    exact SinkOK.congr (fun j=>(cE (by have:=I.size;omega)).symm) this
  -- on along the order till i has been met
  have hgo: ∀(rem:List Nat) (pend:List (Nat×Value)) (ag:Act),pend.length+rem.length≤fuel+1→OneInv P md ops S sink pl Q listed pend rem a ag w→
   wpOp P ops Q i (wpAny P md ops Q fuel (listed.setIfInBounds i true)) a w:=by
   intro rem
   induction rem with
   |nil=>
    intro pend ag hlen I
    rcases I.parts i hlt with h|h
    ·rw [hun]at h;cases h
    ·exact hpull pend [] ag hlen I (by simpa using h)
   |cons c rem ihr=>
    intro pend ag hlen I
    have hc:=I.apart c (by simp)
    obtain⟨oc,hoc⟩: ∃oc,ops[c]? =some oc:=⟨_,Array.getElem?_eq_getElem hc.1⟩
    have hat:=OrdOK.at (pend.map (·.1)) I.ord
    have hwp:=I.wp
    simp only [wpOne,hoc]at hwp
    by_cases hfl:floats oc.op=true
    · -- it floats: it joins those that are pending
     have hnext: ∃v,RunsNow P ops S oc ag v∧wpOne P ops S sink Q rem (ag.put oc.dst v) w:=by
      by_cases hw:Region.wanted oc (yielded ops ag.tmps)=true
      ·rw [if_pos hw,if_pos hfl]at hwp
       obtain⟨v,h1,h2⟩:=hwp
       exact⟨v,.inl ⟨hw,h1⟩,h2⟩
      ·rw [if_neg hw]at hwp
       exact⟨undef,.inr ⟨by simpa using hw,rfl⟩,hwp⟩
     obtain⟨v,hrn,hwp'⟩:=hnext
     have hrun:PendRun P ops S a (pend++ [(c,v)]) (ag.put oc.dst v):=by
      exact I.run.snoc hoc hrn
     have e:(pend++ [(c,v)]).map (·.1)++rem=pend.map (·.1)++c::rem:=by simp
     refine ihr (pend++ [(c,v)]) (ag.put oc.dst v) (by simp at hlen⊢;omega) ⟨I.size,I.closed,?_,?_,?_,?_,?_,?_,hrun,.inr (I.st.resolve_left (by rintro⟨_,h⟩;cases h)),hwp'⟩
     ·rw [e];exact I.parts
     ·rw [e];exact I.apart
     ·rw [e];exact I.nodup
     ·intro j hj
      simp only [List.map_append,List.map_cons,List.map_nil]at hj
      rcases List.mem_append.1 hj with h|h
      ·exact I.fl j h
      ·simp at h;subst h;intro o' ho';rw [hoc]at ho';cases ho';exact hfl
     ·rw [e];exact I.ord
     ·rw [e];exact I.snk
    · -- it acts
     by_cases him:i∈pend.map (·.1)
     ·exact hpull pend (c::rem) ag hlen I him
     ·rcases hat.2.1 with hf|⟨honly,_⟩
      ·exact absurd (hf oc hoc) hfl
      have hci:i=c:=honly i hlt (by simp only [not_or];exact⟨by simp [hun],him⟩) (hd.mono fun j hj=>.inl hj)
      subst hci
      rw [ho]at hoc;cases hoc
      have hpre: ∀j∈pend.map (·.1),listed.getD j false=false:=fun j hj=>(I.apart j (List.mem_append_left _ hj)).2
      have hap:=OneInv.apartPre hp ho hd hun hpre him I.ord
      obtain⟨e1,e2,e3⟩:=PendRun.push hs (hs i o ho) I.run hap
      have hnd:=I.nodup
      have hstep: ∀w', ∀S':World→Prop,((∀u,S' u→S u)∨sink i=true)→S' w'→ ∀a' ag',wpOne P ops S' sink Q rem ag' w'→PendRun P ops S a' pend ag'→wpAny P md ops Q fuel (listed.setIfInBounds i true) a' w':=by
       have hSw:S w:=I.st.resolve_left (by rintro⟨_,h⟩;cases h)
       have hpure:sink i=true→ ∀p∈pend,PureAt ops pl p.1:=fun hsa=>by
        have hsk:=(SinkOK.at (pend.map (·.1)) I.snk).1.resolve_left (fun hf=>absurd (hf o ho) hfl) hsa
        have key: ∀(m:Nat) (pre post:List (Nat×Value)),post.length=m→pend=pre++post→ ∀p∈post,PureAt ops pl p.1:=by
         intro m
         induction m with
         |zero=>intro pre post hl _ p hpp;rw [List.eq_nil_of_length_eq_zero hl]at hpp;cases hpp
         |succ m ihm=>
          intro pre post hl he
          obtain⟨⟨j,u⟩,post',rfl⟩: ∃x xs,post=x::xs:=by
           cases post with
           |nil=>cases hl
           |cons x xs=>exact⟨x,xs,rfl⟩
          have hpost:=ihm (pre++ [(j,u)]) post' (by simpa using hl) (by simpa using he)
          intro p hpp
          rcases List.mem_cons.1 hpp with rfl|hpp
          ·have hjm:j∈pend.map (·.1):=by rw [he];simp
           have hju:=hpre j hjm
           have hord:=I.ord
           rw [he]at hord hnd
           simp only [List.map_append,List.map_cons,List.append_assoc,List.cons_append]at hord hnd
           have hjn:j∉pre.map (·.1):=fun hh=>(List.nodup_append.1 hnd).2.2 j hh j List.mem_cons_self rfl
           have hself: ¬WaitsOn md ops j j:=by
            intro hh
            obtain⟨o',ho',e,he,hb,heq⟩:=hh
            have h0:=(OrdOK.at (pre.map (·.1)) hord).1 o' ho' e he hb
            rw [heq]at h0
            rcases h0 with h0|h0
            ·rw [hju]at h0;cases h0
            ·exact hjn h0
           rcases hsk j (.inr hjm)with hnf|hpu|⟨k,hk,hkn,hwt⟩
           ·exact absurd (I.fl j hjm) hnf
           ·exact hpu
           ·exfalso
            have hwt2:=hwt
            obtain⟨o',ho',e,he',hb,heq⟩:=hwt
            rcases hk with (hk|hk)|hk
            ·have:=I.closed k hk o' ho' e he' hb
             rw [heq,hju]at this;cases this
            ·rw [he]at hk
             simp only [List.map_append,List.map_cons,List.mem_append,List.mem_cons]at hk
             rcases hk with hk|hk|hk
             ·exact hord.noWait _ (by simp [hju]) hjn k hk hwt2
             ·subst hk;exact hself hwt2
             ·obtain⟨q,hq,rfl⟩:=List.mem_map.1 hk
              exact hkn (hpost q hq)
            ·subst hk
             have:=hd o' ho' e he' hb
             rw [heq,hju]at this;cases this
          ·exact hpost p hpp
        exact key pend.length [] pend U U
       intro w' S' hSS hSw' a' ag' hw' hrun'
       have hrun2:PendRun P ops S' a' pend ag':=by
        rcases hSS with h|h
        ·exact hrun'.mono h
        ·exact hrun'.swap ⟨w,hSw⟩ (hpure h)
       have hSt:(pend= []∧rem= [])∨S' w':=.inr hSw'
       refine ih S' _ pend rem a' ag' w' (by simp at hlen⊢;omega) ?_
       have hsub: ∀j,j∈pend.map (·.1)++rem→j∈pend.map (·.1)++i::rem∧j≠i:=by
        intro j hj
        refine⟨?_,?_⟩
        ·rcases List.mem_append.1 hj with h|h
         ·exact List.mem_append_left _ h
         ·exact List.mem_append_right _ (List.mem_cons_of_mem _ h)
        ·rintro rfl
         rcases List.mem_append.1 hj with h|h
         ·exact him h
         ·exact(List.nodup_cons.1 (List.nodup_append.1 hnd).2.1).1 h
       refine⟨by simpa using I.size,closed_set I.size hlt I.closed hd,?_,?_,?_,I.fl,?_,?_,hrun2,hSt,hw'⟩
       ·intro j hj
        rcases I.parts j hj with h|h
        ·exact .inl ((cE (by have:=I.size;omega)).2 (.inl h))
        ·by_cases hji:j=i
         ·exact .inl ((cE (by have:=I.size;omega)).2 (.inr hji))
         ·right
          rcases List.mem_append.1 h with h|h
          ·exact List.mem_append_left _ h
          ·rcases List.mem_cons.1 h with h|h
           ·exact absurd h hji
           ·exact List.mem_append_right _ h
       ·intro j hj
        obtain⟨h1,h2⟩:=hsub j hj
        refine⟨(I.apart j h1).1,?_⟩
        rw [Go.getD_set_ne false (Ne.symm h2)]
        exact(I.apart j h1).2
       ·exact(List.nodup_cons.1 ((List.Perm.nodup_iff List.perm_middle).1 hnd)).2
       ·exact OrdOK.congr (fun j=>(cE (by have:=I.size;omega)).symm) (OrdOK.pull (pend.map (·.1)) I.fl hd I.ord)
       ·exact SinkOK.congr (fun j=>(cE (by have:=I.size;omega)).symm) (SinkOK.pull (pend.map (·.1)) I.fl I.snk)
      unfold Go.wpOp
      simp only [ho]
      by_cases hw:Region.wanted o (yielded ops ag.tmps)=true
      ·rw [if_pos hw,if_neg hfl]at hwp
       rw [←e2,if_pos hw]
       left
       unfold Oper.wp at hwp⊢
       rw [e1]at hwp
       refine Pn.upon_carry hQ (dfeq I.run) (fun v w' hk=>?_) (fun d w' hk=>?_) hwp
       ·obtain⟨S',h1,h2,h3⟩:=hk;exact hstep w' S' h1 h2 _ _ h3 (e3 v)
       ·obtain⟨S',h1,h2,h3⟩:=hk;exact hstep w' S' h1 h2 _ _ h3 ((PendRun.push hs (hs i o ho) (I.run.defers d) hap).2.2 undef)
      ·rw [if_neg hw]at hwp
       rw [←e2,if_neg hw]
       exact hstep w S (.inl fun _ h=>h) (I.st.resolve_left (by rintro⟨_,h⟩;cases h)) _ _ hwp (e3 undef)
  exact hgo rem pend ag hlen I
theorem wp_one {id:Nat} {a:Act} {w:World} {l:List Oper} (snk pl ord:List Nat) (hm:P.follows .mixedOrders=true) (hB:oneSB .any l.toArray snk pl ord=true) (hS:S w.drew) (hQ:Pn.PanOK Q)
 (h:wpOne P l.toArray S (fun i=>snk.contains i) Q ord a w.drew):(Code.region id l.toArray true).wp P Q a w:=by
 simp only [oneSB,oneB,Bool.and_eq_true,decide_eq_true_eq]at hB
 obtain⟨⟨⟨⟨⟨⟨⟨hsel,hpair⟩,hord⟩,hall⟩,hnd⟩,hlt⟩,hlen⟩,hsb⟩:=hB
 refine wp_region_any hm (wpAny_of_one (pl:=fun i=>pl.contains i) (fun j oj hj cs b=>Region.noSelect_spec hsel j oj cs b hj) (pairsB_spec hpair) hQ _ S _ [] ord a a _ ?_ ⟨by simp,?_,?_,?_,by simpa using hnd,by simp,?_,?_,.nil _,.inr hS,h⟩)
 ·simpa using hlen
 ·intro j hj
  exfalso
  rw [Array.getD_eq_getD_getElem?,Array.getElem?_replicate]at hj
  split at hj<;>cases hj
 ·intro j hj
  right
  have:=List.all_eq_true.1 hall j (List.mem_range.2 hj)
  simpa using this
 ·intro j hj
  refine⟨by simpa using List.all_eq_true.1 hlt j (by simpa using hj),?_⟩
  rw [Array.getD_eq_getD_getElem?,Array.getElem?_replicate]
  split<;>rfl
 ·have:=ordB_spec _ _ (by simp) hord
  simpa using this
 ·exact sinkB_spec _ _ (by simp) (fun j hj=>by simpa using List.all_eq_true.1 hlt j hj) hsb
section
variable {a : Act} {w : World} {i : Nat} {rest : List Nat} {o : Oper} {sink : Nat → Bool}
theorem wpOne_nil (h:Q .normal a w):wpOne P ops S sink Q [] a w:=h
theorem wpOne_float {v:Value} (ho:ops[i]? =some o) (hf:floats o.op=true) (hw:Region.wanted o (yielded ops a.tmps)=true) (hr: ∀w',S w'→(execOp a.eval o).run P w'=.ok (.value v) w')
 (h:wpOne P ops S sink Q rest (a.put o.dst v) w):wpOne P ops S sink Q (i::rest) a w:=by
 simp only [wpOne,ho,if_pos hw,if_pos hf]
 exact⟨v,hr,h⟩
theorem wpOne_skip (ho:ops[i]? =some o) (hw:Region.wanted o (yielded ops a.tmps)=false) (h:wpOne P ops S sink Q rest (a.put o.dst undef) w):wpOne P ops S sink Q (i::rest) a w:=by
 simp only [wpOne,ho,hw]
 exact h
theorem wpOne_act (ho:ops[i]? =some o) (hf:floats o.op=false) (hw:Region.wanted o (yielded ops a.tmps)=true)
 (h:o.wp P a w (fun a' w'=>S w'∧wpOne P ops S sink Q rest a' w') (Pn.panQ Q)):wpOne P ops S sink Q (i::rest) a w:=by
 simp only [wpOne,ho,if_pos hw,hf]
 exact Oper.wp_mono (fun _ _ h=>⟨S,.inl fun _ h=>h,h.1,h.2⟩) h
theorem wpOne_last (ho:ops[i]? =some o) (hf:floats o.op=false) (hs:sink i=true) (hw:Region.wanted o (yielded ops a.tmps)=true)
 (h:o.wp P a w (wpOne P ops S sink Q []) (Pn.panQ Q)):wpOne P ops S sink Q [i] a w:=by
 simp only [wpOne,ho,if_pos hw,hf]
 exact Oper.wp_mono (fun _ _ h=>⟨fun _=>True,.inr hs,trivial,h⟩) h
theorem wpOne_more (ho:ops[i]? =some o) (hf:floats o.op=false) (hw:Region.wanted o (yielded ops a.tmps)=true)
 (h:o.wp P a w (fun a' w'=> ∃S':World→Prop,(∀u,S' u→S u)∧S' w'∧wpOne P ops S' sink Q rest a' w') (Pn.panQ Q)):wpOne P ops S sink Q (i::rest) a w:=by
 simp only [wpOne,ho,if_pos hw,hf]
 exact Oper.wp_mono (fun _ _ ⟨S',h1,h2,h3⟩=>⟨S',.inl h1,h2,h3⟩) h
theorem wpOne_sink (ho:ops[i]? =some o) (hf:floats o.op=false) (hs:sink i=true) (hw:Region.wanted o (yielded ops a.tmps)=true)
 (h:o.wp P a w (fun a' w'=> ∃S':World→Prop,S' w'∧wpOne P ops S' sink Q rest a' w') (Pn.panQ Q)):wpOne P ops S sink Q (i::rest) a w:=by
 simp only [wpOne,ho,if_pos hw,hf]
 exact Oper.wp_mono (fun _ _ ⟨S',h1,h2⟩=>⟨S',.inr hs,h1,h2⟩) h
end
end
end Go.Proofs.YtjfagifjajielaaGreat.St.Sp
namespace Go.Proofs.YtjfagifjajielaaGreat
open Go Go.RowKit
section
variable {P : Program} {n : Nat} {l : List (Nat × Value)} {E : World} {L : List Heaplet} {Q : Exit → Act → World → Prop} {ops : Array Oper} {o : Oper} {sink : Nat → Bool} {i : Nat} {is : List Nat} {Lst : List Heaplet}
theorem PanOK.then {K:Act→World→Prop} (h:Pn.PanOK Q):Pn.PanOK (Exit.then K Q):=fun ch a a' w e hx=>h ch a a' w e hx
theorem PanOK.body {fn:Func} {R:Heaplet} {Post Pan:Value→List Heaplet→Prop} :Pn.PanOK (bodyPostX P fn E R Post Pan):=fun ch a a' w e hx hE=>⟨e▸(hx hE).1,(hx hE).2⟩
variable {d : Nat} {ty : TypeId} {pos : String} {aft : Array Edge} {Post Pan : Value → List Heaplet → Prop}
end
section
variable {n : Nat} {l : List (Nat × Value)} {E : World} {L : List Heaplet} {K : Act → World → Prop} {As : List Heaplet}
theorem At.pack (h:As.Pairwise Apart→At n l E (joinL As::L) K):At n l E (As++L) K:=fun a w hf hw=>h (List.pairwise_append.1 hw.sep).1 a w hf hw.packL
end
set_option maxRecDepth 100000
section
variable {Np NI Nl Na : Heaplet} {bp bl m c : Nat} {a : Option Addr} {t : It} {ts : List It} {hs : List (List UInt8)} {z : IV} {zs : List IV}
def HashV (b:Nat) (hs:List (List UInt8)) (N:Heaplet):Prop:= ∃Nl Na a c,[Nl,Na].Pairwise Apart∧N=joinL [Nl,Na]∧Blk Nl b 30 [.slice a hs.length c]∧Row Na 40 32 a hs.length c (hashC hs)∧ ∀x∈hs,x.length=32
def hashesE:It→Except Nat (List (List UInt8)):=eachE (fixE 32)
end
end Go.Proofs.YtjfagifjajielaaGreat
