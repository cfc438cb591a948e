/- Several texts in one: see the remarks ahead of each part. No condition but those told there. -/
import Derived.Test.YtljacjjeinmfnaaU3
import Derived.Recover
import Derived.Test.YtljacjjeinmfnaaProg
import Derived.WalkKit
import Derived.Test.YtljacjjeinmfnaaU2
import Derived.Lib.Hide
set_option linter.unusedSimpArgs false
set_option linter.unusedVariables false
/- The engine, part 13: longer lists of heaplets. For whatever program. No condition. -/
namespace Go.Proofs.Ytljacjjeinmfnaa
open Go
theorem sel13 {A0 A1 A2 A3 A4 A5 A6 A7 A8 A9 A10 A11 A12 A13:Heaplet} {L:List Heaplet} :(A1::A2::A3::A4::A5::A6::A7::A8::A9::A10::A11::A12::A13::A0::L).Perm (A0::A1::A2::A3::A4::A5::A6::A7::A8::A9::A10::A11::A12::A13::L):=(List.Perm.cons _ sel12).trans (.swap _ _ _)
end Go.Proofs.Ytljacjjeinmfnaa
/- The engine, part 14: calls that give up by a panic; a frame that has deferred one call; recover. For whatever program. No condition. -/
namespace Go.Proofs.Ytljacjjeinmfnaa
open Go Go.RowKit
/-- A panic's chain. -/
def pnk (v:Value):List PanicEntry:= [{ v:=v,recovered:=false }]
/-- The end: a value, or a panic. -/
def DoneX (E:World) (R:Heaplet) (Post Pan:Value→List Heaplet→Prop) (e:Ending) (w':World):Prop:=
 (∃v L1,e=.returned v∧Post v L1∧Hp E (L1++ [R]) w')∨ ∃v L1,e=.panicked (pnk v)∧Pan v L1∧Hp E (L1++ [R]) w'
/-- A call that gives a value or panics. -/
def FnE (P:Program) (f:FuncId) (args:Array Value) (L0 Lr:List Heaplet) (Post Pan:Value→List Heaplet→Prop):Prop:=
 ∀(E w:World) (R:Heaplet),Hp E (L0++ [R]) w→(∀N∈Lr,N.le R)→Calls P f args w (DoneX E R Post Pan)
def bodyPostX (P:Program) (fn:Func) (E:World) (R:Heaplet) (Post Pan:Value→List Heaplet→Prop) (e:Exit) (a:Act) (w:World):Prop:=dfOf E= []→bodyPost P fn (DoneX E R Post Pan) e a w
section
variable {P : Program} {f : FuncId} {args : Array Value} {L0 Lr : List Heaplet} {Post Pan : Value → List Heaplet → Prop}
theorem Fn.x (h:Fn P f args L0 Lr Post):FnE P f args L0 Lr Post Pan:=fun E w R hw hr=>(h E w R hw hr).mono fun _ _ h=>.inl h
theorem FnE.fn (h:FnE P f args L0 Lr Post fun _ _=>False):Fn P f args L0 Lr Post:=fun E w R hw hr=>(h E w R hw hr).mono fun _ _ h=>by
 rcases h with h|⟨_,_,_,h,_⟩
 ·exact h
 ·exact h.elim
theorem FnE.mono {Post' Pan':Value→List Heaplet→Prop} (h:FnE P f args L0 Lr Post Pan) (hp: ∀v L,Post v L→Post' v L) (hq: ∀v L,Pan v L→Pan' v L):FnE P f args L0 Lr Post' Pan':=fun E w R hw hr=>
 (h E w R hw hr).mono fun _ _ h=>h.elim (fun⟨v,L1,he,hP,hh⟩=>.inl ⟨v,L1,he,hp _ _ hP,hh⟩) (fun⟨v,L1,he,hP,hh⟩=>.inr ⟨v,L1,he,hq _ _ hP,hh⟩)
theorem FnE.more {Lr':List Heaplet} (h:FnE P f args L0 Lr Post Pan) (hs: ∀N∈Lr,N∈Lr'):FnE P f args L0 Lr' Post Pan:=fun E w R hw hr=>h E w R hw fun N hN=>hr N (hs N hN)
theorem FnE.enter {vs:List Value} {fn:Func} {c:Code} {n:Nat} (hf:P.funcs[f]? =some fn) (hb:fn.body=some c) (hn:fn.ntmps=n) (hs:Nat.ble vs.length n=true)
 (h: ∀(E:World) (R:Heaplet),(∀N∈Lr,N.le R)→At n (slots 0 vs) E (L0++ [R]) (c.wp P (bodyPostX P fn E R Post Pan))):FnE P f vs.toArray L0 Lr Post Pan:=by
 intro E w R hw hr
 refine calls_of_wp hf hb ?_
 subst hn
 refine wp_body_mono ?_ (h (dfNo E) R hr _ _ (Fr.init (by simpa using hs) (fun i v hi=>by have:=(slots_get vs 0 i v hi).2;simpa using this)) (hw.env rfl rfl rfl))
 intro e a w hq
 exact bodyPost_mono (fun e w h=>h.elim (fun⟨v,L1,h1,h2,h3⟩=>.inl ⟨v,L1,h1,h2,h3.env rfl rfl rfl⟩) (fun⟨v,L1,h1,h2,h3⟩=>.inr ⟨v,L1,h1,h2,h3.env rfl rfl rfl⟩)) (hq (dfOf_no E))
end
section
variable {P : Program} {n : Nat} {l l' : List (Nat × Value)} {E : World} {L L' L1 L2 : List Heaplet} {K K' : Act → World → Prop} {Q : Exit → Act → World → Prop}
variable {fn : Func} {R : Heaplet} {Post Pan : Value → List Heaplet → Prop} {ops : Array Oper} {rest : List Oper} {d : Nat} {ty : TypeId} {pos : String} {aft : Array Edge} {v : Value}
theorem At.retX (h:At n l E L (bodyPostE P fn E R Post .ret)):At n l E L (bodyPostX P fn E R Post Pan .ret):=
 At.mono (fun a w h hE=>bodyPost_mono (fun _ _ h=>.inl h) (h hE)) h
theorem At.norX (h:At n l E L (bodyPostE P fn E R Post .normal)):At n l E L (bodyPostX P fn E R Post Pan .normal):=
 At.mono (fun a w h hE=>bodyPost_mono (fun _ _ h=>.inl h) (h hE)) h
/-- A panic goes on to the outside. -/
theorem aI {ch:List PanicEntry} (h:At n l E L (Q (.panic ch))):At n l E L (Exit.then K Q (.panic ch)):=h
theorem At.inPan {id:Nat} {ch:List PanicEntry} (h:At n l E L (Q (.panic ch))):At n l E L (Exit.inBlock id Q (.panic ch)):=h
theorem a0 (hs:L2.Sublist L) (hL:L2.Perm (L1++ [R])) (hP:Pan v L1):At n l E L (bodyPostX P fn E R Post Pan (.panic (pnk v))):=fun _ _ hf hw hE=>
 ⟨hf.defers.trans hE,.inr ⟨v,L1,rfl,hP,(hw.drop hs).perm hL⟩⟩
/-- The operation that panics. -/
theorem op_panic {x:Operand} (hx:ev l x=some v) (hr: ∀w,(Instr.panic v).run P w=.halt (.panic v) w) (h:At n l E L (Q (.panic (pnk v)))):At n l E L (wpList P ops Q (⟨none,.panic x,ty,pos,aft,none⟩::rest)):=fun a w hf hw=>
 wpList_plain rfl fun K _=>by
  unfold Oper.wp
  have e:(execOp a.eval ⟨none,.panic x,ty,pos,aft,none⟩).run P w=.halt (.panic v) w:=by
   simp [execOp,hf.eval hx,hr]
  rw [e]
  exact h a w hf hw
theorem aQ {f:FuncId} {fn:Func} {xs:List Operand} {args:List Value} {ats:Array TypeId} {L0 Lr F:List Heaplet}
 (ha:Evs l xs args) (hc:FnE P f args.toArray L0 Lr Post Pan) (hfn:P.funcs[f]? =some fn) (hb:fn.body.isSome=true) (hne:(fn.name== "runtime.NumGoroutine")=false) (hL:L.Perm (L0++F)) (hr: ∀N∈Lr,N∈F) (hn:Nat.ble (d+1) n=true)
 (hp: ∀v L1,Pan v L1→At n l E (L1++F) (Q (.panic (pnk v))))
 (h: ∀v L1,Post v L1→At n ((d,v)::l) E (L1++F) (wpList P ops Q rest)):At n l E L (wpList P ops Q (⟨some d,.call ⟨.value (.func f),xs.toArray,ats⟩,ty,pos,aft,none⟩::rest)):=fun a w hf hw=>by
 refine wpList_plain rfl fun K hK=>?_
 unfold Oper.wp
 have hw2:=hw.perm hL
 have hrun:(execOp a.eval ⟨some d,.call ⟨.value (.func f),xs.toArray,ats⟩,ty,pos,aft,none⟩).run P w=.ok (.enter f args.toArray) w:=by
  have hne':fn.name≠ "runtime.NumGoroutine" :=by simpa using hne
  have he:a.eval (.func f)=.func (.func f) #[] #[]:=rfl
  simp only [execOp,resolve,invoke,Sem.run_bind,Sem.run_pure,Result.andThen_ok,List.map_toArray,ha.map hf,he,Deferred.ofValue,Array.empty_append,Array.append_empty,run_call hfn hb hne']
 rw [hrun]
 have hsep:=List.pairwise_append.1 hw2.sep
 let R:Heaplet:=fun k=>if ∃N∈L0,N k≠none then none else w.heap[k]?
 have hRw:R.le (whole w):=fun k o hk=>by
  simp only [R]at hk
  split at hk
  ·cases hk
  ·exact hk
 have hFR: ∀N∈F,N.le R:=fun N hN k o hk=>by
  have hno: ¬ ∃M∈L0,M k≠none:=by
   rintro⟨M,hM,hMk⟩
   rcases hsep.2.2 M hM N hN k with h|h
   ·exact hMk h
   ·rw [hk]at h;cases h
  simp only [R,if_neg hno]
  exact hw2.sub N (List.mem_append_right _ hN) k o hk
 have hwR:Hp E (L0++ [R]) w:=by
  refine⟨hw.os,hw.tape,hw.output,fun N hN=>?_,?_⟩
  ·rcases List.mem_append.1 hN with hN|hN
   ·exact hw2.sub N (List.mem_append_left _ hN)
   ·simp at hN;subst hN;exact hRw
  ·rw [List.pairwise_append]
   refine⟨hsep.1,by simp,fun A hA B hB k=>?_⟩
   simp at hB;subst hB
   by_cases hAk:A k=none
   ·exact .inl hAk
   ·exact .inr (if_pos ⟨A,hA,hAk⟩)
 refine Calls.mono (hc E w R hwR fun N hN=>hFR N (hr N hN)) ?_
 rintro e w' (⟨v,L1,rfl,hP,hw'⟩|⟨v,L1,rfl,hP,hw'⟩)
 ·exact hK _ _ (h v L1 hP _ _ (hf.put (Nat.le_of_ble_eq_true hn)) (hw'.refine hFR hsep.2.1))
 ·exact hp v L1 hP _ _ hf (hw'.refine hFR hsep.2.1)
/-- What is not used up by a call, as one heaplet. -/
theorem Hp.apartRest {L0 F:List Heaplet} {w:World} (hw:Hp E (L0++F) w): ∃R:Heaplet,Hp E (L0++ [R]) w∧(∀N∈F,N.le R)∧F.Pairwise Apart:=by
 have hsep:=List.pairwise_append.1 hw.sep
 refine⟨fun k=>if ∃N∈L0,N k≠none then none else w.heap[k]?,⟨hw.os,hw.tape,hw.output,fun N hN=>?_,?_⟩,fun N hN k o hk=>?_,hsep.2.1⟩
 ·rcases List.mem_append.1 hN with hN|hN
  ·exact hw.sub N (List.mem_append_left _ hN)
  ·simp at hN;subst hN
   intro k o hk
   simp only at hk
   split at hk
   ·cases hk
   ·exact hk
 ·rw [List.pairwise_append]
  refine⟨hsep.1,by simp,fun A hA B hB k=>?_⟩
  simp at hB;subst hB
  by_cases hAk:A k=none
  ·exact .inl hAk
  ·exact .inr (if_pos ⟨A,hA,hAk⟩)
 ·have hno: ¬ ∃M∈L0,M k≠none:=by
   rintro⟨M,hM,hMk⟩
   rcases hsep.2.2 M hM N hN k with h|h
   ·exact hMk h
   ·rw [hk]at h;cases h
  simp only [if_neg hno]
  exact hw.sub N (List.mem_append_right _ hN) k o hk
theorem op_neNilF {x:Operand} {t t' e:TypeId} {Ls:List Heaplet} {X Y:Act→World→Prop} {g:Option (Nat×Bool)} (s:NxF P n l E L Ls ⟨some d,.binOp .neq t x (.const .nilIface) t',ty,pos,aft,g⟩ X Y) (ht:isIfc P t=true) (hx:ev l x=some (.iface e v)) (hn:Nat.ble (d+1) n=true) (h:At n ((d,.bool true)::l) E L Y):At n l E L X:=
 op_bin s hx rfl (fun w=>by simp [eqGuard]) (fun w=>by simp [binOp,run_equal_iface_nil ht]) hn h
theorem op_neNilT {x:Operand} {t t':TypeId} {Ls:List Heaplet} {X Y:Act→World→Prop} {g:Option (Nat×Bool)} (s:NxF P n l E L Ls ⟨some d,.binOp .neq t x (.const .nilIface) t',ty,pos,aft,g⟩ X Y) (ht:isIfc P t=true) (hx:ev l x=some .nilIface) (hn:Nat.ble (d+1) n=true) (h:At n ((d,.bool false)::l) E L Y):At n l E L X:=
 op_bin s hx rfl (fun w=>by simp [eqGuard]) (fun w=>by simp [binOp,run_equal_nil_nil ht]) hn h
/-- A closure is laid by for the end. -/
theorem op_defer {f:FuncId} {c:Operand} {caps:List Value} {ats:Array TypeId} (hcv:ev l c=some (.func (.func f) #[] caps.toArray)) (hE:dfOf E= []) (h:At n l (dfOn E (.func f) caps.toArray #[]) L (wpList P ops Q rest)):
 At n l E L (wpList P ops Q (⟨none,.defer ⟨.value c, #[],ats⟩,ty,pos,aft,none⟩::rest)):=fun a w hf hw=>
 wpList_plain rfl fun K hK=>by
  unfold Oper.wp
  have e:(execOp a.eval ⟨none,.defer ⟨.value c, #[],ats⟩,ty,pos,aft,none⟩).run P w=.ok (.defer { target:=.fn (.func f) caps.toArray,args:= #[] }) w:=by
   simp [execOp,resolve,hf.eval hcv,Deferred.ofValue]
  rw [e]
  have hd:=hf.defers
  rw [hE]at hd
  exact hK _ _ (h _ _ ⟨by rw [dfOf_on];simp [Act.put,hd],by simpa [Act.put]using hf.size,fun i v hi=>by simpa [Act.put]using hf.get i v hi⟩ (hw.env rfl rfl rfl))
end
/-- The deferred closure, where the frame below panics: it recovers; where it returns: nothing is done. -/
def FnRec (P:Program) (f:FuncId) (args:Array Value) (v:Value) (L0:List Heaplet) (Post:List Heaplet→Prop):Prop:=
 ∀(E w:World) (R:Heaplet),Hp E (L0++ [R]) w→CallsD P f args (.panicking (pnk v)) w fun e u' w'=>u'=.panicking [{ v:=v,recovered:=true }]∧ ∃x L1,e=.returned x∧Post L1∧Hp E (L1++ [R]) w'
def FnRet (P:Program) (f:FuncId) (args:Array Value):Prop:=
 ∀(E w:World) (L:List Heaplet),Hp E L w→CallsD P f args .returning w fun e u' w'=>u'=.returning∧ ∃x,e=.returned x∧Hp E L w'
section
variable {P : Program} {n : Nat} {l : List (Nat × Value)} {E : World} {L L0 F : List Heaplet} {fn : Func} {R : Heaplet} {Post : Value → List Heaplet → Prop} {v : Value}
theorem Fn.enterD {Lr:List Heaplet} {f:FuncId} {vs:List Value} {fn:Func} {c:Code} {n:Nat} (hf:P.funcs[f]? =some fn) (hb:fn.body=some c) (hn:fn.ntmps=n) (hs:Nat.ble vs.length n=true)
 (h: ∀(E:World) (R:Heaplet),(∀N∈Lr,N.le R)→dfOf E= []→At n (slots 0 vs) E (L0++ [R]) (c.wp P (bodyPostD P fn (Done E R Post)))):Fn P f vs.toArray L0 Lr Post:=by
 intro E w R hw hr
 refine calls_of_wp_defers hf hb ?_
 subst hn
 have h1:=h (dfNo E) R hr (dfOf_no E) _ _ (Fr.init (by show vs.length≤_;exact Nat.le_of_ble_eq_true hs) (fun i v hi=>by have:=(slots_get vs 0 i v hi).2;simpa using this)) (hw.env rfl rfl rfl)
 refine wp_body_mono ?_ h1
 intro e a w hq
 have hmono: ∀(ds:List Deferred) (u:FrameMode) (w:World),Leaves P fn a.tmps (Done (dfNo E) R Post) ds u w→Leaves P fn a.tmps (Done E R Post) ds u w:=by
  have hd: ∀e w,Done (dfNo E) R Post e w→Done E R Post e w:=fun e w ⟨v,L1,h1,h2,h3⟩=>⟨v,L1,h1,h2,h3.env rfl rfl rfl⟩
  intro ds
  induction ds with
  |nil=>
   intro u w h
   cases u with
   |run=>exact h
   |returning=>exact⟨h.choose,h.choose_spec.1,hd _ _ h.choose_spec.2⟩
   |panicking ch=>exact hd _ _ h
  |cons d ds ih=>
   intro u w h
   obtain⟨h1,fv,cap,f,args,h2,h3,h4⟩:=h
   refine⟨h1,fv,cap,f,args,h2,h3,h4.mono fun e u' w' hh=>?_⟩
   cases e with
   |returned x=>exact ih _ _ hh
   |panicked ch=>exact ih _ _ hh
   |outgrown=>exact hd _ _ hh
 cases e with
 |normal=>exact hmono _ _ _ hq
 |ret=>exact hmono _ _ _ hq
 |panic ch=>exact hmono _ _ _ hq
 |exit id=>exact hq
 |goto l=>exact hq
 |outgrown=>obtain⟨v,L1,h1,h2,h3⟩:=hq;exact⟨v,L1,h1,h2,h3.env rfl rfl rfl⟩
theorem run_clo {f:FuncId} {fn:Func} (hfn:P.funcs[f]? =some fn) (hb:fn.body.isSome=true) (hne:(fn.name== "runtime.NumGoroutine")=false) (caps:Array Value) (w:World):(invoke (.fn (.func f) caps) #[]).run P w=.ok (.enter f caps) w:=by
 have hne':fn.name≠ "runtime.NumGoroutine" :=by simpa using hne
 simp only [invoke,Array.empty_append,run_call hfn hb hne']
/-- The end by a return: the closure is called, and nothing is turned. -/
theorem At.retD {f:FuncId} {fc:Func} {caps:List Value} (hE:dfOf E= []) (hc:FnRet P f caps.toArray) (hfn:P.funcs[f]? =some fc) (hb:fc.body.isSome=true) (hne:(fc.name== "runtime.NumGoroutine")=false)
 (h:At n l E L (bodyPostE P fn E R Post .ret)):At n l (dfOn E (.func f) caps.toArray #[]) L (bodyPostD P fn (Done E R Post) .ret):=fun a w hf hw=>by
 have hd:=hf.defers
 rw [dfOf_on]at hd
 show Leaves P fn a.tmps (Done E R Post) a.defers .returning w
 rw [hd]
 refine leaves_cons (by simp) (run_clo hfn hb hne _ w) ((hc E w L (hw.env rfl rfl rfl)).mono ?_)
 rintro e u' w' ⟨rfl,x,rfl,hw'⟩
 have h2:=h { a with defers:= [] } w' ⟨hE.symm,hf.size,hf.get⟩ hw' hE
 exact h2.2
/-- The end by a panic: the closure recovers. -/
theorem At.panD {f:FuncId} {fc:Func} {caps:List Value} {PostC:List Heaplet→Prop} (hE:dfOf E= []) (hc:FnRec P f caps.toArray v L0 PostC) (hfn:P.funcs[f]? =some fc) (hb:fc.body.isSome=true) (hne:(fc.name== "runtime.NumGoroutine")=false) (hL:L.Perm (L0++F))
 (h: ∀L1,PostC L1→At n l E (L1++F) (bodyPostE P fn E R Post .ret)):At n l (dfOn E (.func f) caps.toArray #[]) L (bodyPostD P fn (Done E R Post) (.panic (pnk v))):=fun a w hf hw=>by
 have hd:=hf.defers
 rw [dfOf_on]at hd
 show Leaves P fn a.tmps (Done E R Post) a.defers (.panicking (pnk v)) w
 rw [hd]
 refine leaves_cons (by simp) (run_clo hfn hb hne _ w) ?_
 have hw1:Hp E (L0++F) w:=(hw.perm hL).env rfl rfl rfl
 obtain⟨R',hR,hle,hsep⟩:=hw1.apartRest
 refine(hc E w R' hR).mono ?_
 rintro e u' w' ⟨rfl,x,L1,rfl,hP,hw'⟩
 have h2:=h L1 hP { a with defers:= [] } w' ⟨hE.symm,hf.size,hf.get⟩ (hw'.refine hle hsep) hE
 exact h2.2
end
section
variable {P : Program} {f : FuncId} {fn : Func} {c : Code} {vs : List Value} {n d d2 id : Nat} {ats : Array TypeId} {ty ty2 : TypeId} {pos pos2 : String} {aft aft2 : Array Edge}
theorem rec_ops {Q:Exit→Act→List Frame→World→Prop} {ops:Array Oper} {a:Act} {cs cs':List Frame} {w:World} {v:Value}
 (hops:ops= #[⟨some d,.call ⟨.builtin .recover, #[],ats⟩,ty,pos,aft,none⟩,⟨some d2,.assign (.tmp d),ty2,pos2,aft2,none⟩])
 (hr:recoverD cs=some (v,cs')∨(recoverD cs=none∧v=.nilIface∧cs'=cs)) (hd:d<a.tmps.size)
 (h:Q .normal ((a.put (some d) v).put (some d2) v) cs' w):wpOpsS P ops Q (List.range ops.size) a cs w:=by
 subst hops
 have e1:(execOp a.eval ⟨some d,.call ⟨.builtin .recover, #[],ats⟩,ty,pos,aft,none⟩).run P w=.ok .recover w:=by
  simp [execOp,resolve,invoke,builtin]
 have e2:((a.put (some d) v).eval (.tmp d))=v:=by
  simp [Act.put,Act.eval,Array.getD_eq_getD_getElem?,hd]
 have w1:Region.wanted (⟨some d,.call ⟨.builtin .recover, #[],ats⟩,ty,pos,aft,none⟩:Oper) (yielded #[⟨some d,.call ⟨.builtin .recover, #[],ats⟩,ty,pos,aft,none⟩,⟨some d2,.assign (.tmp d),ty2,pos2,aft2,none⟩] a.tmps)=true:=by simp [Region.wanted]
 have hlast:wpOpsS P #[⟨some d,.call ⟨.builtin .recover, #[],ats⟩,ty,pos,aft,none⟩,⟨some d2,.assign (.tmp d),ty2,pos2,aft2,none⟩] Q [1] (a.put (some d) v) cs' w:=by
  have w2:Region.wanted (⟨some d2,.assign (.tmp d),ty2,pos2,aft2,none⟩:Oper) (yielded #[⟨some d,.call ⟨.builtin .recover, #[],ats⟩,ty,pos,aft,none⟩,⟨some d2,.assign (.tmp d),ty2,pos2,aft2,none⟩] (a.put (some d) v).tmps)=true:=by simp [Region.wanted]
  simp only [wpOpsS,List.getElem?_toArray,List.getElem?_cons_succ,List.getElem?_cons_zero,w2,if_true]
  simp only [execOp,e2,Sem.run_pure]
  exact h
 show wpOpsS P _ Q [0,1] a cs w
 rw [wpOpsS]
 simp only [List.getElem?_toArray,List.getElem?_cons_zero,w1,if_true,e1]
 rcases hr with hr|⟨hr,rfl,rfl⟩
 ·rw [hr];exact hlast
 ·rw [hr];exact hlast
theorem Fr.two {v:Value} (hn:fn.ntmps=n) (hs:Nat.ble vs.length n=true) (h1:Nat.ble (d+1) n=true) (h2:Nat.ble (d2+1) n=true):
 Fr [] n ((d2,v)::(d,v)::slots 0 vs) (({ tmps:=vs.toArray++Array.replicate (fn.ntmps- vs.toArray.size) undef,defers:= [] } :Act).put (some d) v |>.put (some d2) v):=by
 subst hn
 have h0:Fr [] fn.ntmps (slots 0 vs) { tmps:=vs.toArray++Array.replicate (fn.ntmps- vs.toArray.size) undef,defers:= [] } :=
  Fr.init (by simpa using hs) (fun i v hi=>by have:=(slots_get vs 0 i v hi).2;simpa using this)
 exact(h0.put (Nat.le_of_ble_eq_true h1)).put (Nat.le_of_ble_eq_true h2)
theorem FnRec.enter {v:Value} {L0:List Heaplet} {PostC:List Heaplet→Prop} (hf:P.funcs[f]? =some fn)
 (hb:fn.body=some (Code.seq (Code.region id #[⟨some d,.call ⟨.builtin .recover, #[],ats⟩,ty,pos,aft,none⟩,⟨some d2,.assign (.tmp d),ty2,pos2,aft2,none⟩] false) c)) (hn:fn.ntmps=n) (hs:Nat.ble vs.length n=true) (h1:Nat.ble (d+1) n=true) (h2:Nat.ble (d2+1) n=true)
 (h: ∀(E:World) (R:Heaplet),At n ((d2,v)::(d,v)::slots 0 vs) E (L0++ [R]) (c.wp P (bodyPostE P fn E R fun _ L=>PostC L))):FnRec P f vs.toArray v L0 PostC:=by
 intro E w R hw
 refine callsD_of_wpS hf hb fun c₀ cs hu=>?_
 apply wpS_seq
 apply wpS_region
 have hfr:=Fr.two (d:=d) (d2:=d2) (v:=v) hn hs h1 h2
 refine rec_ops (v:=v) (cs':= { c₀ with mode:=.panicking [{ v:=v,recovered:=true }] } ::cs) rfl (.inl (by simp [recoverD,hu,pnk])) ?_ ?_
 ·have:=Nat.le_of_ble_eq_true h1
  have hs':vs.length≤n:=Nat.le_of_ble_eq_true hs
  simp;omega
 show Code.wpS P c _ _ _ _
 refine wpS_of_wp (wp_body_mono ?_ (h (dfNo E) R _ w hfr (hw.env rfl rfl rfl)))
 intro e a w' hq
 have hq:=hq (dfOf_no E)
 cases e with
 |normal=>obtain⟨hd,x,h3,y,L1,h4,h5,h6⟩:=hq;exact⟨hd,_,rfl,x,h3,rfl,y,L1,h4,h5,h6.env rfl rfl rfl⟩
 |ret=>obtain⟨hd,x,h3,y,L1,h4,h5,h6⟩:=hq;exact⟨hd,_,rfl,x,h3,rfl,y,L1,h4,h5,h6.env rfl rfl rfl⟩
 |panic ch=>obtain⟨hd,y,L1,h4,_⟩:=hq;cases h4
 |exit id=>exact hq
 |goto l=>exact hq
 |outgrown=>obtain⟨y,L1,h4,_⟩:=hq;cases h4
theorem FnRet.enter (hf:P.funcs[f]? =some fn)
 (hb:fn.body=some (Code.seq (Code.region id #[⟨some d,.call ⟨.builtin .recover, #[],ats⟩,ty,pos,aft,none⟩,⟨some d2,.assign (.tmp d),ty2,pos2,aft2,none⟩] false) c)) (hn:fn.ntmps=n) (hs:Nat.ble vs.length n=true) (h1:Nat.ble (d+1) n=true) (h2:Nat.ble (d2+1) n=true)
 (h: ∀(E:World) (R:Heaplet),At n ((d2,.nilIface)::(d,.nilIface)::slots 0 vs) E [R] (c.wp P (bodyPostE P fn E R fun _ L=>L= []))):FnRet P f vs.toArray:=by
 intro E w L hw
 obtain⟨R,hR,hle,hsep⟩:=Hp.apartRest (L0:= []) (F:=L) hw
 refine callsD_of_wpS hf hb fun c₀ cs hu=>?_
 apply wpS_seq
 apply wpS_region
 have hfr:=Fr.two (d:=d) (d2:=d2) (v:=.nilIface) hn hs h1 h2
 refine rec_ops (v:=.nilIface) (cs':=c₀::cs) rfl (.inr ⟨by simp [recoverD,hu],rfl,rfl⟩) ?_ ?_
 ·have:=Nat.le_of_ble_eq_true h1
  have hs':vs.length≤n:=Nat.le_of_ble_eq_true hs
  simp;omega
 show Code.wpS P c _ _ _ _
 refine wpS_of_wp (wp_body_mono ?_ (h (dfNo E) R _ w hfr (hR.env rfl rfl rfl)))
 intro e a w' hq
 have hq:=hq (dfOf_no E)
 have hc:c₀= { c₀ with mode:=.returning } :=by cases c₀;simp_all
 cases e with
 |normal=>obtain⟨hd,x,h3,y,L1,h4,rfl,h6⟩:=hq;exact⟨hd,.returning,by rw [←hc],x,h3,rfl,y,h4,Hp.refine (L:= []) (h6.env rfl rfl rfl) hle hsep⟩
 |ret=>obtain⟨hd,x,h3,y,L1,h4,rfl,h6⟩:=hq;exact⟨hd,.returning,by rw [←hc],x,h3,rfl,y,h4,Hp.refine (L:= []) (h6.env rfl rfl rfl) hle hsep⟩
 |panic ch=>obtain⟨hd,y,L1,h4,_⟩:=hq;cases h4
 |exit id=>exact hq
 |goto l=>exact hq
 |outgrown=>obtain⟨y,L1,h4,_⟩:=hq;cases h4
end
end Go.Proofs.Ytljacjjeinmfnaa
/- Facts on the types of the program, by number. No condition. -/
namespace Go.Proofs.Ytljacjjeinmfnaa
open Go Go.RowKit
theorem sc3:scal Try.prog 3=true:=by kernel_rfl
theorem sz3:siz Try.prog 3=some 1:=by kernel_rfl
theorem ze3:zer Try.prog 3=some (.int .i64 0):=by kernel_rfl
theorem sc4:scal Try.prog 4=true:=by kernel_rfl
theorem sz4:siz Try.prog 4=some 1:=by kernel_rfl
theorem sc5:scal Try.prog 5=true:=by kernel_rfl
theorem sz5:siz Try.prog 5=some 1:=by kernel_rfl
theorem ze5:zer Try.prog 5=some (.int .u8 0):=by kernel_rfl
theorem ag23:aggOf Try.prog 23=some 20:=by kernel_rfl
theorem sz23:siz Try.prog 23=some 20:=by kernel_rfl
theorem ze23:zer Try.prog 23=some (.agg #[.int .u8 0,.int .u8 0,.int .u8 0,.int .u8 0,.int .u8 0,.int .u8 0,.int .u8 0,.int .u8 0,.int .u8 0,.int .u8 0,.int .u8 0,.int .u8 0,.int .u8 0,.int .u8 0,.int .u8 0,.int .u8 0,.int .u8 0,.int .u8 0,.int .u8 0,.int .u8 0]):=by kernel_rfl
theorem ae23:aelt Try.prog 23=some (20,5,1):=by kernel_rfl
theorem sc24:scal Try.prog 24=true:=by kernel_rfl
theorem sz24:siz Try.prog 24=some 1:=by kernel_rfl
theorem ze24:zer Try.prog 24=some (.int .u64 0):=by kernel_rfl
theorem ag26:aggOf Try.prog 26=some 4:=by kernel_rfl
theorem sz26:siz Try.prog 26=some 4:=by kernel_rfl
theorem ze26:zer Try.prog 26=some (.agg #[.int .u64 0,.int .u64 0,.int .u64 0,.int .u64 0]):=by kernel_rfl
theorem ae26:aelt Try.prog 26=some (4,24,1):=by kernel_rfl
theorem sc27:scal Try.prog 27=true:=by kernel_rfl
theorem sz27:siz Try.prog 27=some 1:=by kernel_rfl
theorem ze27:zer Try.prog 27=some (.slice none 0 0):=by kernel_rfl
theorem se27:selt Try.prog 27=some (5,1):=by kernel_rfl
theorem ag36:aggOf Try.prog 36=some 256:=by kernel_rfl
theorem sz36:siz Try.prog 36=some 256:=by kernel_rfl
def z36:List Value:=List.replicate 256 (.int .u8 0)
theorem ae36:aelt Try.prog 36=some (256,5,1):=by kernel_rfl
theorem ag39:aggOf Try.prog 39=some 32:=by kernel_rfl
theorem sz39:siz Try.prog 39=some 32:=by kernel_rfl
theorem ze39:zer Try.prog 39=some (.agg #[.int .u8 0,.int .u8 0,.int .u8 0,.int .u8 0,.int .u8 0,.int .u8 0,.int .u8 0,.int .u8 0,.int .u8 0,.int .u8 0,.int .u8 0,.int .u8 0,.int .u8 0,.int .u8 0,.int .u8 0,.int .u8 0,.int .u8 0,.int .u8 0,.int .u8 0,.int .u8 0,.int .u8 0,.int .u8 0,.int .u8 0,.int .u8 0,.int .u8 0,.int .u8 0,.int .u8 0,.int .u8 0,.int .u8 0,.int .u8 0,.int .u8 0,.int .u8 0]):=by kernel_rfl
theorem ae39:aelt Try.prog 39=some (32,5,1):=by kernel_rfl
theorem sc41:scal Try.prog 41=true:=by kernel_rfl
theorem sz41:siz Try.prog 41=some 1:=by kernel_rfl
theorem ze41:zer Try.prog 41=some (.slice none 0 0):=by kernel_rfl
theorem se41:selt Try.prog 41=some (73,32):=by kernel_rfl
def z45:List Value:= [.int .i64 0]++([.slice none 0 0]++([.bool false]++([.int .u64 0]++(List.replicate 256 (.int .u8 0)++([.slice none 0 0])))))
def z46:List Value:= [.int .i64 0]++([.slice none 0 0]++([.bool false]++([.int .u64 0]++(List.replicate 256 (.int .u8 0)++([.slice none 0 0])))))
theorem sz48:siz Try.prog 48=some 23:=by kernel_rfl
theorem ze48:zer Try.prog 48=some (.agg #[.int .u64 0,.int .u64 0,.int .u8 0,.int .u8 0,.int .u8 0,.int .u8 0,.int .u8 0,.int .u8 0,.int .u8 0,.int .u8 0,.int .u8 0,.int .u8 0,.int .u8 0,.int .u8 0,.int .u8 0,.int .u8 0,.int .u8 0,.int .u8 0,.int .u8 0,.int .u8 0,.int .u8 0,.int .u8 0,.int .u64 0]):=by kernel_rfl
theorem pl48:places Try.prog 48=some [(0,1),(1,1),(2,20),(22,1)]:=by kernel_rfl
theorem sc49:scal Try.prog 49=true:=by kernel_rfl
theorem sz49:siz Try.prog 49=some 1:=by kernel_rfl
theorem ze49:zer Try.prog 49=some (.int .i64 0):=by kernel_rfl
theorem sc56:scal Try.prog 56=true:=by kernel_rfl
theorem sz56:siz Try.prog 56=some 1:=by kernel_rfl
theorem ze56:zer Try.prog 56=some (.slice none 0 0):=by kernel_rfl
theorem se56:selt Try.prog 56=some (109,21):=by kernel_rfl
def z57:List Value:= [.int .i64 0]++(List.replicate 11 (.int .u64 0)++([.bool false]++(List.replicate 20 (.int .u8 0)++(List.replicate 4 (.int .u64 0)++([.slice none 0 0,.slice none 0 0]++(List.replicate 4 (.int .u64 0)++([.slice none 0 0]++([.bool false]++(List.replicate 8 (.int .u64 0))))))))))
theorem ag58:aggOf Try.prog 58=some 53:=by kernel_rfl
theorem sz58:siz Try.prog 58=some 53:=by kernel_rfl
def z58:List Value:= [.int .i64 0]++(List.replicate 11 (.int .u64 0)++([.bool false]++(List.replicate 20 (.int .u8 0)++(List.replicate 4 (.int .u64 0)++([.slice none 0 0,.slice none 0 0]++(List.replicate 4 (.int .u64 0)++([.slice none 0 0]++([.bool false]++(List.replicate 8 (.int .u64 0))))))))))
theorem z58_len:z58.length=53:=by decide+kernel
theorem ze58:zer Try.prog 58=some (.agg z58.toArray):=by kernel_rfl
theorem fl58_0:fld Try.prog 58 0=some 0:=by kernel_rfl
theorem fl58_1:fld Try.prog 58 1=some 1:=by kernel_rfl
theorem fl58_2:fld Try.prog 58 2=some 2:=by kernel_rfl
theorem fl58_3:fld Try.prog 58 3=some 3:=by kernel_rfl
theorem fl58_4:fld Try.prog 58 4=some 7:=by kernel_rfl
theorem fl58_5:fld Try.prog 58 5=some 11:=by kernel_rfl
theorem fl58_6:fld Try.prog 58 6=some 12:=by kernel_rfl
theorem fl58_7:fld Try.prog 58 7=some 13:=by kernel_rfl
theorem fl58_8:fld Try.prog 58 8=some 33:=by kernel_rfl
theorem fl58_9:fld Try.prog 58 9=some 37:=by kernel_rfl
theorem fl58_10:fld Try.prog 58 10=some 38:=by kernel_rfl
theorem fl58_11:fld Try.prog 58 11=some 39:=by kernel_rfl
theorem fl58_12:fld Try.prog 58 12=some 43:=by kernel_rfl
theorem fl58_13:fld Try.prog 58 13=some 44:=by kernel_rfl
theorem fl58_14:fld Try.prog 58 14=some 45:=by kernel_rfl
theorem fl58_15:fld Try.prog 58 15=some 49:=by kernel_rfl
theorem pl58:places Try.prog 58=some [(0,1),(1,1),(2,1),(3,4),(7,4),(11,1),(12,1),(13,20),(33,4),(37,1),(38,1),(39,4),(43,1),(44,1),(45,4),(49,4)]:=by kernel_rfl
theorem sc61:scal Try.prog 61=true:=by kernel_rfl
theorem sz61:siz Try.prog 61=some 1:=by kernel_rfl
theorem se61:selt Try.prog 61=some (27,1):=by kernel_rfl
theorem ze63:zer Try.prog 63=some (.agg #[.slice none 0 0,.slice none 0 0]):=by kernel_rfl
theorem fl63_0:fld Try.prog 63 0=some 0:=by kernel_rfl
theorem fl63_1:fld Try.prog 63 1=some 1:=by kernel_rfl
theorem pl63:places Try.prog 63=some [(0,1),(1,1)]:=by kernel_rfl
theorem ze66:zer Try.prog 66=some (.agg #[.slice none 0 0,.slice none 0 0,.slice none 0 0,.slice none 0 0,.int .i64 0]):=by kernel_rfl
theorem fl66_0:fld Try.prog 66 0=some 0:=by kernel_rfl
theorem fl66_1:fld Try.prog 66 1=some 1:=by kernel_rfl
theorem fl66_2:fld Try.prog 66 2=some 2:=by kernel_rfl
theorem fl66_3:fld Try.prog 66 3=some 3:=by kernel_rfl
theorem fl66_4:fld Try.prog 66 4=some 4:=by kernel_rfl
theorem pl66:places Try.prog 66=some [(0,1),(1,1),(2,1),(3,1),(4,1)]:=by kernel_rfl
theorem ag73:aggOf Try.prog 73=some 32:=by kernel_rfl
theorem sz73:siz Try.prog 73=some 32:=by kernel_rfl
theorem ze73:zer Try.prog 73=some (.agg #[.int .u8 0,.int .u8 0,.int .u8 0,.int .u8 0,.int .u8 0,.int .u8 0,.int .u8 0,.int .u8 0,.int .u8 0,.int .u8 0,.int .u8 0,.int .u8 0,.int .u8 0,.int .u8 0,.int .u8 0,.int .u8 0,.int .u8 0,.int .u8 0,.int .u8 0,.int .u8 0,.int .u8 0,.int .u8 0,.int .u8 0,.int .u8 0,.int .u8 0,.int .u8 0,.int .u8 0,.int .u8 0,.int .u8 0,.int .u8 0,.int .u8 0,.int .u8 0]):=by kernel_rfl
theorem ae73:aelt Try.prog 73=some (32,5,1):=by kernel_rfl
theorem ag74:aggOf Try.prog 74=some 8:=by kernel_rfl
theorem sz74:siz Try.prog 74=some 8:=by kernel_rfl
theorem ae74:aelt Try.prog 74=some (8,5,1):=by kernel_rfl
def z75:List Value:= [.int .i64 0]++(List.replicate 436 (.int .u8 0)++(List.replicate 8 (.int .u64 0)++([.slice none 0 0]++(List.replicate 40 (.int .u8 0)++(List.replicate 4 (.int .u64 0)++(List.replicate 32 (.int .u8 0)++([.int .u64 0,.int .u64 0]++(List.replicate 32 (.int .u8 0)))))))))
theorem ag76:aggOf Try.prog 76=some 556:=by kernel_rfl
theorem sz76:siz Try.prog 76=some 556:=by kernel_rfl
def z76:List Value:= [.int .i64 0]++(List.replicate 436 (.int .u8 0)++(List.replicate 8 (.int .u64 0)++([.slice none 0 0]++(List.replicate 40 (.int .u8 0)++(List.replicate 4 (.int .u64 0)++(List.replicate 32 (.int .u8 0)++([.int .u64 0,.int .u64 0]++(List.replicate 32 (.int .u8 0)))))))))
theorem z76_len:z76.length=556:=by decide+kernel
theorem ze76:zer Try.prog 76=some (.agg z76.toArray):=by kernel_rfl
theorem fl76_0:fld Try.prog 76 0=some 0:=by kernel_rfl
theorem fl76_1:fld Try.prog 76 1=some 1:=by kernel_rfl
theorem fl76_2:fld Try.prog 76 2=some 33:=by kernel_rfl
theorem fl76_3:fld Try.prog 76 3=some 65:=by kernel_rfl
theorem fl76_4:fld Try.prog 76 4=some 85:=by kernel_rfl
theorem fl76_5:fld Try.prog 76 5=some 117:=by kernel_rfl
theorem fl76_6:fld Try.prog 76 6=some 149:=by kernel_rfl
theorem fl76_7:fld Try.prog 76 7=some 181:=by kernel_rfl
theorem fl76_8:fld Try.prog 76 8=some 437:=by kernel_rfl
theorem fl76_9:fld Try.prog 76 9=some 441:=by kernel_rfl
theorem fl76_10:fld Try.prog 76 10=some 442:=by kernel_rfl
theorem fl76_11:fld Try.prog 76 11=some 443:=by kernel_rfl
theorem fl76_12:fld Try.prog 76 12=some 444:=by kernel_rfl
theorem fl76_13:fld Try.prog 76 13=some 445:=by kernel_rfl
theorem fl76_14:fld Try.prog 76 14=some 446:=by kernel_rfl
theorem fl76_15:fld Try.prog 76 15=some 478:=by kernel_rfl
theorem fl76_16:fld Try.prog 76 16=some 486:=by kernel_rfl
theorem fl76_17:fld Try.prog 76 17=some 490:=by kernel_rfl
theorem fl76_18:fld Try.prog 76 18=some 522:=by kernel_rfl
theorem fl76_19:fld Try.prog 76 19=some 523:=by kernel_rfl
theorem fl76_20:fld Try.prog 76 20=some 524:=by kernel_rfl
theorem pl76:places Try.prog 76=some [(0,1),(1,32),(33,32),(65,20),(85,32),(117,32),(149,32),(181,256),(437,4),(441,1),(442,1),(443,1),(444,1),(445,1),(446,32),(478,8),(486,4),(490,32),(522,1),(523,1),(524,32)]:=by kernel_rfl
theorem sc79:scal Try.prog 79=true:=by kernel_rfl
theorem sz79:siz Try.prog 79=some 1:=by kernel_rfl
theorem sc80:scal Try.prog 80=true:=by kernel_rfl
theorem sz80:siz Try.prog 80=some 1:=by kernel_rfl
def z81:List Value:= [.int .i64 0]++(List.replicate 436 (.int .u8 0)++(List.replicate 8 (.int .u64 0)++([.slice none 0 0]++(List.replicate 40 (.int .u8 0)++(List.replicate 4 (.int .u64 0)++(List.replicate 32 (.int .u8 0)++([.int .u64 0,.int .u64 0]++(List.replicate 32 (.int .u8 0)++([.slice none 0 0,.slice none 0 0]++([.bool false]++([.slice none 0 0])))))))))))
theorem ag82:aggOf Try.prog 82=some 560:=by kernel_rfl
theorem sz82:siz Try.prog 82=some 560:=by kernel_rfl
def z82:List Value:= [.int .i64 0]++(List.replicate 436 (.int .u8 0)++(List.replicate 8 (.int .u64 0)++([.slice none 0 0]++(List.replicate 40 (.int .u8 0)++(List.replicate 4 (.int .u64 0)++(List.replicate 32 (.int .u8 0)++([.int .u64 0,.int .u64 0]++(List.replicate 32 (.int .u8 0)++([.slice none 0 0,.slice none 0 0]++([.bool false]++([.slice none 0 0])))))))))))
theorem z82_len:z82.length=560:=by decide+kernel
theorem ze82:zer Try.prog 82=some (.agg z82.toArray):=by kernel_rfl
theorem fl82_0:fld Try.prog 82 0=some 0:=by kernel_rfl
theorem fl82_1:fld Try.prog 82 1=some 556:=by kernel_rfl
theorem fl82_2:fld Try.prog 82 2=some 557:=by kernel_rfl
theorem fl82_3:fld Try.prog 82 3=some 558:=by kernel_rfl
theorem fl82_4:fld Try.prog 82 4=some 559:=by kernel_rfl
theorem pl82:places Try.prog 82=some [(0,556),(556,1),(557,1),(558,1),(559,1)]:=by kernel_rfl
theorem sc90:scal Try.prog 90=true:=by kernel_rfl
theorem sz90:siz Try.prog 90=some 1:=by kernel_rfl
theorem se90:selt Try.prog 90=some (92,3):=by kernel_rfl
theorem ag92:aggOf Try.prog 92=some 3:=by kernel_rfl
theorem sz92:siz Try.prog 92=some 3:=by kernel_rfl
theorem ze92:zer Try.prog 92=some (.agg #[.bool false,.slice none 0 0,.slice none 0 0]):=by kernel_rfl
theorem fl92_0:fld Try.prog 92 0=some 0:=by kernel_rfl
theorem fl92_1:fld Try.prog 92 1=some 1:=by kernel_rfl
theorem fl92_2:fld Try.prog 92 2=some 2:=by kernel_rfl
theorem pl92:places Try.prog 92=some [(0,1),(1,1),(2,1)]:=by kernel_rfl
theorem ag109:aggOf Try.prog 109=some 21:=by kernel_rfl
theorem sz109:siz Try.prog 109=some 21:=by kernel_rfl
theorem ze109:zer Try.prog 109=some (.agg #[.int .u8 0,.int .u8 0,.int .u8 0,.int .u8 0,.int .u8 0,.int .u8 0,.int .u8 0,.int .u8 0,.int .u8 0,.int .u8 0,.int .u8 0,.int .u8 0,.int .u8 0,.int .u8 0,.int .u8 0,.int .u8 0,.int .u8 0,.int .u8 0,.int .u8 0,.int .u8 0,.slice none 0 0]):=by kernel_rfl
theorem fl109_0:fld Try.prog 109 0=some 0:=by kernel_rfl
theorem fl109_1:fld Try.prog 109 1=some 20:=by kernel_rfl
theorem pl109:places Try.prog 109=some [(0,20),(20,1)]:=by kernel_rfl
theorem ze117:zer Try.prog 117=some (.agg #[.int .i64 0]):=by kernel_rfl
theorem pl117:places Try.prog 117=some [(0,1)]:=by kernel_rfl
theorem ag142:aggOf Try.prog 142=some 25:=by kernel_rfl
theorem sz142:siz Try.prog 142=some 25:=by kernel_rfl
theorem ze142:zer Try.prog 142=some (.agg #[.int .u64 0,.int .u64 0,.int .u64 0,.int .u64 0,.int .u64 0,.int .u64 0,.int .u64 0,.int .u64 0,.int .u64 0,.int .u64 0,.int .u64 0,.int .u64 0,.int .u64 0,.int .u64 0,.int .u64 0,.int .u64 0,.int .u64 0,.int .u64 0,.int .u64 0,.int .u64 0,.int .u64 0,.int .u64 0,.int .u64 0,.int .u64 0,.int .u64 0]):=by kernel_rfl
theorem ae142:aelt Try.prog 142=some (25,24,1):=by kernel_rfl
theorem ze144:zer Try.prog 144=some (.agg #[.int .u64 0,.int .u64 0,.int .u64 0,.int .u64 0,.int .u64 0,.int .u64 0,.int .u64 0,.int .u64 0,.int .u64 0,.int .u64 0,.int .u64 0,.int .u64 0,.int .u64 0,.int .u64 0,.int .u64 0,.int .u64 0,.int .u64 0,.int .u64 0,.int .u64 0,.int .u64 0,.int .u64 0,.int .u64 0,.int .u64 0,.int .u64 0,.int .u64 0,.slice none 0 0]):=by kernel_rfl
theorem fl144_0:fld Try.prog 144 0=some 0:=by kernel_rfl
theorem fl144_1:fld Try.prog 144 1=some 25:=by kernel_rfl
theorem pl144:places Try.prog 144=some [(0,25),(25,1)]:=by kernel_rfl
theorem ag150:aggOf Try.prog 150=some 5:=by kernel_rfl
theorem sz150:siz Try.prog 150=some 5:=by kernel_rfl
theorem ze150:zer Try.prog 150=some (.agg #[.int .u64 0,.int .u64 0,.int .u64 0,.int .u64 0,.int .u64 0]):=by kernel_rfl
theorem ae150:aelt Try.prog 150=some (5,24,1):=by kernel_rfl
theorem ze159:zer Try.prog 159=some (.agg #[.slice none 0 0]):=by kernel_rfl
theorem fl159_0:fld Try.prog 159 0=some 0:=by kernel_rfl
theorem pl159:places Try.prog 159=some [(0,1)]:=by kernel_rfl
theorem ze160:zer Try.prog 160=some (.agg #[.int .i64 0,.int .i64 0,.int .i64 0,.int .i64 0]):=by kernel_rfl
theorem ae160:aelt Try.prog 160=some (4,3,1):=by kernel_rfl
theorem se167:selt Try.prog 167=some (3,1):=by kernel_rfl
def z174:List Value:=List.replicate 136 (.int .u8 0)
theorem ae174:aelt Try.prog 174=some (136,5,1):=by kernel_rfl
theorem ze184:zer Try.prog 184=some (.slice none 0 0):=by kernel_rfl
theorem ag191:aggOf Try.prog 191=some 24:=by kernel_rfl
theorem sz191:siz Try.prog 191=some 24:=by kernel_rfl
theorem ze191:zer Try.prog 191=some (.agg #[.int .u64 0,.int .u64 0,.int .u64 0,.int .u64 0,.int .u64 0,.int .u64 0,.int .u64 0,.int .u64 0,.int .u64 0,.int .u64 0,.int .u64 0,.int .u64 0,.int .u64 0,.int .u64 0,.int .u64 0,.int .u64 0,.int .u64 0,.int .u64 0,.int .u64 0,.int .u64 0,.int .u64 0,.int .u64 0,.int .u64 0,.int .u64 0]):=by kernel_rfl
theorem ae191:aelt Try.prog 191=some (24,24,1):=by kernel_rfl
theorem ze198:zer Try.prog 198=some (.agg #[.int .u64 0,.int .u64 0,.int .u64 0,.int .u64 0,.int .u64 0,.int .u64 0,.int .u64 0,.int .u64 0]):=by kernel_rfl
theorem ae198:aelt Try.prog 198=some (8,24,1):=by kernel_rfl
theorem se200:selt Try.prog 200=some (24,1):=by kernel_rfl
theorem te5:ElemInfo Try.prog 5 (.int .u8 0) 1 1:=elem_of (by kernel_rfl) rfl (by decide)
theorem te24:ElemInfo Try.prog 24 (.int .u64 0) 1 8:=elem_of (by kernel_rfl) rfl (by decide)
theorem te27:ElemInfo Try.prog 27 (.slice none 0 0) 1 24:=elem_of (by kernel_rfl) rfl (by decide)
theorem te48:ElemInfo Try.prog 48 (.agg #[.int .u64 0,.int .u64 0,.int .u8 0,.int .u8 0,.int .u8 0,.int .u8 0,.int .u8 0,.int .u8 0,.int .u8 0,.int .u8 0,.int .u8 0,.int .u8 0,.int .u8 0,.int .u8 0,.int .u8 0,.int .u8 0,.int .u8 0,.int .u8 0,.int .u8 0,.int .u8 0,.int .u8 0,.int .u8 0,.int .u64 0]) 23 48:=elem_of (by kernel_rfl) rfl (by decide)
theorem te73:ElemInfo Try.prog 73 (.agg #[.int .u8 0,.int .u8 0,.int .u8 0,.int .u8 0,.int .u8 0,.int .u8 0,.int .u8 0,.int .u8 0,.int .u8 0,.int .u8 0,.int .u8 0,.int .u8 0,.int .u8 0,.int .u8 0,.int .u8 0,.int .u8 0,.int .u8 0,.int .u8 0,.int .u8 0,.int .u8 0,.int .u8 0,.int .u8 0,.int .u8 0,.int .u8 0,.int .u8 0,.int .u8 0,.int .u8 0,.int .u8 0,.int .u8 0,.int .u8 0,.int .u8 0,.int .u8 0]) 32 32:=elem_of (by kernel_rfl) rfl (by decide)
set_option maxRecDepth 100000 in
theorem te76:ElemInfo Try.prog 76 (.agg z76.toArray) 556 688:=elem_of (by kernel_rfl) (by show z76.length=556;exact z76_len) (by decide)
theorem te92:ElemInfo Try.prog 92 (.agg #[.bool false,.slice none 0 0,.slice none 0 0]) 3 56:=elem_of (by kernel_rfl) rfl (by decide)
theorem te109:ElemInfo Try.prog 109 (.agg #[.int .u8 0,.int .u8 0,.int .u8 0,.int .u8 0,.int .u8 0,.int .u8 0,.int .u8 0,.int .u8 0,.int .u8 0,.int .u8 0,.int .u8 0,.int .u8 0,.int .u8 0,.int .u8 0,.int .u8 0,.int .u8 0,.int .u8 0,.int .u8 0,.int .u8 0,.int .u8 0,.slice none 0 0]) 21 48:=elem_of (by kernel_rfl) rfl (by decide)
end Go.Proofs.Ytljacjjeinmfnaa
/- Plain law: what limb.From's loop builds. No condition. -/
namespace Go.Proofs.Ytljacjjeinmfnaa
/-- One round of limb.From. -/
def fromStep (l:List UInt8) (k:Nat) (a:List UInt64):List UInt64:=
 a.set ((l.length- 1- k)/8) (a.getD ((l.length- 1- k)/8) 0 |||(UInt64.ofNat ((l.getD k 0).toNat*2^((l.length- 1- k) % 8*8))))
def fromSt (l:List UInt8):Nat→List UInt64
 |0=>List.replicate ((l.length+7)/8) 0
 |k+1=>fromStep l k (fromSt l k)
theorem length_fromSt (l:List UInt8) (k:Nat):(fromSt l k).length=(l.length+7)/8:=by
 induction k with
 |zero=>simp [fromSt]
 |succ k ih=>simp [fromSt,fromStep,ih]
theorem v64_set {a:List UInt64} {i:Nat} {y:UInt64} (h:i<a.length):v64 (a.set i y)+a[i].toNat*2^(64*i)=v64 a+y.toNat*2^(64*i):=by
 have:=val_set (2^64) (n64 a) i y.toNat (by simpa using h)
 simp only [v64,n64,List.map_set,List.getElem_map]at this⊢
 rw [←Nat.pow_mul]at this
 exact this
theorem limb_v64 {a:List UInt64} {i:Nat} (h:i<a.length):v64 a/2^(64*i) % 2^64=a[i].toNat:=by
 have:=val_div_mod (B:=2^64) (by decide) (n64_lt a) i (by simpa using h)
 rw [←Nat.pow_mul]at this
 simpa [v64,n64]using this
theorem be_take_succ (l:List UInt8) (k:Nat) (h:k<l.length):be (l.take (k+1))=be (l.take k)*256+l[k].toNat:=by
 rw [List.take_succ_eq_append_getElem h,be_snoc]
theorem v64_fromSt (l:List UInt8) (k:Nat) (hk:k≤l.length):v64 (fromSt l k)=be (l.take k)*256^(l.length- k):=by
 induction k with
 |zero=>simp [fromSt,v64_replicate,be]
 |succ k ih=>
  have hlt:k<l.length:=by omega
  have ih:=ih (by omega)
  have hat:(l.length- 1- k)/8<(fromSt l k).length:=by rw [length_fromSt];omega
  have hs:=v64_set (a:=fromSt l k) (i:=(l.length- 1- k)/8) (y:=(fromSt l k)[(l.length- 1- k)/8]|||UInt64.ofNat (l[k].toNat*2^((l.length- 1- k) % 8*8))) hat
  have hd:fromSt l (k+1)=(fromSt l k).set ((l.length- 1- k)/8) ((fromSt l k)[(l.length- 1- k)/8]|||UInt64.ofNat (l[k].toNat*2^((l.length- 1- k) % 8*8))):=by
   simp [fromSt,fromStep,hat,hlt]
  rw [←hd]at hs
  have hx:=l[k].toNat_lt
  have hlimb:=limb_v64 hat
  generalize hq:(fromSt l k)[(l.length- 1- k)/8]=L at hs hlimb
  -- the exponent of the byte
  obtain⟨q,r,hqr,hr⟩: ∃q r,l.length- 1- k=8*q+r∧r<8:=⟨(l.length- 1- k)/8,(l.length- 1- k) % 8,by omega,Nat.mod_lt _ (by decide)⟩
  have e1:(l.length- 1- k)/8=q:=by omega
  have e2:(l.length- 1- k) % 8=r:=by omega
  rw [e1]at hs hlimb
  rw [e2]at hs
  have e3:l.length- k=8*q+r+1:=by omega
  have e4:l.length- (k+1)=8*q+r:=by omega
  rw [e3]at ih
  rw [e4,be_take_succ l k hlt]
  have p256: ∀m:Nat,(256:Nat)^m=2^(8*m):=fun m=>by rw [show(256:Nat)=2^8 from rfl, ←Nat.pow_mul]
  rw [p256]at ih⊢
  have hdiv:L.toNat % 2^(r*8+8)=0:=by
   rw [←hlimb,ih]
   have:be (l.take k)*2^(8*(8*q+r+1))=2^(64*q)*(2^(r*8+8)*be (l.take k)):=by
    rw [←Nat.mul_assoc, ←Nat.pow_add,Nat.mul_comm];congr 2;omega
   rw [this,Nat.mul_div_cancel_left _ (Nat.pow_pos (by decide)),Nat.mod_mod_of_dvd _ (Nat.pow_dvd_pow 2 (by omega)),Nat.mul_mod_right]
  have hc:l[k].toNat*2^(r*8)<2^(r*8+8):=by
   rw [Nat.pow_add,Nat.mul_comm]
   exact Nat.mul_lt_mul_of_pos_left hx (Nat.pow_pos (by decide))
  have hc64:l[k].toNat*2^(r*8)<2^64:=Nat.lt_of_lt_of_le hc (Nat.pow_le_pow_right (by decide) (by omega))
  have hor:(L |||UInt64.ofNat (l[k].toNat*2^(r*8))).toNat=L.toNat+l[k].toNat*2^(r*8):=by
   rw [UInt64.toNat_or,UInt64.toNat_ofNat',Nat.mod_eq_of_lt hc64]
   exact nat_join _ _ _ hdiv hc
  rw [hor,ih,Nat.add_mul]at hs
  have h5:l[k].toNat*2^(r*8)*2^(64*q)=l[k].toNat*2^(8*(8*q+r)):=by
   rw [Nat.mul_assoc, ←Nat.pow_add];congr 2;omega
  have h6:be (l.take k)*2^(8*(8*q+r+1))=be (l.take k)*256*2^(8*(8*q+r)):=by
   rw [Nat.mul_assoc,show(256:Nat)=2^8 from rfl, ←Nat.pow_add];congr 2;omega
  rw [h5,h6]at hs
  rw [Nat.add_mul]
  omega
theorem fromSt_all (l:List UInt8):v64 (fromSt l l.length)=be l:=by
 rw [v64_fromSt l l.length (Nat.le_refl _)];simp
end Go.Proofs.Ytljacjjeinmfnaa
/- Plain laws: the bytes of a number in limbs; the head of a payload. No condition. -/
namespace Go.Proofs.Ytljacjjeinmfnaa
theorem bitLen_div (N m:Nat):bitLen (N/2^m)=bitLen N- m:=by
 have h: ∀j,bitLen (N/2^m)≤j↔bitLen N- m≤j:=by
  intro j
  rw [bitLen_le,Nat.div_lt_iff_lt_mul (Nat.pow_pos (by decide)), ←Nat.pow_add, ←bitLen_le];omega
 have h1:=(h (bitLen N- m)).2 (Nat.le_refl _)
 have h2:=(h (bitLen (N/2^m))).1 (Nat.le_refl _)
 omega
theorem limbsOf_get {N i:Nat} (h:i<(limbsOf N).length):(limbsOf N)[i]=UInt64.ofNat (N/2^(64*i)):=by
 simp [limbsOf,limbsN]
theorem limbsOf_top {N:Nat} (h:0<(limbsOf N).length):(64*((limbsOf N).length- 1)+bitLen (limbsOf N)[(limbsOf N).length- 1].toNat)=bitLen N:=by
 rw [limbsOf_get,UInt64.toNat_ofNat']
 have hk:=length_limbsOf N
 have hN:N<2^(64*(limbsOf N).length):=by rw [hk];exact limbLen_le.1 (Nat.le_refl _)
 have:N/2^(64*((limbsOf N).length- 1))<2^64:=by
  rw [Nat.div_lt_iff_lt_mul (Nat.pow_pos (by decide)), ←Nat.pow_add]
  rwa [show 64+64*((limbsOf N).length- 1)=64*(limbsOf N).length from by omega]
 rw [Nat.mod_eq_of_lt this,bitLen_div]
 omega
theorem limbsOf_top' {N:Nat} {x:UInt64} (h:(limbsOf N)[(limbsOf N).length- 1]? =some x):64*((limbsOf N).length- 1)+bitLen x.toNat=bitLen N:=by
 obtain⟨h1,h2⟩:=List.getElem?_eq_some_iff.1 h
 rw [←h2]
 exact limbsOf_top (by omega)
/-- What has been written of so many bytes of N after k rounds. -/
def bytesSt (m N k:Nat):List UInt8:=(bytesN m N).take k++List.replicate (m- k) 0
theorem length_bytesSt {m N k:Nat} (h:k≤m):(bytesSt m N k).length=m:=by simp [bytesSt];omega
theorem bytesSt_succ {m N k:Nat} (h:k<m):bytesSt m N (k+1)=(bytesSt m N k).set k (UInt8.ofNat (N/256^(m- 1- k))):=by
 apply List.ext_getElem
 ·rw [length_bytesSt (by omega),List.length_set,length_bytesSt (by omega)]
 ·intro i h1 h2
  rw [length_bytesSt (by omega)]at h1
  rw [List.getElem_set]
  by_cases hi:k=i
  ·subst hi
   rw [if_pos rfl]
   simp only [bytesSt]
   rw [List.getElem_append_left (by simp;omega)]
   simp [bytesN]
  ·rw [if_neg hi]
   simp only [bytesSt,List.getElem_append]
   by_cases hlt:i<k
   ·simp;rw [dif_pos (by omega),dif_pos (by omega)]
   ·simp;rw [dif_neg (by omega),dif_neg (by omega)]
theorem bytesSt_zero (m N:Nat):bytesSt m N 0=List.replicate m 0:=by simp [bytesSt]
theorem bytesSt_all (m N:Nat):bytesSt m N m=bytesN m N:=by
 simp only [bytesSt,Nat.sub_self,List.replicate_zero,List.append_nil]
 exact List.take_of_length_le (by simp)
theorem byte_of_limb {l:List UInt64} {at_:Nat} (hq:at_/8<l.length):UInt8.ofNat (l[at_/8].toNat/2^(at_ % 8*8))=UInt8.ofNat (v64 l/256^at_):=by
 have hlimb:=limb_v64 hq
 rw [←hlimb]
 apply UInt8.toNat_inj.1
 rw [UInt8.toNat_ofNat',UInt8.toNat_ofNat']
 obtain⟨q,r,hqr,hr⟩: ∃q r,at_=8*q+r∧r<8:=⟨at_/8,at_ % 8,by omega,Nat.mod_lt _ (by decide)⟩
 have e1:at_/8=q:=by omega
 have e2:at_ % 8=r:=by omega
 rw [e1,e2,hqr,show(256:Nat)=2^8 from rfl, ←Nat.pow_mul,show 8*(8*q+r)=64*q+r*8 from by omega,Nat.pow_add, ←Nat.div_div_eq_div_mul]
 generalize v64 l/2^(64*q)=X
 have:r*8+8≤64:=by omega
 rw [show(2:Nat)^64=2^(r*8)*2^(64- r*8)from by rw [←Nat.pow_add];congr 1;omega,Nat.mod_mul_right_div_self]
 exact Nat.mod_mod_of_dvd _ (Nat.pow_dvd_pow 2 (by omega))
/-- The head of a payload of n bytes. -/
def rlpHead (base n:Nat):List UInt8:=if n≤55 then [UInt8.ofNat (base+n)]else UInt8.ofNat (base+55+(bytesOf n).length)::bytesOf n
theorem v64_one (n:Nat) (h:n<2^64):v64 [UInt64.ofNat n]=n:=by
 simp only [v64,n64,val,List.map_cons,List.map_nil,Nat.mul_zero,Nat.add_zero,UInt64.toNat_ofNat']
 exact Nat.mod_eq_of_lt h
theorem byteLen8 {n:Nat} (h:n<2^64):(bytesOf n).length≤8:=by
 rw [length_bytesOf];exact byteLen_le.2 (by simpa using h)
end Go.Proofs.Ytljacjjeinmfnaa
/- Plain laws on numbers in digits of 32 bits. No condition. -/
namespace Go.Proofs.Ytljacjjeinmfnaa
/-! Limbs of 32 bits, the lowest first. -/
def n32 (l:List UInt32):List Nat:=l.map UInt32.toNat
def v32 (l:List UInt32):Nat:=val (2^32) (n32 l)
theorem n32_lt (l:List UInt32): ∀x∈n32 l,x<2^32:=by
 intro x hx;obtain⟨y,_,rfl⟩:=List.mem_map.1 hx;exact y.toNat_lt
@[simp] theorem length_n32 (l:List UInt32):(n32 l).length=l.length:=by simp [n32]
theorem v32_lt (l:List UInt32):v32 l<2^(32*l.length):=by
 have:=val_lt (B:=2^32) (by decide) (n32_lt l)
 rw [length_n32, ←Nat.pow_mul]at this
 exact this
/-- So many digs of N. -/
def digsN (k N:Nat):List UInt32:=(List.range k).map fun i=>UInt32.ofNat (N/2^(32*i))
@[simp] theorem length_digsN (k N:Nat):(digsN k N).length=k:=by simp [digsN]
theorem n32_digsN (k N:Nat):n32 (digsN k N)=dig (2^32) k N:=by
 simp only [n32,digsN,dig,List.map_map]
 apply List.map_congr_left
 intro i _
 show(UInt32.ofNat (N/2^(32*i))).toNat=_
 rw [UInt32.toNat_ofNat',Nat.pow_mul]
/-- The digs of N, no zeros at the end. -/
def digsOf (N:Nat):List UInt32:=digsN ((bitLen N+31)/32) N
end Go.Proofs.Ytljacjjeinmfnaa
/- Plain laws: numbers in digits of 32 bits and their bytes. No condition. -/
namespace Go.Proofs.Ytljacjjeinmfnaa
end Go.Proofs.Ytljacjjeinmfnaa
/- limb.Trim: a number without zeros at its upper end. No condition. -/
namespace Go.Proofs.Ytljacjjeinmfnaa
open Go Go.RowKit
theorem u64_zero {x:UInt64} (h:(x.toNat:Int)=0):x=0:=by rw [←UInt64.toNat_inj];simpa using h
theorem trim_len {l:List UInt64} {k:Nat} (hk:k≤l.length) (hz: ∀i,k≤i→l.getD i 0=0) (hl:k=0∨(0<k∧l.getD (k- 1) 0≠0)):l.take k=limbsOf (v64 l)∧(limbsOf (v64 l)).length=k:=by
 have h1:l.take k=limbsOf (v64 l):=trim_eq hk (fun i h hki=>by
  have:=hz i hki
  rwa [List.getD_eq_getElem?_getD,List.getElem?_eq_getElem h]at this) (by
  rcases hl with h|⟨h0,h⟩
  ·exact .inl h
  ·refine .inr ⟨by omega,?_⟩
   rwa [List.getD_eq_getElem?_getD,List.getElem?_eq_getElem (by omega)]at h)
 exact⟨h1,by rw [←h1,List.length_take];omega⟩
theorem Trim_f {N:Heaplet} {ao:Option Addr} {n cap:Nat} {l:List UInt64} (h:RSl N 1 ao n cap (u64s l)):
 Fn Try.prog 147 #[.slice ao n cap] [] [N] (fun v L=>v=.slice ao (limbsOf (v64 l)).length (limbsOf (v64 l)).length∧L= []∧l.take (limbsOf (v64 l)).length=limbsOf (v64 l)∧(limbsOf (v64 l)).length≤n):=by
 have hlen:l.length=n:=by simpa using h.len
 have hcap:=h.2.1
 have hmax:=h.2.2.1
 unfold maxLen at hmax
 refine Fn.enter (vs:= [.slice ao n cap]) Try.func147 rfl rfl rfl ?_
 intro E R hR
 have h:=h.le (hR N (by simp))
 change At _ _ E [R] _
 refine At.seq fun _ s_1=>At.region (aE (aC rfl) rfl rfl (aA (aB (s_1 (At.seq fun _ s_2=>At.region (aD (aC rfl) rfl rfl (bP (aC rfl) se200 rfl rfl (aE (aC rfl) rfl rfl (aA (aB (s_2 (At.seq fun _ s_3=>At.block ?_))))))))))))
 refine At.loop (fun fr_ hp_ ms_=> ∃(k:Nat),fr_= [(0,.slice ao n cap),(3,.int .i64 (k:Int))]∧hp_= [R]∧k=ms_∧(k≤n)∧(∀i,k≤i→l.getD i 0=0)) ?_ (.refl _) ⟨n,rfl,rfl,rfl,Nat.le_refl _,fun i hi=>by rw [List.getD_eq_getElem?_getD,List.getElem?_eq_none (by omega)];rfl⟩ ?_
 ·exact .cons (by first|exact bE rfl (by omega)|rfl) (.cons (by first|exact bE rfl (by omega)|rfl) .nil)
 rintro _ _ _ ⟨k,rfl,rfl,rfl,hk,hz⟩
 refine At.seq fun _ s_4=>At.seq fun _ s_5=>At.region (aD (aC rfl) rfl rfl (op_gtr (aC rfl) rfl rfl rfl (aD (aC rfl) rfl rfl (bU (d:=8) rfl (fun g8=>?_) (fun g8=>?_)))))
 ·refine aD (aS rfl rfl rfl rfl) rfl rfl (aD (aS rfl rfl rfl rfl) rfl rfl (op_subI (aS rfl rfl rfl rfl) rfl rfl (by omega) (by omega) rfl (op_idx1 (aS rfl rfl rfl rfl) se200 rfl rfl (by assumption) (show _=(((k- 1:Nat)):Int)from by omega) (by omega) rfl ?_)))
  refine bS (aS rfl rfl rfl rfl) sc24 rfl (by assumption) (by first|exact get8 (by omega)|exact get64 (by omega)|exact get32 (by omega)) (by first|exact aN|exact bC|exact bV|exact mem3|exact mem4|exact mem5|exact mem6|exact mem7|exact mem8|exact mem9) rfl ?_
  refine op_eql (aS rfl rfl rfl rfl) rfl rfl rfl (bW (aC rfl) rfl rfl rfl (aA (aB (s_5 (aP rfl (fun c15=>?_) (fun c15=>?_))))))
  ·refine At.skip (aB (s_4 (At.block (At.region (aD (aC rfl) rfl rfl (op_subI (aC rfl) rfl rfl (by omega) (by omega) rfl (aE (aC rfl) rfl rfl (aA (bB (aB ?_))))))))))
   refine At.back ?_ (.refl _) ⟨k- 1,rfl,rfl,rfl,by omega,fun i hi=>by rcases Nat.lt_or_ge i k with h|h;(rw [show i=k- 1 by omega];exact u64_zero c15);exact hz i h⟩ ?_
   ·exact .cons (by first|exact bE rfl (by omega)|rfl) (.cons (by first|exact bE rfl (by omega)|rfl) .nil)
   ·omega
  refine At.exit (aO (aO (At.inHit (aB (s_3 (At.seq fun _ s_6=>At.region (aD (aC rfl) rfl rfl (aD (aC rfl) rfl rfl (aD (aC rfl) rfl rfl (op_slice0 (aC rfl) se200 rfl (.some rfl (show _=(((k:Nat)):Int)from by omega)) (.some rfl (show _=(((k:Nat)):Int)from by omega)) (by omega) (by omega) (by simp) rfl ?_))))))))))
  refine aE (aC rfl) rfl rfl (aA (aB (s_6 (At.ret ((aZ (L1:= []) rfl (.tmp rfl .nil) (.refl _) (.refl _) ?_))))))
  have ⟨e1,e2⟩:=trim_len (by omega) hz (.inr ⟨by omega,fun e=>c15 (by rw [e];rfl)⟩);rw [e2];exact⟨rfl,rfl,e1,hk⟩
 refine aJ rfl rfl rfl rfl rfl rfl rfl (aJ rfl rfl rfl rfl rfl rfl rfl (aJ rfl rfl rfl rfl rfl rfl rfl (aJ rfl rfl rfl rfl rfl rfl rfl (aJ rfl rfl rfl rfl rfl rfl rfl (aJ rfl rfl rfl rfl rfl rfl rfl (bM (aC rfl) rfl rfl rfl (aA (aB (s_5 (At.condF rfl (At.exit (aO (aO (At.inHit (aB (s_3 (At.seq fun _ s_7=>At.region (aD (aC rfl) rfl rfl (aD (aC rfl) rfl rfl (aD (aC rfl) rfl rfl (op_slice0 (aC rfl) se200 rfl (.some rfl (show _=(((k:Nat)):Int)from by omega)) (.some rfl (show _=(((k:Nat)):Int)from by omega)) (by omega) (by omega) (by simp) rfl ?_)))))))))))))))))))))
 refine aE (aC rfl) rfl rfl (aA (aB (s_7 (At.ret ((aZ (L1:= []) rfl (.tmp rfl .nil) (.refl _) (.refl _) ?_))))))
 have ⟨e1,e2⟩:=trim_len (by omega) hz (.inl (by omega));rw [e2];exact⟨rfl,rfl,e1,hk⟩
end Go.Proofs.Ytljacjjeinmfnaa
/- Cells of numbers: what is set and what is zero. No condition. -/
namespace Go.Proofs.Ytljacjjeinmfnaa
open Go Go.RowKit
theorem set_u64s (l:List UInt64) (i:Nat) (x:UInt64):(u64s l).set i (.int .u64 (x.toNat:Int))=u64s (l.set i x):=by simp [u64s,List.map_set,vl]
theorem set_u8s (l:List UInt8) (i:Nat) (x:UInt8):(u8s l).set i (.int .u8 (x.toNat:Int))=u8s (l.set i x):=by simp [u8s,List.map_set,vb]
theorem zero_u64s (m:Nat):List.replicate m (Value.int .u64 0)=u64s (List.replicate m 0):=by simp [u64s,vl]
theorem zero_u8s (m:Nat):List.replicate m (Value.int .u8 0)=u8s (List.replicate m 0):=by simp [u8s,vb]
theorem ofNat_shl (x:UInt8) (m:Nat):shl64 (UInt64.ofNat x.toNat) m=UInt64.ofNat (x.toNat*2^m):=by
 unfold shl64
 rw [UInt64.toNat_ofNat',Nat.mod_eq_of_lt (by have:=x.toNat_lt;omega)]
end Go.Proofs.Ytljacjjeinmfnaa
/- limb.From: the number of bytes. No condition. -/
namespace Go.Proofs.Ytljacjjeinmfnaa
open Go Go.RowKit
theorem From_f {N:Heaplet} {ao:Option Addr} {n cap:Nat} {l:List UInt8} (h:RSl N 1 ao n cap (u8s l)) (hn:n≤140737488351232):
 Fn Try.prog 141 #[.slice ao n cap] [] [N] (fun v L=> ∃M a,v=.slice a (limbsOf (be l)).length (limbsOf (be l)).length∧L= [M]∧RSl M 1 a (limbsOf (be l)).length (limbsOf (be l)).length (u64s (limbsOf (be l)))):=by
 have hlen:=h.len8
 have hcap:=h.cap63
 refine Fn.enter (vs:= [.slice ao n cap]) Try.func141 rfl rfl rfl ?_
 intro E R hR
 have h:=h.le (hR N (by simp))
 change At _ _ E [R] _
 refine At.seq fun _ s_1=>At.region (aE (aC rfl) rfl rfl (aA (aB (s_1 (At.seq fun _ s_2=>At.region (aD (aC rfl) rfl rfl (bP (aC rfl) se27 rfl rfl (bI (aC rfl) rfl rfl (by omega) (by omega) rfl (op_quoI (aC rfl) rfl rfl (by omega) (by omega) (by omega) rfl ?_)))))))))
 refine op_make (aV rfl) Try.underlying200 te24 rfl rfl (show _=((((n+7)/8:Nat)):Int)from by omega) (show _=((((n+7)/8:Nat)):Int)from by omega) (by omega) (by unfold maxLen;omega) rfl (fun N11 a11 r11=>?_)
 rw [made_one _ _ rfl,zero_u64s]at r11
 have s11:=r11.rsl
 refine aE (aC rfl) rfl rfl (aA (aB (s_2 (At.seq fun _ s_3=>At.seq fun _ s_4=>At.region (aD (aC rfl) rfl rfl (bP (aC rfl) se27 rfl rfl (aD (aC rfl) rfl rfl (aA (aB (s_4 (At.block (At.loop (fun fr_ hp_ ms_=> ∃(k:Nat) (Nq:Heaplet),fr_= [(0,.slice ao n cap),(3,.slice a11 ((n+7)/8) ((n+7)/8)),(12,.slice ao n cap),(13,.int .i64 (n:Int)),(14,.int .i64 (k:Int))]∧hp_= [Nq,R]∧n- k=ms_∧(k≤n)∧(Row Nq 24 1 a11 ((n+7)/8) ((n+7)/8) (u64s (fromSt l k)))) ?_ (.refl _) ⟨0,N11,rfl,rfl,rfl,by omega,by simpa [fromSt,hlen]using r11⟩ ?_))))))))))))
 ·exact .cons (by first|exact bE rfl (by omega)|rfl) (.cons (by first|exact bE rfl (by omega)|rfl) (.cons (by first|exact bE rfl (by omega)|rfl) (.cons (by first|exact bE rfl (by omega)|rfl) (.cons (by first|exact bE rfl (by omega)|rfl) .nil))))
 rintro _ _ _ ⟨k,Nq,rfl,rfl,rfl,hk,rq⟩
 have sq:=rq.rsl
 have hlq:=sq.len64
 refine At.seq fun _ s_5=>At.region (op_lss (aC rfl) rfl rfl rfl (aA (aB (s_5 (At.seq fun _ s_6=>aP rfl (fun c15=>?_) (fun c15=>?_))))))
 ·refine At.skip (aB (s_6 (At.seq fun _ s_7=>At.block (At.seq fun _ s_8=>At.region (aD (aC rfl) rfl rfl (op_idx1 (aC rfl) se27 rfl rfl (by assumption) (show _=(((k:Nat)):Int)from by omega) (by omega) rfl ?_))))))
  refine bS (aC rfl) sc5 rfl (by assumption) (by first|exact get8 (by omega)|exact get64 (by omega)|exact get32 (by omega)) (by first|exact aN|exact bC|exact bV|exact mem3|exact mem4|exact mem5|exact mem6|exact mem7|exact mem8|exact mem9) rfl ?_
  refine aE (aC rfl) rfl rfl (aE (aC rfl) rfl rfl (aA (aB (s_8 (At.seq fun _ s_9=>At.region (aD (aC rfl) rfl rfl (bP (aC rfl) se27 rfl rfl (op_subI (aC rfl) rfl rfl (by omega) (by omega) rfl (aD (aC rfl) rfl rfl (op_subI (aC rfl) rfl rfl (by omega) (by omega) rfl (aE (aC rfl) rfl rfl (aA (aB (s_9 (At.drawn [13] [0,1,2,3,4,5,6,7,8,9,10,11,12,13] (by kernel_rfl) (by kernel_rfl) (aD (aY rfl rfl rfl (by kernel_rfl)) rfl rfl (aD (aY rfl rfl rfl (by kernel_rfl)) rfl rfl (op_quoI (aY rfl rfl rfl (by kernel_rfl)) rfl rfl (by omega) (by omega) (by omega) rfl (op_idx1 (aY rfl rfl rfl (by kernel_rfl)) se200 rfl rfl (by assumption) (show _=((((n- 1- k)/8:Nat)):Int)from by omega) (by omega) rfl ?_)))))))))))))))))))
  refine bS (aY rfl rfl rfl (by kernel_rfl)) sc24 rfl (by assumption) (by first|exact get8 (by omega)|exact get64 (by omega)|exact get32 (by omega)) (by first|exact aN|exact bC|exact bV|exact mem3|exact mem4|exact mem5|exact mem6|exact mem7|exact mem8|exact mem9) rfl ?_
  refine aD (aY rfl rfl rfl (by kernel_rfl)) rfl rfl (op_conv64 (aY rfl rfl rfl (by kernel_rfl)) (und_some Try.underlying5) Try.underlying24 rfl (by first|rfl|exact(Int.toNat_of_nonneg (by omega)).symm) rfl ?_)
  refine aD (aY rfl rfl rfl (by kernel_rfl)) rfl rfl (op_rem (aY rfl rfl rfl (by kernel_rfl)) rfl rfl (by omega) (by omega) rfl (op_mulI (aY rfl rfl rfl (by kernel_rfl)) rfl rfl (by omega) (by omega) rfl (op_shlU (aY rfl rfl rfl (by kernel_rfl)) rfl rfl (show _=((((n- 1- k) % 8*8:Nat)):Int)from by omega) rfl ?_)))
  refine op_orU (aY rfl rfl rfl (by kernel_rfl)) rfl rfl rfl (op_idx1 (aY rfl rfl rfl (by kernel_rfl)) se200 rfl rfl (by assumption) (show _=((((n- 1- k)/8:Nat)):Int)from by omega) (by omega) rfl ?_)
  refine op_storeE (nxos rfl rfl rfl rfl) sz24 rfl rfl rfl rfl rfl rq (by simp<;>omega) (by simp) sel0 (fun Nq rq=>?_)
  simp only [setL]at rq
  have sq:=rq.rsl
  refine At.oneNil (bB (aB (s_7 (At.region (bI (aC rfl) rfl rfl (by omega) (by omega) rfl (aD (aC rfl) rfl rfl (aA (aB ?_))))))))
  refine At.back ?_ (.refl _) ⟨k+1,Nq,rfl,rfl,rfl,by omega,by rw [fromSt,fromStep,hlen, ←ofNat_shl, ←set_u64s];exact rq⟩ ?_
  ·exact .cons (by first|exact bE rfl (by omega)|rfl) (.cons (by first|exact bE rfl (by omega)|rfl) (.cons (by first|exact bE rfl (by omega)|rfl) (.cons (by first|exact bE rfl (by omega)|rfl) (.cons (by first|exact bE rfl (by omega)|rfl) .nil))))
  ·omega
 refine At.exit (aO (aO (At.inHit (aB (s_3 (At.seq fun _ s_10=>At.region (aD (aC rfl) rfl rfl (aR (aV rfl) (.cons rfl .nil) (Trim_f sq) Try.func147 rfl rfl (by simp) rfl ?_))))))))
 rintro v39 L39 ⟨rfl,rfl,e1,e2⟩
 change At _ _ _ [Nq,R] _
 refine aE (aC rfl) rfl rfl (aA (aB (s_10 (At.ret ((aZ (L1:= [Nq]) rfl (.tmp rfl .nil) (.refl _) (.refl _) ?_))))))
 obtain rfl:k=l.length:=by omega
 rw [fromSt_all]at e1 e2⊢
 have h2:=sq.take (Nat.le_refl _) e2 e2
 rw [Nat.mul_one,u64s_takeR,e1]at h2
 exact⟨Nq,a11,rfl,rfl,h2⟩
end Go.Proofs.Ytljacjjeinmfnaa
