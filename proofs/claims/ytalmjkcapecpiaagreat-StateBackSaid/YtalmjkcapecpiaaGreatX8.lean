/- Several texts in one: see the remarks ahead of each part. No condition but those told there. -/
import Derived.Test.YtalmjkcapecpiaaGreatX1
import Derived.Test.YtalmjkcapecpiaaGreatX7
import Derived.Test.YtalmjkcapecpiaaGreatX4
import Derived.Laws.Cover3
import Derived.Laws.Pointers
import Derived.Test.YtalmjkcapecpiaaGreatX6
import Derived.Recover
import Derived.Test.YtalmjkcapecpiaaGreatX3
import Derived.ArgAppend
import Derived.Laws.OwnMore
set_option linter.unusedSimpArgs false
set_option linter.unusedVariables false
namespace Go.Proofs.YtalmjkcapecpiaaGreat
open Go Go.RowKit
set_option maxRecDepth 100000
theorem fill_place {k:List UInt8} {x:Nat} (hk:k.length=20) (z:List Value) (hz:z.length=24):fillL [(0,20),(20,4)] z [(0,.agg (u8s k).toArray),(1,.agg (u64s (wl x)).toArray)]=some (u8s k++u64s (wl x)):=by
 have hu:(u8s k).length=20:=by rw [cY,hk]
 have hw:(u64s (wl x)).length=4:=bQ x
 have c0:(Value.agg (u8s k).toArray).cells.toList=u8s k:=rfl
 have c1:(Value.agg (u64s (wl x)).toArray).cells.toList=u64s (wl x):=rfl
 have e0:setL z 0 (u8s k)=u8s k++z.drop 20:=by
  have:=setL_append (u8s k) [] (z.take 20) (z.drop 20) (by rw [List.length_take,hu];omega)
  simpa using this
 have e1:setL (u8s k++z.drop 20) 20 (u64s (wl x))=u8s k++u64s (wl x):=by
  have:=setL_append (u64s (wl x)) (u8s k) (z.drop 20) [] (by rw [List.length_drop,hw];omega)
  rw [hu]at this
  simpa using this
 simp only [fillL,List.getElem?_cons_zero,List.getElem?_cons_succ,c0,c1,hu,hw,hz,e0,e1]
 rw [if_pos (by decide),if_pos ⟨trivial,by rw [List.length_append,List.length_drop,hu,hz];decide⟩]
section
variable {NS NT NM NW ND NP NQ NO NL NU NK : Heaplet} {t : SJ} {sp ma c : Nat} {k : List UInt8} {x : Nat}
theorem FHasA {N:Heaplet} {mb c:Nat} {D:DataW Value} {l:List (List UInt8×Unit)} (hM:MapV Tryz.prog 33 N mb c D) (hA:MapA keyA okAd unitV D l) (hk:okAd k):Fn Tryz.prog 60 #[.map (some mb),.agg (u8s k).toArray] [] [N] (fun v L=>v=.bool (getA k l).isSome∧L= []):=by
 have hul:(u8s k).length=20:=by rw [cY,hk]
 have hlk:D.atKey (keyA k) (.held (.agg #[]))=.held (.agg #[]):=by rw [hA.look hk];cases getA k l<;>rfl
 have hh:=hA.has k hk
 refine Fn.enter (vs:= [.map (some mb),.agg (u8s k).toArray]) Tryz.func60 U U U ?_
 intro E R hR
 have hNR:=hR N (by simp)
 have hM:=hM.le hNR
 change At _ _ E [R] _
 refine aH fun _ s_1=>aB (cU bT U U U (fun N3 b3 B3=>bV U U (aI (s_1 (aH fun _ s_2=>aB (bC U U (aK (ds:=u8s k) aN ag33 U B3 (by exact bJ hul) (by exact hul) cO U ?_)))))))
 refine op_lookupV bT kd33 Tryz.underlying76 (fun _=>by first|rfl|kernel_rfl) U U hM (keyA_spec hk) (hlk) (by simp) U ?_
 refine bC U U (bW aN U U U (bW aN U U U (bZ bT ze115 U (fun N5 b5 B5=>?_))))
 change Blk N5 b5 _ []at B5
 refine bP nxQ sz115 U U U U U B5 (by simp) sel0 (fun N5 B5=>?_)
 simp only [setL,List.set]at B5
 refine bV U U (aI (s_2 (aH fun _ s_3=>aB (bC U U (bV U U (aI (s_3 (cK ((cT (dropAt0 (cF (L1:= []) U (.tmp U .nil) (.refl _) aZ ?_))))))))))))
 exact⟨by rw [hh],rfl⟩
theorem FHasP {N:Heaplet} {mb c:Nat} {D:DataW Value} {l:List ((List UInt8×Nat)×Unit)} (hM:MapV Tryz.prog 105 N mb c D) (hA:MapA keyPP okPl unitV D l) {p:List UInt8×Nat} (hk:okPl p):Fn Tryz.prog 62 #[.map (some mb),.agg (u8s p.1++u64s (wl p.2)).toArray] [] [N] (fun v L=>v=.bool (getA p l).isSome∧L= []):=by
 have hul:=place_len hk
 have hlk:D.atKey (keyPP p) (.held (.agg #[]))=.held (.agg #[]):=by rw [hA.look hk];cases getA p l<;>rfl
 have hh:=hA.has p hk
 refine Fn.enter (vs:= [.map (some mb),.agg (u8s p.1++u64s (wl p.2)).toArray]) Tryz.func62 U U U ?_
 intro E R hR
 have hNR:=hR N (by simp)
 have hM:=hM.le hNR
 change At _ _ E [R] _
 refine aH fun _ s_1=>aB (cU bT U U U (fun N3 b3 B3=>bV U U (aI (s_1 (aH fun _ s_2=>aB (bC U U (aK (ds:=u8s p.1++u64s (wl p.2)) aN ag105 U B3 (by exact bJ hul) (by exact hul) cO U ?_)))))))
 refine op_lookupV bT kd105 Tryz.underlying78 (fun _=>by first|rfl|kernel_rfl) U U hM (keyP_spec hk.1 p.2) (hlk) (by simp) U ?_
 refine bC U U (bW aN U U U (bW aN U U U (bZ bT ze115 U (fun N5 b5 B5=>?_))))
 change Blk N5 b5 _ []at B5
 refine bP nxQ sz115 U U U U U B5 (by simp) sel0 (fun N5 B5=>?_)
 simp only [setL,List.set]at B5
 refine bV U U (aI (s_2 (aH fun _ s_3=>aB (bC U U (bV U U (aI (s_3 (cK ((cT (dropAt0 (cF (L1:= []) U (.tmp U .nil) (.refl _) aZ ?_))))))))))))
 exact⟨by rw [←hh];rfl,rfl⟩
end
section
variable {P : Program} {n : Nat} {l : List (Nat × Value)} {E : World} {L Ls : List Heaplet} {X Y : Act → World → Prop} {d : Nat} {t t' ty e : TypeId} {x : Operand} {ao : Option Addr} {m c : Nat} {ad : Addr} {pos : _} {aft : _} {g : _}
theorem op_eqSl (s:NxF P n l E L Ls ⟨some d,.binOp .eql t x (.const (.slice none 0 0)) t',ty,pos,aft,g⟩ X Y) (ht:P.underlying t=some (.slice e)) (hx:ev l x=some (.slice ao m c)) (hn:Nat.ble (d+1) n=true) (h:At n ((d,.bool ao.isNone)::l) E L Y):At n l E L X:=
 op_bin s hx rfl (fun w=>by simp [eqGuard]) (fun w=>by simp [binOp,run_equal_slice_nil w t e ao m c ht]) hn h
theorem op_eqPt (s:NxF P n l E L Ls ⟨some d,.binOp .eql t x (.const (.pointer none)) t',ty,pos,aft,g⟩ X Y) (ht:P.underlying t=some (.pointer (P.pointee t))) (hx:ev l x=some (.pointer (some ad))) (hn:Nat.ble (d+1) n=true) (h:At n ((d,.bool false)::l) E L Y):At n l E L X:=
 op_bin s hx rfl (fun w=>by simp [eqGuard]) (fun w=>by simp [binOp,run_equal_pointer_nil w t (some ad) ht]) hn h
theorem op_make0 {y:Operand} {size:Nat} {zv:Value} {bytes m:Nat} {p q:Int} {kl kc:IntKind} (s:NxA P n l E L ⟨some d,.makeSlice t x y,ty,pos,aft,g⟩ X Y) (ht:P.underlying t=some (.slice e)) (hE:ElemInfo P e zv size bytes) (hx:ev l x=some (.int kl p)) (hy:ev l y=some (.int kc q)) (hp:p=0) (hq:q=(m:Int)) (hb:bytes*m≤281474976710656) (hm:m≤maxLen) (hn:Nat.ble (d+1) n=true)
 (h: ∀N ao,Row N e size ao 0 m []→At n ((d,.slice ao 0 m)::l) E (N::L) Y):At n l E L X:=by
 obtain⟨i,hi,hz,hsz,hby,hzs,h0⟩:=hE
 refine op_new s (fun v L'=> ∃N ao,v=.slice ao 0 m∧L'=N::L∧Row N e size ao 0 m []) (fun a w hf hw=>?_) rfl hn (fun v L' ⟨N,ao,hv,hL,hB⟩=>by subst hv;subst hL;exact h N ao hB)
 subst hp;subst hq
 have hr:=run_make (P:=P) w t e i zv ht hi hz kl kc 0 (m:Int) (by omega) (by omega) (cast_mul_le (by rw [hby];exact hb)) (by unfold maxLen at hm;omega)
 rw [Int.toNat_natCast,hsz]at hr
 refine⟨_,_,_,?_,Agree.alloc w (.cells (madeCells zv.cells (m*size)) e),hw.alloc _,single w.heap.size (.cells (madeCells zv.cells (m*size)) e),some ⟨w.heap.size,0,none⟩,rfl,rfl,?_⟩
 ·simp only [execOp,hf.eval hx,hf.eval hy]
  rw [Sem.run_bind,hr]
  rfl
 ·exact⟨by simp,Nat.zero_le _,hm,.inr ⟨w.heap.size,_,rfl,single_self _ _,size_madeCells _ _,by simp⟩⟩
end
def minV (a b:UInt64):UInt64:=if b.toNat<a.toNat then b else a
section
variable {P : Program} {n : Nat} {l : List (Nat × Value)} {E : World} {L Ls : List Heaplet} {X Y : Act → World → Prop} {d : Nat} {t t' ty : TypeId} {x y : Operand} {a b : UInt64} {pos : _} {aft : _} {g : _}
theorem op_minV (s:NxF P n l E L Ls ⟨some d,.call ⟨.builtin .min, #[x,y], #[t,t']⟩,ty,pos,aft,g⟩ X Y) (hx:ev l x=some (.int .u64 (a.toNat:Int))) (hy:ev l y=some (.int .u64 (b.toNat:Int))) (hn:Nat.ble (d+1) n=true) (h:At n ((d,.int .u64 ((minV a b).toNat:Int))::l) E L Y):At n l E L X:=by
 refine op_val s (fun c w hf hw=>?_) U hn h
 have e:(if (b.toNat:Int)<(a.toNat:Int)then (b.toNat:Int)else (a.toNat:Int))=((minV a b).toNat:Int):=by
  unfold minV;split<;>split<;>omega
 simp only [execOp,resolve,invoke,builtin,Sem.run_bind,Sem.run_pure,Result.andThen_ok,List.map_toArray,List.map_cons,List.map_nil,hf.eval hx,hf.eval hy,Builtin.min_,List.foldlM_cons,List.foldlM_nil,Builtin.min2,e]
theorem op_negU (s:NxF P n l E L Ls ⟨some d,.unOp .neg t x,ty,pos,aft,g⟩ X Y) (hx:ev l x=some (.int .u64 (a.toNat:Int))) (hn:Nat.ble (d+1) n=true) (h:At n ((d,.int .u64 ((0- a).toNat:Int))::l) E L Y):At n l E L X:=
 op_val s (fun c w hf _=>by
  have e:IntKind.u64.wrap (0- (a.toNat:Int))=((0- a).toNat:Int):=by
   rw [wrapU64,UInt64.toNat_sub]
   have:=a.toNat_lt
   simp only [show(0:UInt64).toNat=0 from rfl]
   omega
  simp only [execOp,hf.eval hx,Op.unary,Op.intArith,e]
  rfl) rfl hn h
theorem op_nePO {ad:Option Addr} (s:NxF P n l E L Ls ⟨some d,.binOp .neq t x (.const (.pointer none)) t',ty,pos,aft,g⟩ X Y) (ht:P.underlying t=some (.pointer (P.pointee t))) (hx:ev l x=some (.pointer ad)) (hn:Nat.ble (d+1) n=true) (h:At n ((d,.bool ad.isSome)::l) E L Y):At n l E L X:=
 op_bin s hx rfl (fun w=>by simp [eqGuard]) (fun w=>by cases ad<;>simp [binOp,run_equal_pointer_nil w t _ ht]) hn h
end
def addR (x y:UInt64):UInt64:=addS x y 0 |||(0- addC x y 0)
section
variable {NS NT NM NW ND NP NQ NO NL NU NK : Heaplet} {t : SJ} {sp ma c : Nat} {k : List UInt8} {x : Nat}
theorem SJ.On.S' (h:t.On NS NT NM NW ND NP NQ NO NL NU NK sp ma c):Blk NS sp 85 (stK ma t.mt t.mm t.mw t.md t.ws t.tr t.og t.ab.rf (.slice t.la t.ln t.lc) (.slice t.ua t.un t.uc) (.slice t.ka t.kn t.kc) t.ab.tl):=h.S
end
def pnk (v:Value):List PanicEntry:= [{ v:=v,recovered:=false }]
def DoneX (E:World) (R:Heaplet) (Post Pan:Value→List Heaplet→Prop) (e:Ending) (w':World):Prop:=
 (∃v L1,e=.returned v∧Post v L1∧Hp E (L1++ [R]) w')∨ ∃v L1,e=.panicked (pnk v)∧Pan v L1∧Hp E (L1++ [R]) w'
def FnE (P:Program) (f:FuncId) (args:Array Value) (L0 Lr:List Heaplet) (Post Pan:Value→List Heaplet→Prop):Prop:=
 ∀(E w:World) (R:Heaplet),Hp E (L0++ [R]) w→(∀N∈Lr,N.le R)→Calls P f args w (DoneX E R Post Pan)
def bodyPostX (P:Program) (fn:Func) (E:World) (R:Heaplet) (Post Pan:Value→List Heaplet→Prop) (e:Exit) (a:Act) (w:World):Prop:=dfOf E= []→bodyPost P fn (DoneX E R Post Pan) e a w
section
variable {P : Program} {f : FuncId} {args : Array Value} {L0 Lr : List Heaplet} {Post Pan : Value → List Heaplet → Prop}
theorem Fn.x (h:Fn P f args L0 Lr Post):FnE P f args L0 Lr Post Pan:=fun E w R hw hr=>(h E w R hw hr).mono fun _ _ h=>.inl h
theorem FnE.fn (h:FnE P f args L0 Lr Post fun _ _=>False):Fn P f args L0 Lr Post:=fun E w R hw hr=>(h E w R hw hr).mono fun _ _ h=>by
 rcases h with h|⟨_,_,_,h,_⟩
 ·exact h
 ·exact h.elim
theorem FnE.mono {Post' Pan':Value→List Heaplet→Prop} (h:FnE P f args L0 Lr Post Pan) (hp: ∀v L,Post v L→Post' v L) (hq: ∀v L,Pan v L→Pan' v L):FnE P f args L0 Lr Post' Pan':=fun E w R hw hr=>
 (h E w R hw hr).mono fun _ _ h=>h.elim (fun⟨v,L1,he,hP,hh⟩=>.inl ⟨v,L1,he,hp _ _ hP,hh⟩) (fun⟨v,L1,he,hP,hh⟩=>.inr ⟨v,L1,he,hq _ _ hP,hh⟩)
theorem FnE.more {Lr':List Heaplet} (h:FnE P f args L0 Lr Post Pan) (hs: ∀N∈Lr,N∈Lr'):FnE P f args L0 Lr' Post Pan:=fun E w R hw hr=>h E w R hw fun N hN=>hr N (hs N hN)
theorem FnE.enter {vs:List Value} {fn:Func} {c:Code} {n:Nat} (hf:P.funcs[f]? =some fn) (hb:fn.body=some c) (hn:fn.ntmps=n) (hs:Nat.ble vs.length n=true)
 (h: ∀(E:World) (R:Heaplet),(∀N∈Lr,N.le R)→At n (slots 0 vs) E (L0++ [R]) (c.wp P (bodyPostX P fn E R Post Pan))):FnE P f vs.toArray L0 Lr Post Pan:=by
 intro E w R hw hr
 refine calls_of_wp hf hb ?_
 subst hn
 refine wp_body_mono ?_ (h (dfNo E) R hr _ _ (Fr.init (by simpa using hs) (fun i v hi=>by have:=(slots_get vs 0 i v hi).2;simpa using this)) (hw.env U U U))
 intro e a w hq
 exact bodyPost_mono (fun e w h=>h.elim (fun⟨v,L1,h1,h2,h3⟩=>.inl ⟨v,L1,h1,h2,h3.env U U rfl⟩) (fun⟨v,L1,h1,h2,h3⟩=>.inr ⟨v,L1,h1,h2,h3.env U U rfl⟩)) (hq (dfOf_no E))
end
section
variable {P : Program} {n : Nat} {l l' : List (Nat × Value)} {E : World} {L L' L1 L2 : List Heaplet} {K K' : Act → World → Prop} {Q : Exit → Act → World → Prop}
variable {fn : Func} {R : Heaplet} {Post Pan : Value → List Heaplet → Prop} {ops : Array Oper} {rest : List Oper} {d : Nat} {ty : TypeId} {pos : String} {aft : Array Edge} {v : Value}
theorem Hp.apartRest {L0 F:List Heaplet} {w:World} (hw:Hp E (L0++F) w): ∃R:Heaplet,Hp E (L0++ [R]) w∧(∀N∈F,N.le R)∧F.Pairwise Apart:=by
 have hsep:=List.pairwise_append.1 hw.sep
 refine⟨fun k=>if ∃N∈L0,N k≠none then none else w.heap[k]?,⟨hw.os,hw.tape,hw.output,fun N hN=>?_,?_⟩,fun N hN k o hk=>?_,hsep.2.1⟩
 ·rcases List.mem_append.1 hN with hN|hN
  ·exact hw.sub N (List.mem_append_left _ hN)
  ·simp at hN;subst hN
   intro k o hk
   simp only at hk
   split at hk
   ·cases hk
   ·exact hk
 ·rw [List.pairwise_append]
  refine⟨hsep.1,by simp,fun A hA B hB k=>?_⟩
  simp at hB;subst hB
  by_cases hAk:A k=none
  ·exact .inl hAk
  ·exact .inr (if_pos ⟨A,hA,hAk⟩)
 ·have hno: ¬ ∃M∈L0,M k≠none:=by
   rintro⟨M,hM,hMk⟩
   rcases hsep.2.2 M hM N hN k with h|h
   ·exact hMk h
   ·rw [hk]at h;cases h
  simp only [if_neg hno]
  exact hw.sub N (List.mem_append_right _ hN) k o hk
end
def FnRec (P:Program) (f:FuncId) (args:Array Value) (v:Value) (L0:List Heaplet) (Post:List Heaplet→Prop):Prop:=
 ∀(E w:World) (R:Heaplet),Hp E (L0++ [R]) w→CallsD P f args (.panicking (pnk v)) w fun e u' w'=>u'=.panicking [{ v:=v,recovered:=true }]∧ ∃x L1,e=.returned x∧Post L1∧Hp E (L1++ [R]) w'
def FnRet (P:Program) (f:FuncId) (args:Array Value):Prop:=
 ∀(E w:World) (L:List Heaplet),Hp E L w→CallsD P f args .returning w fun e u' w'=>u'=.returning∧ ∃x,e=.returned x∧Hp E L w'
section
variable {P : Program} {n : Nat} {l : List (Nat × Value)} {E : World} {L L0 F : List Heaplet} {fn : Func} {R : Heaplet} {Post : Value → List Heaplet → Prop} {v : Value}
end
section
variable {P : Program} {f : FuncId} {fn : Func} {c : Code} {vs : List Value} {n d d2 id : Nat} {ats : Array TypeId} {ty ty2 : TypeId} {pos pos2 : String} {aft aft2 : Array Edge}
theorem rec_ops {Q:Exit→Act→List Frame→World→Prop} {ops:Array Oper} {a:Act} {cs cs':List Frame} {w:World} {v:Value}
 (hops:ops= #[⟨some d,.call ⟨.builtin .recover, #[],ats⟩,ty,pos,aft,none⟩,⟨some d2,.assign (.tmp d),ty2,pos2,aft2,none⟩])
 (hr:recoverD cs=some (v,cs')∨(recoverD cs=none∧v=.nilIface∧cs'=cs)) (hd:d<a.tmps.size)
 (h:Q .normal ((a.put (some d) v).put (some d2) v) cs' w):wpOpsS P ops Q (List.range ops.size) a cs w:=by
 subst hops
 have e1:(execOp a.eval ⟨some d,.call ⟨.builtin .recover, #[],ats⟩,ty,pos,aft,none⟩).run P w=.ok .recover w:=by
  simp [execOp,resolve,invoke,builtin]
 have e2:((a.put (some d) v).eval (.tmp d))=v:=by
  simp [Act.put,Act.eval,Array.getD_eq_getD_getElem?,hd]
 have w1:Region.wanted (⟨some d,.call ⟨.builtin .recover, #[],ats⟩,ty,pos,aft,none⟩:Oper) (yielded #[⟨some d,.call ⟨.builtin .recover, #[],ats⟩,ty,pos,aft,none⟩,⟨some d2,.assign (.tmp d),ty2,pos2,aft2,none⟩] a.tmps)=true:=by simp [Region.wanted]
 have hlast:wpOpsS P #[⟨some d,.call ⟨.builtin .recover, #[],ats⟩,ty,pos,aft,none⟩,⟨some d2,.assign (.tmp d),ty2,pos2,aft2,none⟩] Q [1] (a.put (some d) v) cs' w:=by
  have w2:Region.wanted (⟨some d2,.assign (.tmp d),ty2,pos2,aft2,none⟩:Oper) (yielded #[⟨some d,.call ⟨.builtin .recover, #[],ats⟩,ty,pos,aft,none⟩,⟨some d2,.assign (.tmp d),ty2,pos2,aft2,none⟩] (a.put (some d) v).tmps)=true:=by simp [Region.wanted]
  simp only [wpOpsS,List.getElem?_toArray,List.getElem?_cons_succ,List.getElem?_cons_zero,w2,if_true]
  simp only [execOp,e2,Sem.run_pure]
  exact h
 show wpOpsS P _ Q [0,1] a cs w
 rw [wpOpsS]
 simp only [List.getElem?_toArray,List.getElem?_cons_zero,w1,if_true,e1]
 rcases hr with hr|⟨hr,rfl,rfl⟩
 ·rw [hr];exact hlast
 ·rw [hr];exact hlast
theorem Fr.two {v:Value} (hn:fn.ntmps=n) (hs:Nat.ble vs.length n=true) (h1:Nat.ble (d+1) n=true) (h2:Nat.ble (d2+1) n=true):
 Fr [] n ((d2,v)::(d,v)::slots 0 vs) (({ tmps:=vs.toArray++Array.replicate (fn.ntmps- vs.toArray.size) undef,defers:= [] } :Act).put (some d) v |>.put (some d2) v):=by
 subst hn
 have h0:Fr [] fn.ntmps (slots 0 vs) { tmps:=vs.toArray++Array.replicate (fn.ntmps- vs.toArray.size) undef,defers:= [] } :=
  Fr.init (by simpa using hs) (fun i v hi=>by have:=(slots_get vs 0 i v hi).2;simpa using this)
 exact(h0.put (Nat.le_of_ble_eq_true h1)).put (Nat.le_of_ble_eq_true h2)
theorem FnRec.enter {v:Value} {L0:List Heaplet} {PostC:List Heaplet→Prop} (hf:P.funcs[f]? =some fn)
 (hb:fn.body=some (Code.seq (Code.region id #[⟨some d,.call ⟨.builtin .recover, #[],ats⟩,ty,pos,aft,none⟩,⟨some d2,.assign (.tmp d),ty2,pos2,aft2,none⟩] false) c)) (hn:fn.ntmps=n) (hs:Nat.ble vs.length n=true) (h1:Nat.ble (d+1) n=true) (h2:Nat.ble (d2+1) n=true)
 (h: ∀(E:World) (R:Heaplet),At n ((d2,v)::(d,v)::slots 0 vs) E (L0++ [R]) (c.wp P (bodyPostE P fn E R fun _ L=>PostC L))):FnRec P f vs.toArray v L0 PostC:=by
 intro E w R hw
 refine callsD_of_wpS hf hb fun c₀ cs hu=>?_
 apply wpS_seq
 apply wpS_region
 have hfr:=Fr.two (d:=d) (d2:=d2) (v:=v) hn hs h1 h2
 refine rec_ops (v:=v) (cs':= { c₀ with mode:=.panicking [{ v:=v,recovered:=true }] } ::cs) U (.inl (by simp [recoverD,hu,pnk])) ?_ ?_
 ·have:=Nat.le_of_ble_eq_true h1
  have hs':vs.length≤n:=Nat.le_of_ble_eq_true hs
  simp;omega
 show Code.wpS P c _ _ _ _
 refine wpS_of_wp (wp_body_mono ?_ (h (dfNo E) R _ w hfr (hw.env U U U)))
 intro e a w' hq
 have hq:=hq (dfOf_no E)
 cases e with
 |normal=>obtain⟨hd,x,h3,y,L1,h4,h5,h6⟩:=hq;exact⟨hd,_,rfl,x,h3,rfl,y,L1,h4,h5,h6.env rfl rfl rfl⟩
 |ret=>obtain⟨hd,x,h3,y,L1,h4,h5,h6⟩:=hq;exact⟨hd,_,rfl,x,h3,rfl,y,L1,h4,h5,h6.env rfl rfl rfl⟩
 |panic ch=>obtain⟨hd,y,L1,h4,_⟩:=hq;cases h4
 |exit id=>exact hq
 |goto l=>exact hq
 |outgrown=>obtain⟨y,L1,h4,_⟩:=hq;cases h4
theorem FnRet.enter (hf:P.funcs[f]? =some fn)
 (hb:fn.body=some (Code.seq (Code.region id #[⟨some d,.call ⟨.builtin .recover, #[],ats⟩,ty,pos,aft,none⟩,⟨some d2,.assign (.tmp d),ty2,pos2,aft2,none⟩] false) c)) (hn:fn.ntmps=n) (hs:Nat.ble vs.length n=true) (h1:Nat.ble (d+1) n=true) (h2:Nat.ble (d2+1) n=true)
 (h: ∀(E:World) (R:Heaplet),At n ((d2,.nilIface)::(d,.nilIface)::slots 0 vs) E [R] (c.wp P (bodyPostE P fn E R fun _ L=>L= []))):FnRet P f vs.toArray:=by
 intro E w L hw
 obtain⟨R,hR,hle,hsep⟩:=Hp.apartRest (L0:= []) (F:=L) hw
 refine callsD_of_wpS hf hb fun c₀ cs hu=>?_
 apply wpS_seq
 apply wpS_region
 have hfr:=Fr.two (d:=d) (d2:=d2) (v:=.nilIface) hn hs h1 h2
 refine rec_ops (v:=.nilIface) (cs':=c₀::cs) U (.inr ⟨by simp [recoverD,hu],rfl,rfl⟩) ?_ ?_
 ·have:=Nat.le_of_ble_eq_true h1
  have hs':vs.length≤n:=Nat.le_of_ble_eq_true hs
  simp;omega
 show Code.wpS P c _ _ _ _
 refine wpS_of_wp (wp_body_mono ?_ (h (dfNo E) R _ w hfr (hR.env U U U)))
 intro e a w' hq
 have hq:=hq (dfOf_no E)
 have hc:c₀= { c₀ with mode:=.returning } :=by cases c₀;simp_all
 cases e with
 |normal=>obtain⟨hd,x,h3,y,L1,h4,rfl,h6⟩:=hq;exact⟨hd,.returning,by rw [←hc],x,h3,rfl,y,h4,Hp.refine (L:= []) (h6.env rfl rfl rfl) hle hsep⟩
 |ret=>obtain⟨hd,x,h3,y,L1,h4,rfl,h6⟩:=hq;exact⟨hd,.returning,by rw [←hc],x,h3,rfl,y,h4,Hp.refine (L:= []) (h6.env rfl rfl rfl) hle hsep⟩
 |panic ch=>obtain⟨hd,y,L1,h4,_⟩:=hq;cases h4
 |exit id=>exact hq
 |goto l=>exact hq
 |outgrown=>obtain⟨y,L1,h4,_⟩:=hq;cases h4
end
section
variable {P : Program} {n : Nat} {l : List (Nat × Value)} {E : World} {L Ls : List Heaplet} {X Y : Act → World → Prop} {d : Nat} {t t' ty e : TypeId} {x y : Operand}
end
def Off (ao:Option Addr) (N N':Heaplet):Prop:= ∃b,ao=some ⟨b,0,none⟩∧ ∀k,k≠b→N' k=N k
def App (N N':Heaplet) (ao:Option Addr) (cap:Nat) (ao2:Option Addr) (cap2 need:Nat):Prop:=
 (ao2=ao∧cap2=cap∧need≤cap∧Off ao N N')∨(N.le N'∧ ∃b,ao2=some ⟨b,0,none⟩∧N b=none)
theorem Row.le {N M:Heaplet} (hl:N.le M) {e:TypeId} {size:Nat} {ao:Option Addr} {n cap:Nat} {xs:List Value} (h:Row N e size ao n cap xs):Row M e size ao n cap xs:=by
 obtain⟨h1,h2,h3,h4⟩:=h
 refine⟨h1,h2,h3,?_⟩
 rcases h4 with h4|⟨b,cur,ha,hN,hs,ht⟩
 ·exact .inl h4
 ·exact .inr ⟨b,cur,ha,hl _ _ hN,hs,ht⟩
theorem Row.block {N:Heaplet} {e:TypeId} {size:Nat} {ao:Option Addr} {n cap:Nat} {xs:List Value} (h:Row N e size ao n cap xs):(ao=none∧n=0∧cap=0)∨ ∃b o,ao=some ⟨b,0,none⟩∧N b=some o:=by
 obtain⟨_,_,_,h4⟩:=h
 rcases h4 with h4|⟨b,cur,ha,hN,_⟩
 ·exact .inl h4
 ·exact .inr ⟨b,_,ha,hN⟩
theorem Row.off {N N':Heaplet} {e:TypeId} {size:Nat} {ao p:Option Addr} {n cap:Nat} {xs:List Value} (h:Row N e size ao n cap xs) (ho:Off p N N') (hne:ao=none∨ao≠p):Row N' e size ao n cap xs:=by
 obtain⟨b,rfl,hk⟩:=ho
 obtain⟨h1,h2,h3,h4⟩:=h
 refine⟨h1,h2,h3,?_⟩
 rcases h4 with h4|⟨b',cur,ha,hN,hs,ht⟩
 ·exact .inl h4
 ·refine .inr ⟨b',cur,ha,?_,hs,ht⟩
  rw [hk b' fun e=>?_]
  ·exact hN
  ·subst e
   rcases hne with h|h
   ·rw [h]at ha;cases ha
   ·exact h ha
theorem Row.first {N:Heaplet} {e:TypeId} {size:Nat} {ao:Option Addr} {n m cap:Nat} {xs ys:List Value} (h:Row N e size ao n cap xs) (hm:m≤n) (hy:xs.take (m*size)=ys) (ha:ao≠none):Row N e size ao m cap ys:=by
 obtain⟨h1,h2,h3,h4⟩:=h
 rcases h4 with ⟨h4,_⟩|⟨b',cur,hb,hN,hs,ht⟩
 ·exact absurd h4 ha
 ·have hle:m*size≤n*size:=Nat.mul_le_mul_right _ hm
  refine⟨by rw [←hy,List.length_take,h1];exact Nat.min_eq_left hle,Nat.le_trans hm h2,h3,.inr ⟨b',cur,hb,hN,hs,?_⟩⟩
  rw [←hy, ←ht,List.take_take,Nat.min_eq_left hle]
section
variable {P : Program} {n : Nat} {l : List (Nat × Value)} {E : World} {L L1 Ls : List Heaplet} {X Y : Act → World → Prop} {d : Nat} {t t' ty e : TypeId} {x y : Operand}
end
structure Bag (e:TypeId) (N:Heaplet) (vs:List Value) (xs:List (List UInt8)):Prop where
 len:vs.length=xs.length
 row: ∀(i:Nat) (x:List UInt8),xs[i]? =some x→ ∃p c,vs[i]? =some (Value.slice p x.length c)∧Row N e 1 p x.length c (u8s x)
 apart: ∀(i j:Nat) (p q:Option Addr) (n m c d:Nat),i≠j→vs[i]? =some (Value.slice p n c)→vs[j]? =some (Value.slice q m d)→p=none∨p≠q
structure Bags (N:Heaplet) (vs:List Value) (xs:List (List UInt8)):Prop where
 len:vs.length=xs.length
 rsl: ∀(i:Nat) (x:List UInt8),xs[i]? =some x→ ∃p c,vs[i]? =some (Value.slice p x.length c)∧RSl N 1 p x.length c (u8s x)
theorem Bag.nil (e:TypeId) (N:Heaplet):Bag e N [] []:=⟨rfl,fun i x h=>by simp at h,fun i j p q n m c d _ h=>by simp at h⟩
theorem Bags.nil (N:Heaplet):Bags N [] []:=⟨rfl,fun i x h=>by simp at h⟩
theorem Bags.le {N M:Heaplet} {vs:List Value} {xs:List (List UInt8)} (h:Bags N vs xs) (hl:N.le M):Bags M vs xs:=⟨h.len,fun i x hx=>let ⟨p,c,h1,h2⟩:=h.rsl i x hx;⟨p,c,h1,h2.le hl⟩⟩
theorem Bag.le {e:TypeId} {N M:Heaplet} {vs:List Value} {xs:List (List UInt8)} (h:Bag e N vs xs) (hl:N.le M):Bag e M vs xs:=⟨h.len,fun i x hx=>let ⟨p,c,h1,h2⟩:=h.row i x hx;⟨p,c,h1,h2.le hl⟩,h.apart⟩
theorem snoc_get {α:Type} {xs:List α} {y z:α} {i:Nat} (h:(xs++ [y])[i]? =some z):(i<xs.length∧xs[i]? =some z)∨(i=xs.length∧z=y):=by
 rcases Nat.lt_or_ge i xs.length with hi|hi
 ·rw [List.getElem?_append_left hi]at h;exact .inl ⟨hi,h⟩
 ·rw [List.getElem?_append_right hi]at h
  rcases Nat.eq_zero_or_pos (i- xs.length)with h0|h0
  ·rw [h0]at h;simp at h;exact .inr ⟨by omega,h.symm⟩
  ·rw [List.getElem?_eq_none (by simp;omega)]at h;cases h
theorem get_snoc_l {α:Type} {xs:List α} {y z:α} {i:Nat} (h:xs[i]? =some z):(xs++ [y])[i]? =some z:=by
 rw [List.getElem?_append_left (List.getElem?_eq_some_iff.1 h).1];exact h
theorem get_snoc_r {α:Type} {xs:List α} {y:α} {i:Nat} (h:i=xs.length):(xs++ [y])[i]? =some y:=by subst h;simp
theorem Bags.snoc {N M:Heaplet} {vs:List Value} {xs:List (List UInt8)} {x:List UInt8} {p:Option Addr} {c:Nat} (h:Bags N vs xs) (hr:RSl M 1 p x.length c (u8s x)) (ha:Apart M N):Bags (join2 M N) (vs++ [Value.slice p x.length c]) (xs++ [x]):=by
 refine⟨by simp [h.len],fun i y hy=>?_⟩
 rcases snoc_get hy with ⟨hi,hy⟩|⟨hi,rfl⟩
 ·obtain⟨q,d,h1,h2⟩:=h.rsl i y hy
  exact⟨q,d,get_snoc_l h1,h2.le (join2_right ha)⟩
 ·exact⟨p,c,get_snoc_r (by rw [hi,h.len]),hr.le join2_left⟩
theorem Bag.snoc {e:TypeId} {N M:Heaplet} {vs:List Value} {xs:List (List UInt8)} {x:List UInt8} {p:Option Addr} {c:Nat} (h:Bag e N vs xs) (hr:Row M e 1 p x.length c (u8s x)) (ha:Apart M N):Bag e (join2 M N) (vs++ [Value.slice p x.length c]) (xs++ [x]):=by
 have old: ∀i q m d,i<vs.length→vs[i]? =some (Value.slice q m d)→p=none∨q=none∨p≠q:=fun i q m d hi hv=>by
  obtain⟨y,hy⟩: ∃y,xs[i]? =some y:=⟨_,List.getElem?_eq_getElem (by rw [←h.len];exact hi)⟩
  obtain⟨q',d',h1,h2⟩:=h.row i y hy
  rw [hv]at h1
  simp only [Option.some.injEq,Value.slice.injEq]at h1
  obtain⟨rfl,rfl,rfl⟩:=h1
  rcases hr.block with ⟨hp,_⟩|⟨b,o,hp,hb⟩
  ·exact .inl hp
  ·rcases h2.block with ⟨hq,_⟩|⟨b',o',hq,hb'⟩
   ·exact .inr (.inl hq)
   ·refine .inr (.inr fun e=>?_)
    rw [hp,hq]at e
    cases e
    rcases ha b with h|h
    ·rw [hb]at h;cases h
    ·rw [hb']at h;cases h
 refine⟨by simp [h.len],fun i y hy=>?_,fun i j q r n m c' d hij hi hj=>?_⟩
 ·rcases snoc_get hy with ⟨hi,hy⟩|⟨hi,rfl⟩
  ·obtain⟨q,d,h1,h2⟩:=h.row i y hy
   exact⟨q,d,get_snoc_l h1,h2.le (join2_right ha)⟩
  ·exact⟨p,c,get_snoc_r (by rw [hi,h.len]),hr.le join2_left⟩
 ·rcases snoc_get hi with ⟨li,hi'⟩|⟨li,hi'⟩<;>rcases snoc_get hj with ⟨lj,hj'⟩|⟨lj,hj'⟩
  ·exact h.apart i j q r n m c' d hij hi' hj'
  ·simp only [Value.slice.injEq]at hj'
   obtain⟨rfl,_⟩:=hj'
   rcases old i q n c' li hi' with h|h|h
   ·by_cases hq:q=none
    ·exact .inl hq
    ·exact .inr fun e=>hq (e.trans h)
   ·exact .inl h
   ·exact .inr fun e=>h e.symm
  ·simp only [Value.slice.injEq]at hi'
   obtain⟨rfl,_⟩:=hi'
   rcases old j r m d lj hj' with h|h|h
   ·exact .inl h
   ·by_cases hq:q=none
    ·exact .inl hq
    ·exact .inr fun e=>hq (e.trans h)
   ·exact .inr h
  ·omega
theorem Bag.set {e:TypeId} {N N':Heaplet} {vs:List Value} {xs:List (List UInt8)} {i n c:Nat} {x:List UInt8} {p:Option Addr} (h:Bag e N vs xs) (hv:vs[i]? =some (Value.slice p n c)) (hr:Row N' e 1 p n c (u8s x)) (ho:Off p N N'):Bag e N' vs (xs.set i x):=by
 refine⟨by simp [h.len],fun j y hy=>?_,h.apart⟩
 by_cases hij:i=j
 ·subst hij
  have hlt:i<xs.length:=by
   have:=(List.getElem?_eq_some_iff.1 hy).1
   simpa using this
  rw [List.getElem?_set_self hlt]at hy
  cases hy
  have hlen:x.length=n:=by have:=hr.1;simpa using this
  subst hlen
  exact⟨p,c,hv,hr⟩
 ·rw [List.getElem?_set_ne hij]at hy
  obtain⟨q,d,h1,h2⟩:=h.row j y hy
  exact⟨q,d,h1,h2.off ho (h.apart j i q p _ _ _ _ (fun e=>hij e.symm) h1 hv)⟩
def joinL:List Heaplet→Heaplet
 | []=>nilH
 |N::t=>join2 N (joinL t)
theorem apart_joinL {A:Heaplet} : ∀ {Ns:List Heaplet},(∀N∈Ns,Apart A N)→Apart A (joinL Ns):=by
 intro Ns
 induction Ns with
 |nil=>intro _ k;exact .inr rfl
 |cons N t ih=>
  intro h k
  rcases h N (by simp) k with h1|h1
  ·exact .inl h1
  ·rcases ih (fun M hM=>h M (by simp [hM])) k with h2|h2
   ·exact .inl h2
   ·exact .inr (by simp [joinL,join2,h1,h2])
theorem Hp.packL {E:World} {w:World} : ∀ {Ns L:List Heaplet},Hp E (Ns++L) w→Hp E (joinL Ns::L) w:=by
 intro Ns
 induction Ns with
 |nil=>
  intro L h
  exact⟨h.os,h.tape,h.output,fun N hN=>by
   rcases List.mem_cons.1 hN with rfl|hN
   ·intro k o hk;cases hk
   ·exact h.sub N hN,by rw [List.pairwise_cons];exact⟨fun _ _ _=>.inl rfl,h.sep⟩⟩
 |cons N t ih=>
  intro L h
  have h1:Hp E (t++(N::L)) w:=h.perm (List.perm_middle.symm)
  exact((ih h1).perm (.swap ..)).merge
theorem le_joinL {Ns:List Heaplet} (hs:Ns.Pairwise Apart) {N:Heaplet} (hN:N∈Ns):N.le (joinL Ns):=by
 induction Ns with
 |nil=>cases hN
 |cons A t ih=>
  have hp:=List.pairwise_cons.1 hs
  rcases List.mem_cons.1 hN with rfl|hN
  ·exact join2_left
  ·exact Heaplet.le_trans (ih hp.2 hN) (join2_right (apart_joinL hp.1))
theorem Hp.unpackL {E:World} {L:List Heaplet} {w:World} {Ns:List Heaplet} (hs:Ns.Pairwise Apart) (h:Hp E (joinL Ns::L) w):Hp E (Ns++L) w:=by
 have hp:=List.pairwise_cons.1 h.sep
 refine⟨h.os,h.tape,h.output,fun N hN=>?_,?_⟩
 ·rcases List.mem_append.1 hN with hN|hN
  ·exact Heaplet.le_trans (le_joinL hs hN) (h.sub _ (by simp))
  ·exact h.sub N (by simp [hN])
 ·rw [List.pairwise_append]
  exact⟨hs,hp.2,fun a ha b hb=>(hp.1 b hb).le (le_joinL hs ha) (Heaplet.le_refl _)⟩
theorem Fn.pack {P:Program} {f:FuncId} {args:Array Value} {L0 Lr:List Heaplet} {Post Post':Value→List Heaplet→Prop} {As:List Heaplet} (hA:As.Pairwise Apart) (h:Fn P f args (As++L0) Lr Post)
 (hp: ∀v L,Post v L→ ∃Bs L1,L=Bs++L1∧(Bs.Pairwise Apart→Post' v (joinL Bs::L1))):Fn P f args (joinL As::L0) Lr Post':=by
 intro E w R hw hr
 have hw2:Hp E (As++L0++ [R]) w:=by
  rw [List.append_assoc]
  exact hw.unpackL hA
 refine(h E w R hw2 hr).mono ?_
 rintro e w' ⟨v,L,rfl,hP,hh⟩
 obtain⟨Bs,L1,rfl,hq⟩:=hp v L hP
 rw [List.append_assoc]at hh
 have hs:=(List.pairwise_append.1 hh.sep).1
 exact⟨v,_,rfl,hq hs,hh.packL⟩
section
variable {n : Nat} {l : List (Nat × Value)} {E : World} {L : List Heaplet} {K : Act → World → Prop} {As : List Heaplet}
theorem At.pack (h:As.Pairwise Apart→At n l E (joinL As::L) K):At n l E (As++L) K:=fun a w hf hw=>h (List.pairwise_append.1 hw.sep).1 a w hf hw.packL
theorem At.unpack (hA:As.Pairwise Apart) (h:At n l E (As++L) K):At n l E (joinL As::L) K:=fun a w hf hw=>h a w hf (hw.unpackL hA)
end
theorem nodup_len {α:Type} [DecidableEq α]: ∀ {pre m:List α},pre.Nodup→(∀x∈pre,x∈m)→pre.length≤m.length
 | [],_,_,_=>Nat.zero_le _
 |x::r,m,hd,hs=>by
  obtain⟨h1,h2⟩:=List.nodup_cons.1 hd
  have hx:=hs x List.mem_cons_self
  have:=nodup_len (m:=m.erase x) h2 fun y hy=>(List.mem_erase_of_ne fun e=>h1 (by rw [←e];exact hy)).2 (hs y (List.mem_cons_of_mem _ hy))
  rw [List.length_erase_of_mem hx]at this
  have hp:=List.length_pos_of_mem hx
  simp only [List.length_cons];omega
theorem same_self {a:Lit} (h:WideAt.IsKeyLit a):a.sameKey a=true:=by
 cases a<;>first|exact h.elim|simp [Lit.sameKey]
theorem mapM_get {α β:Type} {f:α→Option β} : ∀ {is:List α} {ls:List β},is.mapM f=some ls→ ∀i∈is, ∃y,f i=some y
 | [],_,_,_,hi=>absurd hi List.not_mem_nil
 |j::t,ls,h,i,hi=>by
  rw [List.mapM_cons]at h
  cases hj:f j with
  |none=>rw [hj]at h;cases h
  |some y=>
   rw [hj]at h
   cases ht:t.mapM f with
   |none=>simp [ht]at h
   |some zs=>
    rcases List.mem_cons.1 hi with rfl|hi
    ·exact⟨y,hj⟩
    ·exact mapM_get ht i hi
theorem lits8_inv {d:Nat} {c:List Value} {L:List Lit} (hl:c.length=1) (h:Tryz.prog.keyLits (d+1) 5 c=some L): ∃x:UInt8,c= [.int .u8 (x.toNat:Int)]:=by
 obtain⟨v,rfl⟩:=List.length_eq_one_iff.1 hl
 rw [Program.keyLits.eq_def]at h
 simp only [Tryz.underlying5]at h
 cases v<;>simp at h
 rename_i q n
 obtain⟨⟨rfl,hw⟩,_⟩:=h
 simp only [Lit.wf,IntKind.min,IntKind.max,IntKind.signed,IntKind.bits,Bool.and_eq_true,decide_eq_true_eq]at hw
 refine⟨UInt8.ofNat n.toNat,?_⟩
 have:n.toNat<256:=by simp at hw;omega
 have e:(UInt8.ofNat n.toNat).toNat=n.toNat:=by simp;omega
 rw [e]
 simp at hw
 congr 2
 omega
theorem lits64_inv {d:Nat} {c:List Value} {L:List Lit} (hl:c.length=1) (h:Tryz.prog.keyLits (d+1) 34 c=some L): ∃x:UInt64,c= [.int .u64 (x.toNat:Int)]:=by
 obtain⟨v,rfl⟩:=List.length_eq_one_iff.1 hl
 rw [Program.keyLits.eq_def]at h
 simp only [Tryz.underlying34]at h
 cases v<;>simp at h
 rename_i q n
 obtain⟨⟨rfl,hw⟩,_⟩:=h
 simp only [Lit.wf,IntKind.min,IntKind.max,IntKind.signed,IntKind.bits,Bool.and_eq_true,decide_eq_true_eq]at hw
 refine⟨UInt64.ofNat n.toNat,?_⟩
 have:n.toNat<18446744073709551616:=by simp at hw;omega
 have e:(UInt64.ofNat n.toNat).toNat=n.toNat:=by simp;omega
 rw [e]
 simp at hw
 congr 2
 omega
theorem cells_8 {cs:List Value} : ∀ {n:Nat},cs.length=n→(∀i,i<n→ ∃x:UInt8,(cs.drop i).take 1= [.int .u8 (x.toNat:Int)])→ ∃k:List UInt8,k.length=n∧cs=u8s k:=by
 intro n
 induction n generalizing cs with
 |zero=>intro h _;exact⟨[],rfl,by rw [List.length_eq_zero_iff.1 h];rfl⟩
 |succ n ih=>
  intro h hx
  cases cs with
  |nil=>cases h
  |cons v t=>
   obtain⟨x,hx0⟩:=hx 0 (Nat.succ_pos _)
   obtain⟨k,hk,rfl⟩:=ih (cs:=t) (by simpa using h) fun i hi=>by
    obtain⟨y,hy⟩:=hx (i+1) (by omega)
    exact⟨y,by simpa using hy⟩
   refine⟨x::k,by simp [hk],?_⟩
   simp at hx0
   rw [hx0];rfl
theorem cells_64 {cs:List Value} : ∀ {n:Nat},cs.length=n→(∀i,i<n→ ∃x:UInt64,(cs.drop i).take 1= [.int .u64 (x.toNat:Int)])→ ∃k:List UInt64,k.length=n∧cs=u64s k:=by
 intro n
 induction n generalizing cs with
 |zero=>intro h _;exact⟨[],rfl,by rw [List.length_eq_zero_iff.1 h];rfl⟩
 |succ n ih=>
  intro h hx
  cases cs with
  |nil=>cases h
  |cons v t=>
   obtain⟨x,hx0⟩:=hx 0 (Nat.succ_pos _)
   obtain⟨k,hk,rfl⟩:=ih (cs:=t) (by simpa using h) fun i hi=>by
    obtain⟨y,hy⟩:=hx (i+1) (by omega)
    exact⟨y,by simpa using hy⟩
   refine⟨x::k,by simp [hk],?_⟩
   simp at hx0
   rw [hx0];rfl
theorem keyA_inv {key:Value} {kl:Lit} (h:keyOf Tryz.prog 33 key=some kl): ∃k,okAd k∧key=.agg (u8s k).toArray∧kl=keyA k:=by
 obtain⟨xs,L,rfl,hL,_⟩:=keyOf_top (by kernel_rfl) h
 obtain⟨m,hm⟩:=types_big
 rw [hm,Program.keyLits.eq_def]at hL
 have hc:Tryz.prog.cellsOf 33=20:=by kernel_rfl
 have hc1:Tryz.prog.cellsOf 5=1:=by kernel_rfl
 simp only [Tryz.underlying33]at hL
 split at hL
 ·rename_i hlen
  cases hM:(List.range 20).mapM fun i=>Tryz.prog.keyLits (m+2) 5 ((xs.toList.drop (i*Tryz.prog.cellsOf 5)).take (Tryz.prog.cellsOf 5))with
  |none=>rw [hM]at hL;cases hL
  |some ls=>
   rw [hc]at hlen
   obtain⟨k,hk,hx⟩:=cells_8 hlen fun i hi=>by
    obtain⟨y,hy⟩:=mapM_get hM i (List.mem_range.2 hi)
    rw [hc1,Nat.mul_one]at hy
    exact lits8_inv (by rw [List.length_take,List.length_drop];omega) hy
   refine⟨k,hk,by rw [←hx],?_⟩
   have e:xs=(u8s k).toArray:=by rw [←hx]
   rw [e,keyA_spec hk]at h
   exact(Option.some.inj h).symm
 ·cases hL
theorem keyW_inv {key:Value} {kl:Lit} (h:keyOf Tryz.prog 36 key=some kl): ∃k,okWd k∧key=.agg (u64s (wl k)).toArray∧kl=keyW k:=by
 obtain⟨xs,L,rfl,hL,_⟩:=keyOf_top (by kernel_rfl) h
 obtain⟨m,hm⟩:=types_big
 rw [hm,Program.keyLits.eq_def]at hL
 have hc:Tryz.prog.cellsOf 36=4:=by kernel_rfl
 have hc1:Tryz.prog.cellsOf 34=1:=by kernel_rfl
 simp only [Tryz.underlying36]at hL
 split at hL
 ·rename_i hlen
  cases hM:(List.range 4).mapM fun i=>Tryz.prog.keyLits (m+2) 34 ((xs.toList.drop (i*Tryz.prog.cellsOf 34)).take (Tryz.prog.cellsOf 34))with
  |none=>rw [hM]at hL;cases hL
  |some ls=>
   rw [hc]at hlen
   obtain⟨k,hk,hx⟩:=cells_64 hlen fun i hi=>by
    obtain⟨y,hy⟩:=mapM_get hM i (List.mem_range.2 hi)
    rw [hc1,Nat.mul_one]at hy
    exact lits64_inv (by rw [List.length_take,List.length_drop];omega) hy
   have hw:wl (v64 k)=k:=(wl_self hk).symm
   have e:xs=(u64s (wl (v64 k))).toArray:=by rw [hw, ←hx]
   refine⟨v64 k,v64_lt4 hk,by rw [←e],?_⟩
   rw [e,keyW_spec]at h
   exact(Option.some.inj h).symm
 ·cases hL
theorem setL_full {cs zs:List Value} (h:cs.length=zs.length):setL zs 0 cs=cs:=by
 have:=setL_append cs [] zs [] h.symm
 simpa using this
theorem len_A {k:List UInt8} (h:okAd k):(u8s k).length=20:=by rw [cY];exact h
theorem len_W {x:Nat} (_:okWd x):(u64s (wl x)).length=4:=rfl
theorem len_A1 {k:List UInt8} :(u8s k).all (·.oneCell')=true:=by rw [List.all_eq_true];exact one_u8s _
theorem len_W1 {x:Nat} :(u64s (wl x)).all (·.oneCell')=true:=by rw [List.all_eq_true];exact one_u64s _
abbrev AcR:=List (List UInt8×(Nat×AcS))
def acK (no:UInt64) (ba:Nat) (ca:Option Addr) (cn cc mb:Nat):List Value:=.int .u64 (no.toNat:Int)::(u64s (wl ba)++ [.slice ca cn cc,.map (some mb)])
structure AccO (NX NM NC:Heaplet) (c xp mb:Nat) (ca:Option Addr) (cc:Nat) (D:DataW Value) (x:AcS):Prop where
 B:Blk NX xp 71 (acK x.no x.ba ca x.co.length cc mb)
 M:MapV Tryz.prog 36 NM mb c D
 A:MapA keyW okWd wordV D x.st
 C:RSl NC 1 ca x.co.length cc (u8s x.co)
 ln:x.co.length≤1099511627776
 ba:x.ba<WW
 st: ∀p∈x.st,p.2<WW
def AccX (N:Heaplet) (c xp:Nat) (x:AcS):Prop:= ∃NX NM NC mb ca cc D,[NX,NM,NC].Pairwise Apart∧N=joinL [NX,NM,NC]∧AccO NX NM NC c xp mb ca cc D x
def AccsN:Heaplet→AcR→Nat→Prop
 |_,[],_=>True
 |N,p::l,c=> ∃X R,Apart X R∧N=join2 X R∧AccX X c p.2.1 p.2.2∧AccsN R l c
theorem AccO.mono {NX NM NC:Heaplet} {c d xp mb:Nat} {ca:Option Addr} {cc:Nat} {D:DataW Value} {x:AcS} (h:AccO NX NM NC c xp mb ca cc D x) (hl:c≤d):AccO NX NM NC d xp mb ca cc D x:=⟨h.B,h.M.mono hl,h.A,h.C,h.ln,h.ba,h.st⟩
theorem AccX.mono {N:Heaplet} {c d xp:Nat} {x:AcS} (h:AccX N c xp x) (hl:c≤d):AccX N d xp x:=let ⟨NX,NM,NC,mb,ca,cc,D,a,b,o⟩:=h;⟨NX,NM,NC,mb,ca,cc,D,a,b,o.mono hl⟩
theorem AccsN.mono: ∀ {l:AcR} {N:Heaplet} {c d:Nat},AccsN N l c→c≤d→AccsN N l d
 | [],_,_,_,_,_=>trivial
 |_::_,_,_,_,⟨X,R,a,b,x,r⟩,hl=>⟨X,R,a,b,x.mono hl,r.mono hl⟩
theorem join_assoc {A B C:Heaplet} :join2 A (join2 B C)=join2 (join2 A B) C:=by
 funext k;simp [join2,Option.or_assoc]
theorem join_comm {A B:Heaplet} (h:Apart A B):join2 A B=join2 B A:=by
 funext k
 rcases h k with e|e<;>simp [join2,e]
theorem apart_join {A B C:Heaplet} (h1:Apart A B) (h2:Apart A C):Apart A (join2 B C):=fun k=>by
 rcases h1 k with e|e
 ·exact .inl e
 ·rcases h2 k with e'|e'
  ·exact .inl e'
  ·exact .inr (by simp [join2,e,e'])
theorem apart_left {A B C:Heaplet} (h:Apart A (join2 B C)):Apart A B:=fun k=>by
 rcases h k with e|e
 ·exact .inl e
 ·right
  cases hB:B k with
  |none=>rfl
  |some o=>simp [join2,hB]at e
theorem apart_right {A B C:Heaplet} (h:Apart A (join2 B C)):Apart A C:=fun k=>by
 rcases h k with e|e
 ·exact .inl e
 ·right
  cases hC:C k with
  |none=>rfl
  |some o=>
   cases hB:B k with
   |none=>simp [join2,hB,hC]at e
   |some o'=>simp [join2,hB]at e
theorem AccsN.take {k:List UInt8} {v:Nat×AcS} : ∀ {l:AcR} {N:Heaplet} {c:Nat},DisA l→AccsN N l c→getA k l=some v→ ∃X R,Apart X R∧N=join2 X R∧AccX X c v.1 v.2∧AccsN R (delA k l) c
 | [],_,_,_,_,h=>by cases h
 |p::l,N,c,hd,⟨X,R,ha,hN,hX,hR⟩,h=>by
  obtain⟨h1,h2⟩:=List.nodup_cons.1 hd
  by_cases e:p.1=k
  ·rw [getA,if_pos e]at h
   cases h
   have h3:delA k (p::l)=delA k l:=by simp [delA,e]
   have h4:delA k l=l:=delA_none (getA_none.2 fun q hq hk=>h1 (List.mem_map.2 ⟨q,hq,hk.trans e.symm⟩))
   rw [h3,h4]
   exact⟨X,R,ha,hN,hX,hR⟩
  ·rw [getA,if_neg e]at h
   obtain⟨Y,S,a2,rfl,y2,s2⟩:=AccsN.take h2 hR h
   have h3:delA k (p::l)=p::delA k l:=by simp [delA,e]
   rw [h3]
   have axy:=apart_left ha
   have axs:=apart_right ha
   refine⟨Y,join2 X S,apart_join axy.symm a2,?_,y2,X,S,axs,rfl,hX,s2⟩
   rw [hN,join_assoc,join_comm axy, ←join_assoc]
theorem AccsN.put {k:List UInt8} {NX NM NC R:Heaplet} {l:AcR} {c xp mb:Nat} {ca:Option Addr} {cc:Nat} {D:DataW Value} {x:AcS} (hs: [NX,NM,NC].Pairwise Apart) (hR:Apart (joinL [NX,NM,NC]) R) (h:AccO NX NM NC c xp mb ca cc D x) (hr:AccsN R l c):AccsN (join2 (joinL [NX,NM,NC]) R) ((k,(xp,x))::l) c:=
 ⟨_,R,hR,rfl,⟨NX,NM,NC,mb,ca,cc,D,hs,rfl,h⟩,hr⟩
section
variable {α β : Type} [DecidableEq α] {κ : α → Lit} {ok : α → Prop} {val : β → Value} {D : DataW Value} {l : List (α × β)}
theorem MapA.rep (h:MapA κ ok val D l) {k:α} {v v':β} (hk:getA k l=some v) (hv:val v=val v'):MapA κ ok val D ((k,v')::delA k l):=by
 have hkm:=getA_mem hk
 have hl:(delA k l).length+1=l.length:=by
  have:=delA_len h.dis k
  rw [hk]at this
  simpa using this
 refine⟨?_,h.tidy,?_,fun p hp=>?_,fun j hj=>?_,fun p hp z=>?_⟩
 ·exact List.nodup_cons.2 ⟨fun hm=>by
   obtain⟨p,hp,e⟩:=List.mem_map.1 hm
   exact(mem_delA.1 hp).2 e,h.dis.del k⟩
 ·rw [h.size,List.length_cons];omega
 ·rcases List.mem_cons.1 hp with rfl|hp
  ·exact h.key (k,v) hkm
  ·exact h.key p (mem_delA.1 hp).1
 ·rw [h.has j hj,getA,getA_del]
  by_cases e:k=j
  ·rw [if_pos e, ←e,hk];rfl
  ·rw [if_neg e,if_neg fun h=>e h.symm]
 ·rcases List.mem_cons.1 hp with rfl|hp
  ·rw [←hv];exact h.val (k,v) hkm z
  ·exact h.val p (mem_delA.1 hp).1 z
theorem delA_put {k:α} {v:β} :delA k (putA k v l)=delA k l:=by
 simp [delA,putA,List.filter_append,List.filter_filter]
theorem getA_putS {k:α} {v:β} :getA k (putA k v l)=some v:=by rw [getA_put,if_pos rfl]
end
def MdEq (l:AcR) (M:AcL):Prop:= ∀a,(getA a l).map Prod.snd=getA a M
structure StO (t:SJ) (NS NF NA NT NM NW ND NP NQ NO NL NU NK:Heaplet) (sp ma c:Nat) (DF:DataW Value) (l:AcR):Prop where
 J:t.On NS NT NM NW ND NP NQ NO NL NU NK sp ma c
 F:MapV Tryz.prog 33 NF ma c DF
 A:MapA keyA okAd ptrV DF l
 N:AccsN NA l c
def StP (v0:Value) (ab:SAb) (M:AcL) (sp c:Nat) (v:Value) (L:List Heaplet):Prop:= ∃(t:SJ) (ma:Nat) (DF:DataW Value) (l:AcR) (NS NF NA NT NM NW ND NP NQ NO NL NU NK:Heaplet),v=v0∧L= [NS,NF,NA,NT,NM,NW,ND,NP,NQ,NO,NL,NU,NK]∧StO t NS NF NA NT NM NW ND NP NQ NO NL NU NK sp ma c DF l∧t.ab=ab∧MdEq l M
theorem StO.mono {t:SJ} {NS NF NA NT NM NW ND NP NQ NO NL NU NK:Heaplet} {sp ma c d:Nat} {DF:DataW Value} {l:AcR} (h:StO t NS NF NA NT NM NW ND NP NQ NO NL NU NK sp ma c DF l) (hl:c≤d):StO t NS NF NA NT NM NW ND NP NQ NO NL NU NK sp ma d DF l:=⟨h.J.mono hl,h.F.mono hl,h.A,h.N.mono hl⟩
theorem MdEq.turn {l:AcR} {M:AcL} (h:MdEq l M) {k:List UInt8} {f:AcS→AcS} {xp:Nat} {x:AcS} (hx:x=((getA k l).map Prod.snd).getD AcS.z):MdEq ((k,(xp,f x))::delA k l) (turnA k f M):=fun a=>by
 rw [getA_turn,getA,getA_del]
 by_cases e:k=a
 ·subst e
  rw [if_pos rfl,if_pos rfl,hx,h k];rfl
 ·rw [if_neg e,if_neg fun h=>e h.symm,if_neg fun h=>e h.symm,h a]
theorem ptr_look {DF:DataW Value} {l:AcR} (hA:MapA keyA okAd ptrV DF l) {k:List UInt8} (hk:okAd k):DF.atKey (keyA k) (.held (.pointer none))=.held (.pointer ((getA k l).map fun v=>⟨v.1,0,none⟩)):=by
 rw [hA.look hk]
 cases getA k l<;>rfl
set_option maxHeartbeats 4000000 in
theorem FExists {NS NF:Heaplet} {sp ma c:Nat} {DF:DataW Value} {l:AcR} {mt mm mw md ws tr og:Nat} {rf:UInt64} {lg un mk:Value} {tl:Int} {k:List UInt8} (BS:Blk NS sp 85 (stK ma mt mm mw md ws tr og rf lg un mk tl)) (hM:MapV Tryz.prog 33 NF ma c DF) (hA:MapA keyA okAd ptrV DF l) (hk:okAd k):
 Fn Tryz.prog 29 #[.pointer (some ⟨sp,0,none⟩),.agg (u8s k).toArray] [] [NS,NF] (fun v L=>v=.bool (getA k l).isSome∧L= []):=by
 have hul:(u8s k).length=20:=by rw [cY,hk]
 have hlk:=ptr_look hA hk
 have e:((getA k l).map fun v=>(⟨v.1,0,none⟩:Addr)).isSome=(getA k l).isSome:=by cases getA k l<;>rfl
 refine Fn.enter (vs:= [.pointer (some ⟨sp,0,none⟩),.agg (u8s k).toArray]) Tryz.func29 U U U ?_
 intro E R hR
 have BR:=BS.le (hR NS (by simp))
 have hM:=hM.le (hR NF (by simp))
 change At _ _ E [R] _
 refine aH fun _ s_1=>aB (cU bT U U U (fun N3 b3 B3=>bV U U (aI (s_1 (aH fun _ s_2=>cS [N3,R] [5] [] [0,1,2,3,4,5,6,7] (by kernel_rfl) (by kernel_rfl) (.refl _) (aR (bB U U U) U U (bH (bB U U U) U U (aJ (bB U U U) fl85_0 U U (aU (bB U U U) sc74 U BR U dG U ?_)))))))))
 refine aK (ds:=u8s k) (bB U U U) ag33 U B3 (by exact bJ hul) (by exact hul) cO U ?_
 refine op_lookupV1 (Nx.agree (nxss U U U U)) kd33 Tryz.underlying74 (fun _=>by first|rfl|kernel_rfl) U U hM (keyA_spec hk) (hlk) (by simp) U ?_
 refine At.anyS (.refl _) (op_nePO (bB U U U) Tryz.underlying67 U U (cZ (bB U U U) U U (dH (aS (s_2 (cK ((dropAt0 (cF (L1:= []) U (.tmp U .nil) (.refl _) aZ ?_)))))))))
 exact⟨by rw [e],rfl⟩
end Go.Proofs.YtalmjkcapecpiaaGreat
