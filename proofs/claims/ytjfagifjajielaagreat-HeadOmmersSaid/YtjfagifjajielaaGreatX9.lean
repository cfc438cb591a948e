/- Several texts in one: see the remarks ahead of each part. No condition but those told there. -/
import Derived.Test.YtjfagifjajielaaGreatX1
import Derived.Test.YtjfagifjajielaaGreatX8
import Derived.Recover
import Derived.Test.YtjfagifjajielaaGreatX2
import Derived.Test.YtjfagifjajielaaGreatX5
import Derived.Test.YtjfagifjajielaaGreatX4
set_option linter.unusedSimpArgs false
set_option linter.unusedVariables false
namespace Go.Proofs.YtjfagifjajielaaGreat
open Go Go.RowKit
def pnk (v:Value):List PanicEntry:= [{ v:=v,recovered:=false }]
def DoneX (E:World) (R:Heaplet) (Post Pan:Value→List Heaplet→Prop) (e:Ending) (w':World):Prop:=
 (∃v L1,e=.returned v∧Post v L1∧Hp E (L1++ [R]) w')∨ ∃v L1,e=.panicked (pnk v)∧Pan v L1∧Hp E (L1++ [R]) w'
def FnE (P:Program) (f:FuncId) (args:Array Value) (L0 Lr:List Heaplet) (Post Pan:Value→List Heaplet→Prop):Prop:=
 ∀(E w:World) (R:Heaplet),Hp E (L0++ [R]) w→(∀N∈Lr,N.le R)→Calls P f args w (DoneX E R Post Pan)
def bodyPostX (P:Program) (fn:Func) (E:World) (R:Heaplet) (Post Pan:Value→List Heaplet→Prop) (e:Exit) (a:Act) (w:World):Prop:=dfOf E= []→bodyPost P fn (DoneX E R Post Pan) e a w
section
variable {P : Program} {f : FuncId} {args : Array Value} {L0 Lr : List Heaplet} {Post Pan : Value → List Heaplet → Prop}
theorem Fn.x (h:Fn P f args L0 Lr Post):FnE P f args L0 Lr Post Pan:=fun E w R hw hr=>(h E w R hw hr).mono fun _ _ h=>.inl h
theorem FnE.fn (h:FnE P f args L0 Lr Post fun _ _=>False):Fn P f args L0 Lr Post:=fun E w R hw hr=>(h E w R hw hr).mono fun _ _ h=>by
 rcases h with h|⟨_,_,_,h,_⟩
 ·exact h
 ·exact h.elim
theorem FnE.mono {Post' Pan':Value→List Heaplet→Prop} (h:FnE P f args L0 Lr Post Pan) (hp: ∀v L,Post v L→Post' v L) (hq: ∀v L,Pan v L→Pan' v L):FnE P f args L0 Lr Post' Pan':=fun E w R hw hr=>
 (h E w R hw hr).mono fun _ _ h=>h.elim (fun⟨v,L1,he,hP,hh⟩=>.inl ⟨v,L1,he,hp _ _ hP,hh⟩) (fun⟨v,L1,he,hP,hh⟩=>.inr ⟨v,L1,he,hq _ _ hP,hh⟩)
theorem FnE.more {Lr':List Heaplet} (h:FnE P f args L0 Lr Post Pan) (hs: ∀N∈Lr,N∈Lr'):FnE P f args L0 Lr' Post Pan:=fun E w R hw hr=>h E w R hw fun N hN=>hr N (hs N hN)
theorem FnE.enter {vs:List Value} {fn:Func} {c:Code} {n:Nat} (hf:P.funcs[f]? =some fn) (hb:fn.body=some c) (hn:fn.ntmps=n) (hs:Nat.ble vs.length n=true)
 (h: ∀(E:World) (R:Heaplet),(∀N∈Lr,N.le R)→At n (slots 0 vs) E (L0++ [R]) (c.wp P (bodyPostX P fn E R Post Pan))):FnE P f vs.toArray L0 Lr Post Pan:=by
 intro E w R hw hr
 refine calls_of_wp hf hb ?_
 subst hn
 refine wp_body_mono ?_ (h (dfNo E) R hr _ _ (Fr.init (by simpa using hs) (fun i v hi=>by have:=(slots_get vs 0 i v hi).2;simpa using this)) (hw.env U U U))
 intro e a w hq
 exact bodyPost_mono (fun e w h=>h.elim (fun⟨v,L1,h1,h2,h3⟩=>.inl ⟨v,L1,h1,h2,h3.env U U rfl⟩) (fun⟨v,L1,h1,h2,h3⟩=>.inr ⟨v,L1,h1,h2,h3.env U U rfl⟩)) (hq (dfOf_no E))
end
section
variable {P : Program} {n : Nat} {l l' : List (Nat × Value)} {E : World} {L L' L1 L2 : List Heaplet} {K K' : Act → World → Prop} {Q : Exit → Act → World → Prop}
variable {fn : Func} {R : Heaplet} {Post Pan : Value → List Heaplet → Prop} {ops : Array Oper} {rest : List Oper} {d : Nat} {ty : TypeId} {pos : String} {aft : Array Edge} {v : Value}
theorem Hp.apartRest {L0 F:List Heaplet} {w:World} (hw:Hp E (L0++F) w): ∃R:Heaplet,Hp E (L0++ [R]) w∧(∀N∈F,N.le R)∧F.Pairwise Apart:=by
 have hsep:=List.pairwise_append.1 hw.sep
 refine⟨fun k=>if ∃N∈L0,N k≠none then none else w.heap[k]?,⟨hw.os,hw.tape,hw.output,fun N hN=>?_,?_⟩,fun N hN k o hk=>?_,hsep.2.1⟩
 ·rcases List.mem_append.1 hN with hN|hN
  ·exact hw.sub N (List.mem_append_left _ hN)
  ·simp at hN;subst hN
   intro k o hk
   simp only at hk
   split at hk
   ·cases hk
   ·exact hk
 ·rw [List.pairwise_append]
  refine⟨hsep.1,by simp,fun A hA B hB k=>?_⟩
  simp at hB;subst hB
  by_cases hAk:A k=none
  ·exact .inl hAk
  ·exact .inr (if_pos ⟨A,hA,hAk⟩)
 ·have hno: ¬ ∃M∈L0,M k≠none:=by
   rintro⟨M,hM,hMk⟩
   rcases hsep.2.2 M hM N hN k with h|h
   ·exact hMk h
   ·rw [hk]at h;cases h
  simp only [if_neg hno]
  exact hw.sub N (List.mem_append_right _ hN) k o hk
end
def FnRec (P:Program) (f:FuncId) (args:Array Value) (v:Value) (L0:List Heaplet) (Post:List Heaplet→Prop):Prop:=
 ∀(E w:World) (R:Heaplet),Hp E (L0++ [R]) w→CallsD P f args (.panicking (pnk v)) w fun e u' w'=>u'=.panicking [{ v:=v,recovered:=true }]∧ ∃x L1,e=.returned x∧Post L1∧Hp E (L1++ [R]) w'
def FnRet (P:Program) (f:FuncId) (args:Array Value):Prop:=
 ∀(E w:World) (L:List Heaplet),Hp E L w→CallsD P f args .returning w fun e u' w'=>u'=.returning∧ ∃x,e=.returned x∧Hp E L w'
section
variable {P : Program} {n : Nat} {l : List (Nat × Value)} {E : World} {L L0 F : List Heaplet} {fn : Func} {R : Heaplet} {Post : Value → List Heaplet → Prop} {v : Value}
end
section
variable {P : Program} {f : FuncId} {fn : Func} {c : Code} {vs : List Value} {n d d2 id : Nat} {ats : Array TypeId} {ty ty2 : TypeId} {pos pos2 : String} {aft aft2 : Array Edge}
theorem rec_ops {Q:Exit→Act→List Frame→World→Prop} {ops:Array Oper} {a:Act} {cs cs':List Frame} {w:World} {v:Value}
 (hops:ops= #[⟨some d,.call ⟨.builtin .recover, #[],ats⟩,ty,pos,aft,none⟩,⟨some d2,.assign (.tmp d),ty2,pos2,aft2,none⟩])
 (hr:recoverD cs=some (v,cs')∨(recoverD cs=none∧v=.nilIface∧cs'=cs)) (hd:d<a.tmps.size)
 (h:Q .normal ((a.put (some d) v).put (some d2) v) cs' w):wpOpsS P ops Q (List.range ops.size) a cs w:=by
 subst hops
 have e1:(execOp a.eval ⟨some d,.call ⟨.builtin .recover, #[],ats⟩,ty,pos,aft,none⟩).run P w=.ok .recover w:=by
  simp [execOp,resolve,invoke,builtin]
 have e2:((a.put (some d) v).eval (.tmp d))=v:=by
  simp [Act.put,Act.eval,Array.getD_eq_getD_getElem?,hd]
 have w1:Region.wanted (⟨some d,.call ⟨.builtin .recover, #[],ats⟩,ty,pos,aft,none⟩:Oper) (yielded #[⟨some d,.call ⟨.builtin .recover, #[],ats⟩,ty,pos,aft,none⟩,⟨some d2,.assign (.tmp d),ty2,pos2,aft2,none⟩] a.tmps)=true:=by simp [Region.wanted]
 have hlast:wpOpsS P #[⟨some d,.call ⟨.builtin .recover, #[],ats⟩,ty,pos,aft,none⟩,⟨some d2,.assign (.tmp d),ty2,pos2,aft2,none⟩] Q [1] (a.put (some d) v) cs' w:=by
  have w2:Region.wanted (⟨some d2,.assign (.tmp d),ty2,pos2,aft2,none⟩:Oper) (yielded #[⟨some d,.call ⟨.builtin .recover, #[],ats⟩,ty,pos,aft,none⟩,⟨some d2,.assign (.tmp d),ty2,pos2,aft2,none⟩] (a.put (some d) v).tmps)=true:=by simp [Region.wanted]
  simp only [wpOpsS,List.getElem?_toArray,List.getElem?_cons_succ,List.getElem?_cons_zero,w2,if_true]
  simp only [execOp,e2,Sem.run_pure]
  exact h
 show wpOpsS P _ Q [0,1] a cs w
 rw [wpOpsS]
 simp only [List.getElem?_toArray,List.getElem?_cons_zero,w1,if_true,e1]
 rcases hr with hr|⟨hr,rfl,rfl⟩
 ·rw [hr];exact hlast
 ·rw [hr];exact hlast
theorem Fr.two {v:Value} (hn:fn.ntmps=n) (hs:Nat.ble vs.length n=true) (h1:Nat.ble (d+1) n=true) (h2:Nat.ble (d2+1) n=true):
 Fr [] n ((d2,v)::(d,v)::slots 0 vs) (({ tmps:=vs.toArray++Array.replicate (fn.ntmps- vs.toArray.size) undef,defers:= [] } :Act).put (some d) v |>.put (some d2) v):=by
 subst hn
 have h0:Fr [] fn.ntmps (slots 0 vs) { tmps:=vs.toArray++Array.replicate (fn.ntmps- vs.toArray.size) undef,defers:= [] } :=
  Fr.init (by simpa using hs) (fun i v hi=>by have:=(slots_get vs 0 i v hi).2;simpa using this)
 exact(h0.put (Nat.le_of_ble_eq_true h1)).put (Nat.le_of_ble_eq_true h2)
theorem FnRec.enter {v:Value} {L0:List Heaplet} {PostC:List Heaplet→Prop} (hf:P.funcs[f]? =some fn)
 (hb:fn.body=some (Code.seq (Code.region id #[⟨some d,.call ⟨.builtin .recover, #[],ats⟩,ty,pos,aft,none⟩,⟨some d2,.assign (.tmp d),ty2,pos2,aft2,none⟩] false) c)) (hn:fn.ntmps=n) (hs:Nat.ble vs.length n=true) (h1:Nat.ble (d+1) n=true) (h2:Nat.ble (d2+1) n=true)
 (h: ∀(E:World) (R:Heaplet),At n ((d2,v)::(d,v)::slots 0 vs) E (L0++ [R]) (c.wp P (bodyPostE P fn E R fun _ L=>PostC L))):FnRec P f vs.toArray v L0 PostC:=by
 intro E w R hw
 refine callsD_of_wpS hf hb fun c₀ cs hu=>?_
 apply wpS_seq
 apply wpS_region
 have hfr:=Fr.two (d:=d) (d2:=d2) (v:=v) hn hs h1 h2
 refine rec_ops (v:=v) (cs':= { c₀ with mode:=.panicking [{ v:=v,recovered:=true }] } ::cs) U (.inl (by simp [recoverD,hu,pnk])) ?_ ?_
 ·have:=Nat.le_of_ble_eq_true h1
  have hs':vs.length≤n:=Nat.le_of_ble_eq_true hs
  simp;omega
 show Code.wpS P c _ _ _ _
 refine wpS_of_wp (wp_body_mono ?_ (h (dfNo E) R _ w hfr (hw.env U U U)))
 intro e a w' hq
 have hq:=hq (dfOf_no E)
 cases e with
 |normal=>obtain⟨hd,x,h3,y,L1,h4,h5,h6⟩:=hq;exact⟨hd,_,rfl,x,h3,rfl,y,L1,h4,h5,h6.env rfl rfl rfl⟩
 |ret=>obtain⟨hd,x,h3,y,L1,h4,h5,h6⟩:=hq;exact⟨hd,_,rfl,x,h3,rfl,y,L1,h4,h5,h6.env rfl rfl rfl⟩
 |panic ch=>obtain⟨hd,y,L1,h4,_⟩:=hq;cases h4
 |exit id=>exact hq
 |goto l=>exact hq
 |outgrown=>obtain⟨y,L1,h4,_⟩:=hq;cases h4
theorem FnRet.enter (hf:P.funcs[f]? =some fn)
 (hb:fn.body=some (Code.seq (Code.region id #[⟨some d,.call ⟨.builtin .recover, #[],ats⟩,ty,pos,aft,none⟩,⟨some d2,.assign (.tmp d),ty2,pos2,aft2,none⟩] false) c)) (hn:fn.ntmps=n) (hs:Nat.ble vs.length n=true) (h1:Nat.ble (d+1) n=true) (h2:Nat.ble (d2+1) n=true)
 (h: ∀(E:World) (R:Heaplet),At n ((d2,.nilIface)::(d,.nilIface)::slots 0 vs) E [R] (c.wp P (bodyPostE P fn E R fun _ L=>L= []))):FnRet P f vs.toArray:=by
 intro E w L hw
 obtain⟨R,hR,hle,hsep⟩:=Hp.apartRest (L0:= []) (F:=L) hw
 refine callsD_of_wpS hf hb fun c₀ cs hu=>?_
 apply wpS_seq
 apply wpS_region
 have hfr:=Fr.two (d:=d) (d2:=d2) (v:=.nilIface) hn hs h1 h2
 refine rec_ops (v:=.nilIface) (cs':=c₀::cs) U (.inr ⟨by simp [recoverD,hu],rfl,rfl⟩) ?_ ?_
 ·have:=Nat.le_of_ble_eq_true h1
  have hs':vs.length≤n:=Nat.le_of_ble_eq_true hs
  simp;omega
 show Code.wpS P c _ _ _ _
 refine wpS_of_wp (wp_body_mono ?_ (h (dfNo E) R _ w hfr (hR.env U U U)))
 intro e a w' hq
 have hq:=hq (dfOf_no E)
 have hc:c₀= { c₀ with mode:=.returning } :=by cases c₀;simp_all
 cases e with
 |normal=>obtain⟨hd,x,h3,y,L1,h4,rfl,h6⟩:=hq;exact⟨hd,.returning,by rw [←hc],x,h3,rfl,y,h4,Hp.refine (L:= []) (h6.env rfl rfl rfl) hle hsep⟩
 |ret=>obtain⟨hd,x,h3,y,L1,h4,rfl,h6⟩:=hq;exact⟨hd,.returning,by rw [←hc],x,h3,rfl,y,h4,Hp.refine (L:= []) (h6.env rfl rfl rfl) hle hsep⟩
 |panic ch=>obtain⟨hd,y,L1,h4,_⟩:=hq;cases h4
 |exit id=>exact hq
 |goto l=>exact hq
 |outgrown=>obtain⟨y,L1,h4,_⟩:=hq;cases h4
end
def cutAt (b:List UInt8) (i n:Nat):Option (Bool×List UInt8×List UInt8):=
 if b.length- i<n then none
 else if 192≤(b.getD 0 0).toNat then some (true,(b.drop i).take n,b.drop (i+n))
 else if n=1∧(b.getD i 0).toNat<128 then none
 else some (false,(b.drop i).take n,b.drop (i+n))
def hdr (b:List UInt8):Nat:=((b.getD 0 0).toNat- 128) % 64
def lng (b:List UInt8):Nat:=be ((b.drop 1).take (hdr b- 54- 1))
def cutF (b:List UInt8):Option (Bool×List UInt8×List UInt8):=
 if b.length=0 then none
 else if (b.getD 0 0).toNat<128 then some (false,b.take 1,b.drop 1)
 else if hdr b≤55 then cutAt b 1 (hdr b)
 else if b.length<hdr b- 54∨(b.getD 1 0).toNat=0 then none
 else if lng b≤55∨b.length<lng b then none
 else cutAt b (hdr b- 54) (lng b)
theorem limbs_one {B:Nat} (h0:0<B) (h:B<2^64):limbsOf B= [UInt64.ofNat B]:=by
 have h1:(bitLen B+63)/64≤1:=limbLen_le.2 (by simpa using h)
 have h2:=bitLen_pos h0
 have h3:(bitLen B+63)/64=1:=by omega
 rw [limbsOf,h3];simp [limbsN]
theorem lng_pos {b:List UInt8} (h1:hdr b- 54≤b.length) (h2:56≤hdr b) (h3:(b.getD 1 0).toNat≠0):0<lng b∧lng b<2^64:=by
 have h63:hdr b<64:=Nat.mod_lt _ (by decide)
 have hl:((b.drop 1).take (hdr b- 54- 1)).length=hdr b- 55:=by rw [List.length_take,List.length_drop];omega
 constructor
 ·unfold lng
  cases hb:(b.drop 1).take (hdr b- 54- 1)with
  |nil=>rw [hb]at hl;simp at hl;omega
  |cons x t=>
   rw [be_cons]
   have hx:x=b.getD 1 0:=by
    have e1:((b.drop 1).take (hdr b- 54- 1))[0]? =some x:=by rw [hb];rfl
    rw [List.getElem?_take,if_pos (by omega),List.getElem?_drop]at e1
    rw [List.getD_eq_getElem?_getD,e1];rfl
   have hx0:0<x.toNat:=by rw [hx];omega
   have hp:0<256^t.length:=Nat.pow_pos (by decide)
   have:=Nat.mul_pos hx0 hp
   omega
 ·have:=be_lt ((b.drop 1).take (hdr b- 54- 1))
  rw [hl]at this
  unfold lng
  refine Nat.lt_of_lt_of_le this ?_
  rw [show(2:Nat)^64=256^8 from by decide]
  exact Nat.pow_le_pow_right (by decide) (by omega)
theorem getD_part {b:List UInt8} {i k:Nat} (h:0<k):((b.drop i).take k).getD 0 0=b.getD i 0:=by
 rw [List.getD_eq_getElem?_getD,List.getElem?_take,if_pos h,List.getElem?_drop,List.getD_eq_getElem?_getD,Nat.add_zero]
def CutV (N:Heaplet) (r:Option (Bool×List UInt8×List UInt8)) (v:Value):Prop:=match r with
 |none=>v=.tuple #[.nilIface,.slice none 0 0]
 |some (isL,p,q)=> ∃a1 c1 a2 c2,v=.tuple #[.iface (if isL then 213 else 211) (.slice a1 p.length c1),.slice a2 q.length c2]∧RSl N 1 a1 p.length c1 (u8s p)∧RSl N 1 a2 q.length c2 (u8s q)
theorem cutv_mk {N:Heaplet} {isL:Bool} {p q:List UInt8} {T:TypeId} {a1 a2:Option Addr} {n1 n2 c1 c2:Nat} (hT:T=if isL then 213 else 211) (h1:RSl N 1 a1 n1 c1 (u8s p)) (h2:RSl N 1 a2 n2 c2 (u8s q)):CutV N (some (isL,p,q)) (.tuple #[.iface T (.slice a1 n1 c1),.slice a2 n2 c2]):=by
 have e1:=h1.len8
 have e2:=h2.len8
 subst e1;subst e2
 exact⟨a1,c1,a2,c2,by rw [hT],h1,h2⟩
theorem cut_f {N:Heaplet} {ao:Option Addr} {n cap:Nat} {b:List UInt8} (h:RSl N 1 ao n cap (u8s b)) (hn:n≤1099511627776):
 Fn Tryz.prog 140 #[.slice ao n cap] [] [N] (fun v L=>L= []∧ ∀M:Heaplet,RSl M 1 ao n cap (u8s b)→CutV M (cutF b) v):=by
 have hlen:=h.len8
 have hcap:=h.cap63
 refine Fn.enter (vs:= [.slice ao n cap]) Tryz.func140 U U U ?_
 intro E R hR
 have h:=h.le (hR N (by simp))
 have hb0:=(b.getD 0 0).toNat_lt
 have hd:hdr b=((b.getD 0 0).toNat- 128) % 64:=rfl
 have hn64:(UInt64.ofNat n).toNat=n:=by rw [UInt64.toNat_ofNat'];exact Nat.mod_eq_of_lt (by omega)
 change At _ _ E [R] _
 refine aC fun _ s_1=>aA (aG U U (aG U U (aB (s_1 (aC fun _ s_2=>aC fun _ s_3=>aA (aF U U (bG aD se22 U U (op_eql aD U U U (aB (s_3 (aO U (fun c11=>?_) (fun c11=>?_))))))))))))
 ·refine aC fun _ s_4=>aA (aG U U (aG U U (aB (s_4 (aR (aJ ((bV (L1:= []) U (.tmp U (.tmp U .nil)) U (.refl _) aM ?_))))))))
  exact⟨rfl,fun M hM=>by rw [cutF,if_pos (by omega)];rfl⟩
 refine aQ (aE (s_2 (aC fun _ s_5=>aA (aF U U (bU aD se22 U U (by assumption) (show _=((0:Nat):Int)from U) (by omega) U ?_)))))
 refine cC aD sc5 U (by assumption) (by first|exact get8 (by omega)|exact get64 (by omega)|exact get32 (by omega)) (by simp) U ?_
 refine op_convI aD (und_some Tryz.underlying5) Tryz.underlying3 U (by omega) (by omega) U (aG U U (aB (s_5 (aC fun _ s_6=>aC fun _ s_7=>aA (aF U U (op_lss aD U U U (aB (s_7 (aO U (fun c17=>?_) (fun c17=>?_))))))))))
 ·refine aC fun _ s_8=>At.drawn [] [0,1,2,3,4,5,6] (by kernel_rfl) (by kernel_rfl) (aL (aS U U U (by kernel_rfl)) U U (op_slice0 (aS U U U (by kernel_rfl)) se22 U (.some U (show _=((1:Nat):Int)from U)) .none (by omega) (by omega) (by simp) U (op_mkI (aS U U U (by kernel_rfl)) (by kernel_rfl) U U (aL (aS U U U (by kernel_rfl)) U U (op_slice (aS U U U (by kernel_rfl)) se22 U (.some U (show _=((1:Nat):Int)from U)) .none .none (by omega) (by omega) (by omega) (by simp) U (bX (aS U U U (by kernel_rfl)) U U (bX (aS U U U (by kernel_rfl)) U U (cG (aE (s_8 (aR (aJ ((bV (L1:= []) U (.tmp U (.tmp U .nil)) U (.refl _) aM (⟨rfl,fun M hM=>?_⟩)))))))))))))))
  rw [cutF,if_neg (by omega),if_pos (by omega)]
  exact cutv_mk U (hM.take8 (by omega) (by omega) (by omega)) (hM.drop8 (by omega))
 refine aQ (aE (s_6 (aC fun _ s_9=>aA (aF U U (op_subI aD U U (by omega) (by omega) U (op_rem aD U U (by omega) (by omega) U (aG U U (aG U U (aB (s_9 (aC fun _ s_10=>At.meet (fun fr_ hp_=> ∃(i m:Nat),fr_= [(0,.slice ao n cap),(4,.int .i64 ((b.getD 0 0).toNat:Int)),(5,.int .i64 (m:Int)),(6,.int .i64 (i:Int))]∧hp_= [R]∧(i≤n)∧(1≤i)∧(m≤1099511627776)∧(cutF b=cutAt b i m)) ?_ (fun K10_ jk_10=>?_))))))))))))
 rotate_left
 ·skip
  refine aC fun _ s_11=>aA (aF U U (op_gtr aD U U U (aB (s_11 (aO U (fun c27=>?_) (fun c27=>?_))))))
  ·refine aC fun _ s_12=>aA (aF U U (aF U U (op_subI aD U U (by omega) (by omega) U (a6 aD U U (by omega) (by omega) U (aG U U (aB (s_12 (aC fun _ s_13=>aC fun _ s_14=>aA (aF U U (bG aD se22 U U (aF U U (op_lss aD U U U (aF U U (cJ (d:=36) U (fun g36=>?_) (fun g36=>?_)))))))))))))))
   ·refine aU U U U U U U U (aU U U U U U U U (aU U U U U U U U (aU U U U U U U U (bO aD U U U (aB (s_14 (At.condT U (aC fun _ s_15=>aA (aG U U (aG U U (aB (s_15 (aR (aJ (aJ ((bV (L1:= []) U (.tmp U (.tmp U .nil)) U (.refl _) aM ?_)))))))))))))))))
    exact⟨rfl,fun M hM=>by rw [cutF,if_neg (by omega),if_neg (by omega),if_neg (by omega),if_pos (.inl (by omega))];rfl⟩
   refine aL (cL U U U U) U U (bU (cL U U U U) se22 U U (by assumption) (show _=((1:Nat):Int)from U) (by omega) U ?_)
   refine cC (cL U U U U) sc5 U (by assumption) (by first|exact get8 (by omega)|exact get64 (by omega)|exact get32 (by omega)) (by simp) U ?_
   refine op_eql (cL U U U U) U U U (cB aD U U U (aB (s_14 (aO U (fun c41=>?_) (fun c41=>?_)))))
   ·refine aC fun _ s_16=>aA (aG U U (aG U U (aB (s_16 (aR (aJ (aJ ((bV (L1:= []) U (.tmp U (.tmp U .nil)) U (.refl _) aM ?_)))))))))
    exact⟨rfl,fun M hM=>by rw [cutF,if_neg (by omega),if_neg (by omega),if_neg (by omega),if_pos (.inr (by omega))];rfl⟩
   refine aQ (aE (s_13 (aC fun _ s_17=>aA (aF U U (aF U U (op_slice aD se22 U (.some U (show _=((1:Nat):Int)from U)) (.some U (show _=(((hdr b- 54:Nat)):Int)from by omega)) .none (by omega) (by omega) (by omega) (by simp) U ?_))))))
   refine aH aZ (.cons U .nil) (From_f (h.part8 (lo:=1) (hi:=hdr b- 54) (m:=cap) (by omega) (by omega) (by omega) (by omega)) (by omega)) Tryz.func168 U U (by simp) U ?_
   rintro _ _ ⟨M45,a45,rfl,rfl,s45⟩
   show At _ _ _ [M45,R] _
   have hl:=lng_pos (b:=b) (by omega) (by omega) (by omega)
   change RSl M45 1 a45 (limbsOf (lng b)).length (limbsOf (lng b)).length (u64s (limbsOf (lng b)))at s45
   change At _ ((45,.slice a45 (limbsOf (lng b)).length (limbsOf (lng b)).length)::_) _ [M45,R] _
   have hx:([UInt64.ofNat (lng b)].getD 0 0).toNat=lng b:=by rw [show [UInt64.ofNat (lng b)].getD 0 0=UInt64.ofNat (lng b)from rfl,UInt64.toNat_ofNat'];exact Nat.mod_eq_of_lt hl.2
   rw [limbs_one hl.1 hl.2]at s45⊢
   have hl1: [UInt64.ofNat (lng b)].length=1:=rfl
   refine aG U U (aB (s_17 (aC fun _ s_18=>aC fun _ s_19=>aA (aF U U (bG aD se200 U U (op_gtr aD U U U (aF U U (cJ (d:=49) U (fun g49=>?_) (fun g49=>?_)))))))))
   ·exfalso;omega
   refine aL (cL U U U U) U U (bU (cL U U U U) se200 U U (by assumption) (show _=((0:Nat):Int)from U) (by omega) U ?_)
   refine cC (cL U U U U) sc24 U (by assumption) (by first|exact get8 (by omega)|exact get64 (by omega)|exact get32 (by omega)) (by simp) U ?_
   refine op_leq (cL U U U U) U U U (cB aD U U U (aF U U (cJ (d:=55) U (fun g55=>?_) (fun g55=>?_))))
   ·refine aU U U U U U U U (aU U U U U U U U (aU U U U U U U U (aU U U U U U U U (aU U U U U U U U (aU U U U U U U U (aU U U U U U U U (bO aD U U U (aB (s_19 (At.condT U (aC fun _ s_20=>aA (aG U U (aG U U (aB (s_20 (aR (aJ (aJ ((bP (bV (L1:= []) U (.tmp U (.tmp U .nil)) U (.refl _) aM ?_)))))))))))))))))))))
    exact⟨rfl,fun M hM=>by rw [cutF,if_neg (by omega),if_neg (by omega),if_neg (by omega),if_neg (by omega),if_pos (.inl (by omega))];rfl⟩
   refine aL (cL U U U U) U U (bU (cL U U U U) se200 U U (by assumption) (show _=((0:Nat):Int)from U) (by omega) U ?_)
   refine cC (cL U U U U) sc24 U (by assumption) (by first|exact get8 (by omega)|exact get64 (by omega)|exact get32 (by omega)) (by simp) U ?_
   refine aL (cL U U U U) U U (bG (cL U U U U) se22 U U (op_conv64 (cL U U U U) (und_some Tryz.underlying3) Tryz.underlying24 U (by first|rfl|exact(Int.toNat_of_nonneg (by omega)).symm) U ?_))
   refine op_gtr (cL U U U U) U U U (cB aD U U U (aB (s_19 (aO U (fun c63=>?_) (fun c63=>?_)))))
   ·refine aC fun _ s_21=>aA (aG U U (aG U U (aB (s_21 (aR (aJ (aJ ((bP (bV (L1:= []) U (.tmp U (.tmp U .nil)) U (.refl _) aM ?_))))))))))
    exact⟨rfl,fun M hM=>by rw [cutF,if_neg (by omega),if_neg (by omega),if_neg (by omega),if_neg (by omega),if_pos (.inr (by omega))];rfl⟩
   refine aQ (aE (s_18 (aA (aF U U (bU aD se200 U U (by assumption) (show _=((0:Nat):Int)from U) (by omega) U ?_)))))
   refine cC aD sc24 U (by assumption) (by first|exact get8 (by omega)|exact get64 (by omega)|exact get32 (by omega)) (by simp) U ?_
   refine op_convI aD (und_some Tryz.underlying24) Tryz.underlying3 U (by omega) (by omega) U (aG U U (At.opsNil (bP (aE (jk_10 ?_ aM ⟨hdr b- 54,lng b,rfl,rfl,by omega,by omega,by omega,by rw [cutF,if_neg (by omega),if_neg (by omega),if_neg (by omega),if_neg (by omega),if_neg (by omega)]⟩)))))
   repeat first|apply bD|exact .nil|exact lkI rfl (by omega)|rfl
  refine aQ (aE (jk_10 ?_ aM ⟨1,hdr b,rfl,rfl,by omega,by omega,by omega,by rw [cutF,if_neg (by omega),if_neg (by omega),if_pos (by omega)]⟩))
  repeat first|apply bD|exact .nil|exact lkI rfl (by omega)|rfl
 rintro _ _ ⟨i,m,rfl,rfl,hi,hi0,hm,hc⟩
 refine s_10 (aC fun _ s_22=>aC fun _ s_23=>aA (aF U U (aF U U (bG aD se22 U U (aF U U (op_subI aD U U (by omega) (by omega) U (op_gtr aD U U U (aB (s_23 (aO U (fun c73=>?_) (fun c73=>?_)))))))))))
 ·refine aC fun _ s_24=>aA (aG U U (aG U U (aB (s_24 (aR (aJ ((bV (L1:= []) U (.tmp U (.tmp U .nil)) U (.refl _) aM ?_))))))))
  exact⟨rfl,fun M hM=>by rw [hc,cutAt,if_pos (by omega)];rfl⟩
 refine aQ (aE (s_22 (aC fun _ s_25=>aA (aF U U (aF U U (aF U U (aF U U (a6 aD U U (by omega) (by omega) U (op_slice aD se22 U (.some U (show _=(((i:Nat)):Int)from by omega)) (.some U (show _=(((i+m:Nat)):Int)from by omega)) .none (by omega) (by omega) (by omega) (by simp) U ?_)))))))))
 have s79:=h.part8 (lo:=i) (hi:=i+m) (m:=cap) (by omega) (by omega) (by omega) (by omega)
 have l79:=s79.len8
 refine aG U U (aB (s_25 (aC fun _ s_26=>aT (aC fun _ s_27=>aA (aF U U (op_geq aD U U U (aG U U (aB (s_27 (aO U (fun c80=>?_) (fun c80=>?_)))))))))))
 ·refine aC fun _ s_28=>At.drawn [] [0,1,2,3,4,5,6,7,8] (by kernel_rfl) (by kernel_rfl) (aL (aS U U U (by kernel_rfl)) U U (op_mkI (aS U U U (by kernel_rfl)) (by kernel_rfl) U U (aL (aS U U U (by kernel_rfl)) U U (aL (aS U U U (by kernel_rfl)) U U (aL (aS U U U (by kernel_rfl)) U U (a6 (aS U U U (by kernel_rfl)) U U (by omega) (by omega) U (op_slice (aS U U U (by kernel_rfl)) se22 U (.some U (show _=(((i+m:Nat)):Int)from by omega)) .none .none (by omega) (by omega) (by omega) (by simp) U ?_)))))))
  refine bX (aS U U U (by kernel_rfl)) U U (bX (aS U U U (by kernel_rfl)) U U (cG (aE (s_28 (aR (b9 (aJ ((bV (L1:= []) U (.tmp U (.tmp U .nil)) U (.refl _) aM (⟨rfl,fun M hM=>?_⟩))))))))))
  rw [hc,cutAt,if_neg (by omega),if_pos (by omega)]
  have e:=hM.part8 (lo:=i) (hi:=i+m) (m:=cap) (by omega) (by omega) (by omega) (by omega)
  rw [show i+m- i=m by omega]at e⊢
  exact cutv_mk U e (hM.drop8 (by omega))
 refine aC fun _ s_29=>aA (aF U U (op_eql aD U U U (aF U U (cJ (d:=93) U (fun g93=>?_) (fun g93=>?_)))))
 ·refine aL (cL U U U U) U U (bU (cL U U U U) se22 U U (by assumption) (show _=((0:Nat):Int)from U) (by omega) U ?_)
  refine cC (cL U U U U) sc5 U (by assumption) (by first|exact get8 (by omega)|exact get64 (by omega)|exact get32 (by omega)) (by simp) U ?_
  refine op_lss (cL U U U U) U U U (bO aD U U U (aG U U (aB (s_29 (aO U (fun c90=>?_) (fun c90=>?_))))))
  ·refine aC fun _ s_30=>aA (aG U U (aG U U (aB (s_30 (aR (b9 (aJ ((bV (L1:= []) U (.tmp U (.tmp U .nil)) U (.refl _) aM ?_)))))))))
   exact⟨rfl,fun M hM=>by rw [hc,cutAt,if_neg (by omega),if_neg (by omega),if_pos ⟨by omega,by rw [getD_part (by omega)]at c90;omega⟩];rfl⟩
  refine aQ (a0 (aE (s_26 (aC fun _ s_31=>At.drawn [] [0,1,2,3,4,5,6,7,8] (by kernel_rfl) (by kernel_rfl) (aL (aS U U U (by kernel_rfl)) U U (op_mkI (aS U U U (by kernel_rfl)) (by kernel_rfl) U U (aL (aS U U U (by kernel_rfl)) U U (aL (aS U U U (by kernel_rfl)) U U (aL (aS U U U (by kernel_rfl)) U U (a6 (aS U U U (by kernel_rfl)) U U (by omega) (by omega) U (op_slice (aS U U U (by kernel_rfl)) se22 U (.some U (show _=(((i+m:Nat)):Int)from by omega)) .none .none (by omega) (by omega) (by omega) (by simp) U ?_)))))))))))
  refine bX (aS U U U (by kernel_rfl)) U U (bX (aS U U U (by kernel_rfl)) U U (cG (aE (s_31 (aR ((bV (L1:= []) U (.tmp U (.tmp U .nil)) U (.refl _) aM (⟨rfl,fun M hM=>?_⟩))))))))
  rw [getD_part (by omega)]at c90
  rw [hc,cutAt,if_neg (by omega),if_neg (by omega),if_neg (by omega)]
  have e:=hM.part8 (lo:=i) (hi:=i+m) (m:=cap) (by omega) (by omega) (by omega) (by omega)
  rw [show i+m- i=m by omega]at e⊢
  exact cutv_mk U e (hM.drop8 (by omega))
 refine aU U U U U U U U (aU U U U U U U U (aU U U U U U U U (aU U U U U U U U (cB aD U U U (aG U U (aB (s_29 (At.condF U (aQ (a0 (aE (s_26 (aC fun _ s_32=>At.drawn [] [0,1,2,3,4,5,6,7,8] (by kernel_rfl) (by kernel_rfl) (aL (aS U U U (by kernel_rfl)) U U (op_mkI (aS U U U (by kernel_rfl)) (by kernel_rfl) U U (aL (aS U U U (by kernel_rfl)) U U (aL (aS U U U (by kernel_rfl)) U U (aL (aS U U U (by kernel_rfl)) U U (a6 (aS U U U (by kernel_rfl)) U U (by omega) (by omega) U (op_slice (aS U U U (by kernel_rfl)) se22 U (.some U (show _=(((i+m:Nat)):Int)from by omega)) .none .none (by omega) (by omega) (by omega) (by simp) U ?_))))))))))))))))))))
 refine bX (aS U U U (by kernel_rfl)) U U (bX (aS U U U (by kernel_rfl)) U U (cG (aE (s_32 (aR ((bV (L1:= []) U (.tmp U (.tmp U .nil)) U (.refl _) aM (⟨rfl,fun M hM=>?_⟩))))))))
 rw [hc,cutAt,if_neg (by omega),if_neg (by omega),if_neg (by omega)]
 have e:=hM.part8 (lo:=i) (hi:=i+m) (m:=cap) (by omega) (by omega) (by omega) (by omega)
 rw [show i+m- i=m by omega]at e⊢
 exact cutv_mk U e (hM.drop8 (by omega))
inductive It where
 |mk (list:Bool) (bytes:List UInt8) (items:List It)
mutual
def It.form:It→List UInt8
 |.mk false bs _=>match bs with
  | [x]=>if x<128 then [x]else rlpHead 128 1++ [x]
  |bs=>rlpHead 128 bs.length++bs
 |.mk true _ its=>rlpHead 192 (It.forms its).length++It.forms its
def It.forms:List It→List UInt8
 | []=> []
 |t::ts=>It.form t++It.forms ts
end
mutual
def It.depth:It→Nat
 |.mk false _ _=>0
 |.mk true _ its=>It.depths its+1
def It.depths:List It→Nat
 | []=>0
 |t::ts=>max (It.depth t) (It.depths ts)
end
mutual
theorem It.ind_it {P:It→Prop} (h: ∀l bs its,(∀t∈its,P t)→P (.mk l bs its)): ∀t,P t
 |.mk l bs its=>h l bs its (It.ind_its h its)
theorem It.ind_its {P:It→Prop} (h: ∀l bs its,(∀t∈its,P t)→P (.mk l bs its)): ∀its:List It, ∀t∈its,P t
 | [],_,ht=>by cases ht
 |x::xs,t,ht=>by
  rcases List.mem_cons.1 ht with e|ht
  ·rw [e];exact It.ind_it h x
  ·exact It.ind_its h xs t ht
end
theorem forms_append (a b:List It):It.forms (a++b)=It.forms a++It.forms b:=by
 induction a with
 |nil=>rfl
 |cons t ts ih=>simp only [List.cons_append,It.forms,ih,List.append_assoc]
theorem forms_take_succ {its:List It} {k:Nat} {t:It} (h:its[k]? =some t):It.forms (its.take (k+1))=It.forms (its.take k)++t.form:=by
 obtain⟨hlt,rfl⟩:=List.getElem?_eq_some_iff.1 h
 rw [List.take_succ_eq_append_getElem hlt,forms_append]
 simp [It.forms]
theorem forms_take_le (its:List It) (k:Nat):(It.forms (its.take k)).length≤(It.forms its).length:=by
 conv=>rhs;rw [←List.take_append_drop k its]
 rw [forms_append,List.length_append]
 omega
theorem form_le {its:List It} {t:It} (h:t∈its):t.form.length≤(It.forms its).length:=by
 obtain⟨a,b,rfl⟩:=List.append_of_mem h
 rw [forms_append,It.forms]
 simp
 omega
theorem depths_le {its:List It} {d:Nat} :It.depths its≤d↔ ∀t∈its,t.depth≤d:=by
 induction its with
 |nil=>simp [It.depths]
 |cons t ts ih=>simp [It.depths,Nat.max_le,ih]
def small:List UInt8→Bool
 | [x]=>decide (x<128)
 |_=>false
theorem form_false (bs:List UInt8) (its:List It):(It.mk false bs its).form=if small bs then bs else rlpHead 128 bs.length++bs:=by
 cases bs with
 |nil=>simp [It.form,small]
 |cons x xs=>
  cases xs with
  |nil=>simp [It.form,small]
  |cons y ys=>simp [It.form,small]
theorem form_true (bs:List UInt8) (its:List It):(It.mk true bs its).form=rlpHead 192 (It.forms its).length++It.forms its:=by simp [It.form]
theorem small_iffI {bs:List UInt8} :small bs=true↔bs.length=1∧(bs.getD 0 0).toNat<128:=by
 cases bs with
 |nil=>simp [small]
 |cons x xs=>
  cases xs with
  |nil=>simp [small,UInt8.lt_iff_toNat_lt]
  |cons y ys=>simp [small]
theorem one_eq {bs:List UInt8} (h:bs.length=1):bs= [bs.getD 0 0]:=by
 cases bs with
 |nil=>simp at h
 |cons x xs=>cases xs with
  |nil=>rfl
  |cons y ys=>simp at h
structure IV where
 l:Bool
 ab:Option Addr
 nb:Nat
 cb:Nat
 ai:Option Addr
 ni:Nat
 ci:Nat
def IV.cells (x:IV):List Value:= [.bool x.l,.slice x.ab x.nb x.cb,.slice x.ai x.ni x.ci]
def cellsI (xs:List IV):List Value:=xs.flatMap IV.cells
theorem length_cellsI (xs:List IV):(cellsI xs).length=xs.length*3:=by
 induction xs with
 |nil=>rfl
 |cons x t ih=>simp only [cellsI,List.flatMap_cons,List.length_append,List.length_cons]at ih⊢;rw [ih];simp [IV.cells];omega
theorem cells_at {xs:List IV} {k:Nat} {x:IV} (h:xs[k]? =some x):((cellsI xs).drop (k*3)).take 3= [.bool x.l,.slice x.ab x.nb x.cb,.slice x.ai x.ni x.ci]:=by
 induction xs generalizing k with
 |nil=>simp at h
 |cons y t ih=>
  cases k with
  |zero=>simp at h;subst h;simp [cellsI,IV.cells]
  |succ k=>
   have:=ih (k:=k) (by simpa using h)
   rw [←this]
   have e:cellsI (y::t)=y.cells++cellsI t:=by simp [cellsI]
   have hl:y.cells.length=3:=rfl
   rw [e,show(k+1)*3=y.cells.length+k*3 from by rw [hl];omega,List.drop_append,List.drop_eq_nil_of_le (by omega),List.nil_append,Nat.add_sub_cancel_left]
mutual
def ItN (N:Heaplet):It→IV→Prop
 |.mk l bs its,x=>x.l=l∧RSl N 1 x.ab x.nb x.cb (u8s bs)∧ ∃xs,RSl N 3 x.ai x.ni x.ci (cellsI xs)∧ItsN N its xs
def ItsN (N:Heaplet):List It→List IV→Prop
 | [],xs=>xs= []
 |t::ts,xs=> ∃x r,xs=x::r∧ItN N t x∧ItsN N ts r
end
mutual
theorem ItN.le {N M:Heaplet} (hl:N.le M): ∀ {t:It} {x:IV},ItN N t x→ItN M t x
 |.mk l bs its,x,h=>by
  simp only [ItN]at h⊢
  obtain⟨h1,h2,xs,h3,h4⟩:=h
  exact⟨h1,h2.le hl,xs,h3.le hl,ItsN.le hl h4⟩
theorem ItsN.le {N M:Heaplet} (hl:N.le M): ∀ {ts:List It} {xs:List IV},ItsN N ts xs→ItsN M ts xs
 | [],xs,h=>h
 |t::ts,xs,h=>by
  simp only [ItsN]at h⊢
  obtain⟨x,r,e,h1,h2⟩:=h
  exact⟨x,r,e,ItN.le hl h1,ItsN.le hl h2⟩
end
theorem ItsN.length {N:Heaplet} : ∀ {ts:List It} {xs:List IV},ItsN N ts xs→xs.length=ts.length
 | [],xs,h=>by simp only [ItsN]at h;subst h;rfl
 |t::ts,xs,h=>by
  simp only [ItsN]at h
  obtain⟨x,r,rfl,_,h2⟩:=h
  simp [h2.length]
theorem ItsN.get {N:Heaplet} : ∀ {ts:List It} {xs:List IV} {k:Nat} {t:It},ItsN N ts xs→ts[k]? =some t→ ∃x,xs[k]? =some x∧ItN N t x
 | [],xs,k,t,_,h=>by simp at h
 |t'::ts,xs,0,t,h,hk=>by
  simp only [ItsN]at h
  obtain⟨x,r,rfl,h1,_⟩:=h
  simp at hk;subst hk
  exact⟨x,rfl,h1⟩
 |t'::ts,xs,k+1,t,h,hk=>by
  simp only [ItsN]at h
  obtain⟨x,r,rfl,_,h2⟩:=h
  obtain⟨y,hy,hi⟩:=h2.get (k:=k) (by simpa using hk)
  exact⟨y,by simpa using hy,hi⟩
theorem ItsN.snoc {N:Heaplet} : ∀ {ts:List It} {xs:List IV} {t:It} {x:IV},ItsN N ts xs→ItN N t x→ItsN N (ts++ [t]) (xs++ [x])
 | [],xs,t,x,h,hi=>by simp only [ItsN]at h;subst h;exact⟨x,[],rfl,hi,rfl⟩
 |t'::ts,xs,t,x,h,hi=>by
  simp only [ItsN]at h
  obtain⟨y,r,rfl,h1,h2⟩:=h
  exact⟨y,r++ [x],rfl,h1,h2.snoc hi⟩
theorem ItN.mk {N:Heaplet} {l:Bool} {bs:List UInt8} {its:List It} {ab ai:Option Addr} {nb cb ni ci:Nat} {xs:List IV} (h1:RSl N 1 ab nb cb (u8s bs)) (h2:RSl N 3 ai ni ci (cellsI xs)) (h3:ItsN N its xs):ItN N (.mk l bs its) ⟨l,ab,nb,cb,ai,ni,ci⟩:=⟨rfl,h1,xs,h2,h3⟩
def exMap {α:Type} (f:List α→List α):Except Nat (List α)→Except Nat (List α)
 |.ok l=>.ok (f l)
 |.error e=>.error e
def itemsF (dec:List UInt8→Except Nat (It×List UInt8)):Nat→List UInt8→Except Nat (List It)
 |_,[]=>.ok []
 |0,_::_=>.error 2
 |f+1,c::b=>match dec (c::b)with
  |.error e=>.error e
  |.ok (t,q)=>exMap (t:: ·) (itemsF dec f q)
def itF (dec:List UInt8→Except Nat (It×List UInt8)) (b:List UInt8):Except Nat (List It):=itemsF dec b.length b
def decF:Nat→List UInt8→Except Nat (It×List UInt8)
 |0,b=>match cutF b with
  |none=>.error 2
  |some (false,p,r)=>.ok (.mk false p [],r)
  |some (true,_,_)=>.error 7
 |k+1,b=>match cutF b with
  |none=>.error 2
  |some (false,p,r)=>.ok (.mk false p [],r)
  |some (true,p,r)=>match itF (decF k) p with
   |.error e=>.error e
   |.ok its=>.ok (.mk true [] its,r)
theorem cutAt_len {b:List UInt8} {i n:Nat} (hi:i≤b.length) {l:Bool} {p r:List UInt8} (h:cutAt b i n=some (l,p,r)):i+p.length+r.length=b.length:=by
 unfold cutAt at h
 split at h
 ·cases h
 ·rename_i h1
  split at h
  ·cases h;rw [List.length_take,List.length_drop,List.length_drop];omega
  ·split at h
   ·cases h
   ·cases h;rw [List.length_take,List.length_drop,List.length_drop];omega
theorem cutF_len {b:List UInt8} {l:Bool} {p r:List UInt8} (h:cutF b=some (l,p,r)):p.length≤b.length∧r.length<b.length:=by
 unfold cutF at h
 split at h
 ·cases h
 ·rename_i h0
  split at h
  ·cases h;rw [List.length_take,List.length_drop];omega
  ·split at h
   ·have:=cutAt_len (by omega) h;omega
   ·rename_i h55
    split at h
    ·cases h
    ·rename_i h2
     split at h
     ·cases h
     ·have:=cutAt_len (by omega) h;omega
theorem decF_lt {k:Nat} {b q:List UInt8} {t:It} (h:decF k b=.ok (t,q)):q.length<b.length:=by
 cases k with
 |zero=>
  unfold decF at h
  split at h
  ·cases h
  ·rename_i hc;cases h;exact(cutF_len hc).2
  ·cases h
 |succ k=>
  unfold decF at h
  split at h
  ·cases h
  ·rename_i hc;cases h;exact(cutF_len hc).2
  ·rename_i hc
   split at h
   ·cases h
   ·cases h;exact(cutF_len hc).2
theorem itemsF_fuel {dec:List UInt8→Except Nat (It×List UInt8)} (hd: ∀b t q,dec b=.ok (t,q)→q.length<b.length): ∀(f g:Nat) (b:List UInt8),b.length≤f→b.length≤g→itemsF dec f b=itemsF dec g b:=by
 intro f
 induction f with
 |zero=>
  intro g b hf hg
  cases b with
  |nil=>cases g<;>rfl
  |cons c b=>simp at hf
 |succ f ih=>
  intro g b hf hg
  cases b with
  |nil=>cases g<;>rfl
  |cons c b=>
   cases g with
   |zero=>simp at hg
   |succ g=>
    simp only [itemsF]
    cases hc:dec (c::b)with
    |error e=>rfl
    |ok tq=>
     obtain⟨t,q⟩:=tq
     have:=hd _ _ _ hc
     simp only [List.length_cons]at this hf hg
     simp only
     rw [ih g q (by omega) (by omega)]
theorem itF_nil (dec:List UInt8→Except Nat (It×List UInt8)):itF dec []=.ok []:=rfl
theorem itF_error {dec:List UInt8→Except Nat (It×List UInt8)} {b:List UInt8} {e:Nat} (h0:0<b.length) (h:dec b=.error e):itF dec b=.error e:=by
 cases b with
 |nil=>simp at h0
 |cons c b=>unfold itF;simp only [List.length_cons,itemsF,h]
theorem itF_ok {dec:List UInt8→Except Nat (It×List UInt8)} (hd: ∀b t q,dec b=.ok (t,q)→q.length<b.length) {b q:List UInt8} {t:It} (h0:0<b.length) (h:dec b=.ok (t,q)):itF dec b=exMap (t:: ·) (itF dec q):=by
 cases b with
 |nil=>simp at h0
 |cons c b=>
  have:=hd _ _ _ h
  simp only [List.length_cons]at this
  unfold itF
  simp only [List.length_cons,itemsF,h]
  rw [itemsF_fuel hd b.length q.length q (by omega) (Nat.le_refl _)]
theorem exMap_map {α:Type} (f g:List α→List α) (r:Except Nat (List α)):exMap f (exMap g r)=exMap (fun l=>f (g l)) r:=by cases r<;>rfl
open Go Go.RowKit
set_option maxRecDepth 100000
def DecP (ao:Option Addr) (n cap:Nat) (b:List UInt8) (r:Except Nat (It×List UInt8)) (v:Value) (L:List Heaplet):Prop:=
 (∃t q M, ∃x:IV, ∃aq cq,r=.ok (t,q)∧v=.tuple #[.agg #[.bool x.l,.slice x.ab x.nb x.cb,.slice x.ai x.ni x.ci],.slice aq q.length cq,.int .i64 0]∧L= [M]∧ItN M t x∧ ∀N,RSl N 1 ao n cap (u8s b)→RSl N 1 aq q.length cq (u8s q))∨
 (∃e:Nat,r=.error e∧v=.tuple #[.agg #[.bool false,.slice none 0 0,.slice none 0 0],.slice none 0 0,.int .i64 (e:Int)]∧L= []∧e≠0)
theorem cut_none {N:Heaplet} {ao:Option Addr} {n cap:Nat} {b:List UInt8} (h:RSl N 1 ao n cap (u8s b)) (hn:n≤1099511627776) (hc:cutF b=none):
 Fn Tryz.prog 140 #[.slice ao n cap] [] [N] (fun v L=>v=.tuple #[.nilIface,.slice none 0 0]∧L= []):=
 (cut_f h hn).mono fun v L ⟨h1,h2⟩=>⟨by have:=h2 N h;rw [hc]at this;exact this,h1⟩
theorem cut_some {N:Heaplet} {ao:Option Addr} {n cap:Nat} {b p q:List UInt8} {l:Bool} (h:RSl N 1 ao n cap (u8s b)) (hn:n≤1099511627776) (hc:cutF b=some (l,p,q)):
 Fn Tryz.prog 140 #[.slice ao n cap] [] [N] (fun v L=> ∃a1 c1 a2 c2,v=.tuple #[.iface (if l then 213 else 211) (.slice a1 p.length c1),.slice a2 q.length c2]∧L= []∧RSl N 1 a1 p.length c1 (u8s p)∧ ∀M,RSl M 1 ao n cap (u8s b)→RSl M 1 a2 q.length c2 (u8s q)):=
 (cut_f h hn).mono fun v L ⟨h1,h2⟩=>by
  have h3:=h2 N h
  rw [hc]at h3
  obtain⟨a1,c1,a2,c2,rfl,h4,h5⟩:=h3
  refine⟨a1,c1,a2,c2,rfl,h1,h4,fun M hM=>?_⟩
  have h6:=h2 M hM
  rw [hc]at h6
  obtain⟨_,_,a2',c2',e,_,h7⟩:=h6
  simp only [Value.tuple.injEq,List.toArray_inj,Array.mk.injEq,List.cons.injEq,Value.iface.injEq,Value.slice.injEq,true_and,and_true]at e
  obtain⟨_,rfl,rfl⟩:=e
  exact h7
theorem decode_none {N:Heaplet} {ao:Option Addr} {n cap:Nat} {b:List UInt8} (h:RSl N 1 ao n cap (u8s b)) (hn:n≤1099511627776) (hc:cutF b=none) (k:Nat) (q:Int):
 Fn Tryz.prog 87 #[.slice ao n cap,.int .i64 q] [] [N] (DecP ao n cap b (decF k b)):=by
 have hd:decF k b=.error 2:=by cases k<;>simp [decF,hc]
 refine Fn.enter (vs:= [.slice ao n cap,.int .i64 q]) Tryz.func87 U U U ?_
 intro E R hR
 have h:=h.le (hR N (by simp))
 change At _ _ E [R] _
 refine aC fun _ s_1=>aA (bE aZ ze91 U (fun N4 b4 B4=>?_))
 change Blk N4 b4 _ [.bool false,.slice none 0 0,.slice none 0 0]at B4
 refine aG U U (aG U U (aB (s_1 (aC fun _ s_2=>aA (aF U U (aH aZ (.cons U .nil) (cut_none h hn hc) Tryz.func140 U U (by simp) U ?_))))))
 rintro _ _ ⟨rfl,rfl⟩
 show At _ _ _ [N4,R] _
 refine aF U U (aN aD U U U (aN aD U U U (aG U U (aG U U (aB (s_2 (aC fun _ s_3=>aC fun _ s_4=>aA (aF U U (op_eqNilT aD (by kernel_rfl) U U (aB (s_4 (At.condT U (aC fun _ s_5=>aA (op_build (out:= [.bool false,.slice none 0 0,.slice none 0 0]) aD ze91 pl91 .nil U U (aX nxQ sz91 U U U U U B4 (by simp) sel0 (fun N4 B4=>?_))))))))))))))))
 simp only [setL,List.set]at B4
 refine aG U U (aG U U (aB (s_5 (aR (aJ ((bV (L1:= []) U (.cell U (res_agg (ds:= [_,_,_]) ag91 B4 U U bZ) (.tmp U (.tmp U .nil))) U (.cons _ (.refl _)) aM ?_)))))))
 exact .inr ⟨2,hd,rfl,rfl,by decide⟩
theorem decode_text {N:Heaplet} {ao:Option Addr} {n cap:Nat} {b p r:List UInt8} (h:RSl N 1 ao n cap (u8s b)) (hn:n≤1099511627776) (hc:cutF b=some (false,p,r)) (k:Nat) (q:Int):
 Fn Tryz.prog 87 #[.slice ao n cap,.int .i64 q] [] [N] (DecP ao n cap b (decF k b)):=by
 have hd:decF k b=.ok (.mk false p [],r):=by cases k<;>simp [decF,hc]
 have hlen:=h.len8
 have hcl:=(cutF_len hc).1
 refine Fn.enter (vs:= [.slice ao n cap,.int .i64 q]) Tryz.func87 U U U ?_
 intro E R hR
 have h:=h.le (hR N (by simp))
 change At _ _ E [R] _
 refine aC fun _ s_1=>aA (bE aZ ze91 U (fun N4 b4 B4=>?_))
 change Blk N4 b4 _ [.bool false,.slice none 0 0,.slice none 0 0]at B4
 refine aG U U (aG U U (aB (s_1 (aC fun _ s_2=>aA (aF U U (aH aZ (.cons U .nil) (cut_some h hn hc) Tryz.func140 U U (by simp) U ?_))))))
 rintro _ _ ⟨a1,c1,a2,c2,rfl,rfl,h1,h2⟩
 show At _ _ _ [N4,R] _
 refine aF U U (aN aD U U U (aN aD U U U (aG U U (aG U U (aB (s_2 (aC fun _ s_3=>aC fun _ s_4=>aA (aF U U (op_eqNilF aD (by kernel_rfl) U U (aB (s_4 (At.condF U (aQ (aE (s_3 (aC fun _ s_5=>aC fun _ s_6=>aA (aF U U (op_assertY aD (by kernel_rfl) U U (aF U U (aN aD U U U (aN aD U U U (aG U U (aG U U (aB (s_6 (aC fun _ s_7=>aA (aF U U (aB (s_7 (At.condT U (aC fun _ s_8=>aA (aF U U ?_))))))))))))))))))))))))))))))))
 refine op_append0 aZ Tryz.underlying22 Tryz.underlying211 te5 rfl rfl (by assumption) (by simp) (by first|exact one_u8s _|exact one_u64s _|exact one_u32s _|(intro u hu;simp at hu;subst hu;rfl)) (by omega) (by omega) rfl (fun N31 a31 p31 r31=>?_)
 have s31:=r31.rsl
 refine op_build (out:= [.bool false,_,.slice none 0 0]) aD ze91 pl91 (.cons U .nil) U U (aF U U (aX nxQ sz91 U U U U U B4 (by simp) sel1 (fun N4 B4=>?_)))
 simp only [setL,List.set]at B4
 refine aG U U (aG U U (aB (s_8 (aR (aJ ((bV (L1:= [N31]) U (.cell U (res_agg (ds:= [_,_,_]) ag91 B4 U U bZ) (.tmp U (.tmp U .nil))) U (.cons _ (.refl _)) aM ?_)))))))
 exact .inl ⟨_,_,N31,⟨false,a31,p.length,p31,none,0,0⟩,a2,c2,hd,rfl,rfl,ItN.mk s31 (xs:= []) (RSl.nil _ _) rfl,h2⟩
theorem decode_deep {N:Heaplet} {ao:Option Addr} {n cap:Nat} {b p r:List UInt8} (h:RSl N 1 ao n cap (u8s b)) (hn:n≤1099511627776) (hc:cutF b=some (true,p,r)):
 Fn Tryz.prog 87 #[.slice ao n cap,.int .i64 1024] [] [N] (DecP ao n cap b (decF 0 b)):=by
 have hd:decF 0 b=.error 7:=by simp [decF,hc]
 refine Fn.enter (vs:= [.slice ao n cap,.int .i64 1024]) Tryz.func87 U U U ?_
 intro E R hR
 have h:=h.le (hR N (by simp))
 change At _ _ E [R] _
 refine aC fun _ s_1=>aA (bE aZ ze91 U (fun N4 b4 B4=>?_))
 change Blk N4 b4 _ [.bool false,.slice none 0 0,.slice none 0 0]at B4
 refine aG U U (aG U U (aB (s_1 (aC fun _ s_2=>aA (aF U U (aH aZ (.cons U .nil) (cut_some h hn hc) Tryz.func140 U U (by simp) U ?_))))))
 rintro _ _ ⟨a1,c1,a2,c2,rfl,rfl,h1,h2⟩
 show At _ _ _ [N4,R] _
 refine aF U U (aN aD U U U (aN aD U U U (aG U U (aG U U (aB (s_2 (aC fun _ s_3=>aC fun _ s_4=>aA (aF U U (op_eqNilF aD (by kernel_rfl) U U (aB (s_4 (At.condF U (aQ (aE (s_3 (aC fun _ s_5=>aC fun _ s_6=>aA (aF U U (op_assertN aD (by kernel_rfl) ze211 U U U (aF U U (aN aD U U U (aN aD U U U (aG U U (aG U U (aB (s_6 (aC fun _ s_7=>aA (aF U U (aB (s_7 (At.condF U (aQ (aE (s_5 (aC fun _ s_8=>aC fun _ s_9=>aA (aF U U ?_)))))))))))))))))))))))))))))))))))
 refine op_eql aD U U U (aB (s_9 (aO U (fun c35=>?_) (fun c35=>?_))))
 rotate_left
 ·exact absurd U c35
 refine aC fun _ s_10=>aA (op_build (out:= [.bool false,.slice none 0 0,.slice none 0 0]) aD ze91 pl91 .nil U U (aX nxQ sz91 U U U U U B4 (by simp) sel0 (fun N4 B4=>?_)))
 simp only [setL,List.set]at B4
 refine aG U U (aG U U (aB (s_10 (aR (aJ ((bV (L1:= []) U (.cell U (res_agg (ds:= [_,_,_]) ag91 B4 U U bZ) (.tmp U (.tmp U .nil))) U (.cons _ (.refl _)) aM ?_)))))))
 exact .inr ⟨7,hd,rfl,rfl,by decide⟩
theorem decode_its {N:Heaplet} {ao:Option Addr} {n cap:Nat} {b p r:List UInt8} (h:RSl N 1 ao n cap (u8s b)) (hn:n≤1099511627776) (hc:cutF b=some (true,p,r)) (k:Nat) (q:Int) (hq:q+k+1=1024) (hk0:0≤q)
 (ih: ∀(N:Heaplet) (ao:Option Addr) (n cap:Nat) (b:List UInt8) (q:Int),RSl N 1 ao n cap (u8s b)→n≤1099511627776→q+k=1024→0≤q→Fn Tryz.prog 87 #[.slice ao n cap,.int .i64 q] [] [N] (DecP ao n cap b (decF k b))):
 Fn Tryz.prog 87 #[.slice ao n cap,.int .i64 q] [] [N] (DecP ao n cap b (decF (k+1) b)):=by
 have hlen:=h.len8
 have hcl:=(cutF_len hc).1
 refine Fn.enter (vs:= [.slice ao n cap,.int .i64 q]) Tryz.func87 U U U ?_
 intro E R hR
 have h:=h.le (hR N (by simp))
 change At _ _ E [R] _
 refine aC fun _ s_1=>aA (bE aZ ze91 U (fun N4 b4 B4=>?_))
 change Blk N4 b4 _ [.bool false,.slice none 0 0,.slice none 0 0]at B4
 refine aG U U (aG U U (aB (s_1 (aC fun _ s_2=>aA (aF U U (aH aZ (.cons U .nil) (cut_some h hn hc) Tryz.func140 U U (by simp) U ?_))))))
 rintro _ _ ⟨a1,c1,a2,c2,rfl,rfl,h1,h2⟩
 show At _ _ _ [N4,R] _
 refine aF U U (aN aD U U U (aN aD U U U (aG U U (aG U U (aB (s_2 (aC fun _ s_3=>aC fun _ s_4=>aA (aF U U (op_eqNilF aD (by kernel_rfl) U U (aB (s_4 (At.condF U (aQ (aE (s_3 (aC fun _ s_5=>aC fun _ s_6=>aA (aF U U (op_assertN aD (by kernel_rfl) ze211 U U U (aF U U (aN aD U U U (aN aD U U U (aG U U (aG U U (aB (s_6 (aC fun _ s_7=>aA (aF U U (aB (s_7 (At.condF U (aQ (aE (s_5 (aC fun _ s_8=>aC fun _ s_9=>aA (aF U U ?_)))))))))))))))))))))))))))))))))))
 refine op_eql aD U U U (aB (s_9 (aO U (fun c35=>?_) (fun c35=>?_))))
 ·exfalso;omega
 refine aQ (aE (s_8 (aC fun _ s_10=>aA (op_build (out:= [_,.slice none 0 0,.slice none 0 0]) aD ze91 pl91 (.cons U .nil) U U (bE aZ ze91 U (fun N11 b11 B11=>?_))))))
 change Blk N11 b11 _ [.bool false,.slice none 0 0,.slice none 0 0]at B11
 refine aX nxQ sz91 U U U U U B11 (by simp) sel0 (fun N11 B11=>?_)
 simp only [setL,List.set]at B11
 refine aB (s_10 (aC fun _ s_11=>aC fun _ s_12=>aA (aF U U (op_assert1 aD (by kernel_rfl) U U (aG U U (aB (s_12 (aT (At.empty (At.empty (bI (permSel1 (bR (cH (bI ?_)))))))))))))))
 refine cF (fun fr_ hp_ ms_=> ∃(p':List UInt8) (ac:Option Addr) (m cc:Nat) (done:List It) (xs:List IV) (ai:Option Addr) (ni ci:Nat) (N11 Nr Ns:Heaplet),fr_= [(0,.slice ao n cap),(1,.int .i64 q),(4,.pointer (some ⟨b4,0,none⟩)),(8,.slice a2 r.length c2),(11,.pointer (some ⟨b11,0,none⟩)),(12,.slice ac m cc)]∧hp_= [N4,N11,Nr,Ns,R]∧m=ms_∧(RSl R 1 ac m cc (u8s p'))∧(Blk N11 b11 91 [.bool true,.slice none 0 0,.slice ai ni ci])∧(Row Nr 91 3 ai ni ci (cellsI xs))∧(xs.length=ni)∧(ItsN Ns done xs)∧(itF (decF k) p=exMap (done++ ·) (itF (decF k) p'))∧(ni+m≤p.length)) ?_ aM ⟨p,a1,p.length,c1,[],[],none,0,0,N11,nilH,nilH,rfl,rfl,rfl,h1,B11,Row.nil _ _ _,rfl,rfl,by cases itF (decF k) p<;>rfl,by omega⟩ ?_
 ·repeat first|apply bD|exact .nil|exact lkI rfl (by omega)|rfl
 rintro _ _ _ ⟨p',ac,m,cc,done,xs,ai,ni,ci,N11,Nr,Ns,rfl,rfl,rfl,sc,B11,rr,hni,hs,H,hcnt⟩
 have hlp:=sc.len8
 have sr:=rr.rsl
 refine aC fun _ s_13=>aC fun _ s_14=>aA (aF U U (bG aD se22 U U (op_gtr aD U U U (aB (s_14 (aO U (fun c42=>?_) (fun c42=>?_)))))))
 ·refine aQ (aE (s_13 (aT (aC fun _ s_15=>aA (aF U U (aF U U (a6 aD U U (by omega) (by omega) U (aH aZ (.cons U (.cons U .nil)) (ih R ac m cc p' (q+1) sc (by omega) (by omega) (by omega)) Tryz.func87 U U (by simp) U ?_))))))))
  rintro _ _ (⟨t,q',M47,x,aq,cq,he,rfl,rfl,hi,hqq⟩|⟨e,he,rfl,rfl,hne⟩)
  ·show At _ _ _ [M47,N4,N11,Nr,Ns,R] _
   refine aF U U (aN aD U U U (aN aD U U U (aN aD U U U (bE aZ ze91 U (fun N13 b13 B13=>?_)))))
   change Blk N13 b13 _ [.bool false,.slice none 0 0,.slice none 0 0]at B13
   refine aX nxQ sz91 U U U U U B13 (by simp) sel0 (fun N13 B13=>?_)
   simp only [setL,List.set]at B13
   refine aG U U (aG U U (aB (s_15 (aC fun _ s_16=>aC fun _ s_17=>aA (aF U U (op_neq aD U U U (aB (s_17 (At.condF U (aQ (aE (s_16 (aC fun _ s_18=>aA (aI aD fl91_2 U U (aV aD sc89 U B11 U mem3 U ?_)))))))))))))))
   refine aY (ds:= [_,_,_]) aD ag91 U B13 U U bZ U (op_lit aZ Tryz.underlying89 ze91 sz91 (.cons U .nil) U U (by simp [Value.cells]) U U U (fun N58 a58 r58=>?_))
   simp only [flatV,List.flatMap_cons,List.flatMap_nil,Value.cells,List.append_nil,List.cons_append,List.nil_append]at r58
   have s58:=r58.rsl
   refine op_append nxQ Tryz.underlying89 Tryz.underlying89 te91 rfl rfl rr (by assumption) (by simp) (by intro u hu;simp at hu;rcases hu with rfl|rfl|rfl<;>rfl) (by omega) (by omega) sel5 rfl (fun N59 a59 p59 r59=>?_)
   have s59:=r59.rsl
   refine aI aD fl91_2 U U (aX nxQ sz89 U U U U U B11 (by simp) sel5 (fun N11 B11=>?_))
   simp only [setL,List.set]at B11
   refine aB (s_18 (aA (aF U U (aG U U (At.opsNil (a0 (aE (bN (bM (bY (bY (bY (bY (bM (bN (At.merge (fun hap=>dropAt4 (dropAt3 (bI (permSel1 (cH (cH (bI ?_)))))))))))))))))))))))
   refine bQ ?_ aM ⟨q',aq,q'.length,cq,done++ [t],xs++ [x],a59,ni+1,p59,N11,N59,join2 Ns M47,rfl,rfl,rfl,hqq R sc,B11,by rw [cellsI,List.flatMap_append];exact r59,by simp [hni],(hs.le join2_left).snoc (hi.le (join2_right hap)),by rw [H,itF_ok (fun b t q h=>decF_lt h) (by omega) he,exMap_map];congr 1;funext l;simp,by have:=decF_lt he;omega⟩ ?_
   ·repeat first|apply bD|exact .nil|exact lkI rfl (by omega)|rfl
   ·exact(by have:=decF_lt he;omega)
  show At _ _ _ [N4,N11,Nr,Ns,R] _
  refine aF U U (aN aD U U U (aN aD U U U (aN aD U U U (bE aZ ze91 U (fun N13 b13 B13=>?_)))))
  change Blk N13 b13 _ [.bool false,.slice none 0 0,.slice none 0 0]at B13
  refine aX nxQ sz91 U U U U U B13 (by simp) sel0 (fun N13 B13=>?_)
  simp only [setL,List.set]at B13
  refine aG U U (aG U U (aB (s_15 (aC fun _ s_19=>aC fun _ s_20=>aA (aF U U (op_neq aD U U U (aB (s_20 (aO U (fun c52=>?_) (fun c52=>?_))))))))))
  rotate_left
  ·exfalso;omega
  refine aC fun _ s_21=>aA (op_build (out:= [.bool false,.slice none 0 0,.slice none 0 0]) aD ze91 pl91 .nil U U (aF U U (aX nxQ sz91 U U U U U B4 (by simp) sel1 (fun N4 B4=>?_))))
  simp only [setL,List.set]at B4
  refine aG U U (aG U U (aB (s_21 (aR (aJ (b9 (aJ (b9 (aJ ((dropAt4 (dropAt3 (cA (a7 (bV (L1:= []) U (.cell U (res_agg (ds:= [_,_,_]) ag91 B4 U U bZ) (.tmp U (.tmp U .nil))) U (.cons _ (.refl _)) aM ?_)))))))))))))))
  exact .inr ⟨e,by simp [decF,hc,H,itF_error (show 0<p'.length by omega) he,exMap],rfl,rfl,hne⟩
 refine bW (aK (aK (bH (aE (s_11 (aC fun _ s_22=>aA (aY (ds:= [_,_,_]) aD ag91 U B11 U U mem1 U (aF U U (aX nxQ sz91 U U U U U B4 (by simp) sel0 (fun N4 B4=>?_))))))))))
 simp only [setL,List.set]at B4
 refine aG U U (aG U U (aB (s_22 (aR ((bI (bR (bR (bI (bI (At.merge (fun hap=>cA (bR (permSel1 (bR (bV (L1:= [(join2 Nr Ns)]) U (.cell U (res_agg (ds:= [_,_,_]) ag91 B4 U U bZ) (.tmp U (.tmp U .nil))) U (.cons _ (.refl _)) aM ?_))))))))))))))))
 have hp0:p'= []:=List.eq_nil_of_length_eq_zero (by omega)
 subst hp0
 refine .inl ⟨.mk true [] done,r,join2 Nr Ns,⟨true,none,0,0,ai,ni,ci⟩,a2,c2,?_,rfl,rfl,ItN.mk (RSl.nil _ _) (sr.le join2_left) (hs.le (join2_right hap)),h2⟩
 simp [decF,hc,H,itF_nil,exMap]
theorem decode_f (k:Nat): ∀(N:Heaplet) (ao:Option Addr) (n cap:Nat) (b:List UInt8) (q:Int),RSl N 1 ao n cap (u8s b)→n≤1099511627776→q+k=1024→0≤q→Fn Tryz.prog 87 #[.slice ao n cap,.int .i64 q] [] [N] (DecP ao n cap b (decF k b)):=by
 induction k with
 |zero=>
  intro N ao n cap b q h hn hq h0
  obtain rfl:q=1024:=by omega
  match hc:cutF b with
  |none=>exact decode_none h hn hc 0 _
  |some (false,p,r)=>exact decode_text h hn hc 0 _
  |some (true,p,r)=>exact decode_deep h hn hc
 |succ k ih=>
  intro N ao n cap b q h hn hq h0
  match hc:cutF b with
  |none=>exact decode_none h hn hc _ _
  |some (false,p,r)=>exact decode_text h hn hc _ _
  |some (true,p,r)=>exact decode_its h hn hc k q (by omega) h0 ih
end Go.Proofs.YtjfagifjajielaaGreat
