/- Several texts in one: see the remarks ahead of each part. No condition but those told there. -/
import Derived.Test.YtalmjkcapecpiaaGreatX1
import Derived.Test.YtalmjkcapecpiaaGreatX2
import Derived.Maps.AppendAt
set_option linter.unusedSimpArgs false
set_option linter.unusedVariables false
namespace Go.Proofs.YtalmjkcapecpiaaGreat
open Go Go.RowKit
def NxF (P:Program) (n:Nat) (l:List (Nat×Value)) (E:World) (L Ls:List Heaplet) (o:Oper) (X Y:Act→World→Prop):Prop:=
 ∀a w v,Fr (dfOf E) n l a→Hp E L w→(∀w',Hp E Ls w'→(execOp a.eval o).run P w'=.ok (.value v) w')→Y (a.put o.dst v) w→X a w
def NxA (P:Program) (n:Nat) (l:List (Nat×Value)) (E:World) (L:List Heaplet) (o:Oper) (X Y:Act→World→Prop):Prop:=
 ∀a w,Fr (dfOf E) n l a→Hp E L w→o.wp P a w (fun a' w'=>Agree w w'∧Y a' w') (fun _ _ _=>False)→X a w
def Nx (P:Program) (n:Nat) (l:List (Nat×Value)) (E:World) (L:List Heaplet) (o:Oper) (X Y:Act→World→Prop):Prop:=
 ∀a w,Fr (dfOf E) n l a→Hp E L w→o.wp P a w Y (fun _ _ _=>False)→X a w
section
variable {P : Program} {n : Nat} {l : List (Nat × Value)} {E : World} {L Ls : List Heaplet} {Q : Exit → Act → World → Prop} {ops : Array Oper} {rest : List Oper} {o : Oper} {X Y : Act → World → Prop}
theorem Nx.agree (h:Nx P n l E L o X Y):NxA P n l E L o X Y:=fun a w hf hw hx=>h a w hf hw (Oper.wp_mono (fun _ _ h=>h.2) hx)
theorem Nx.float (h:Nx P n l E L o X Y):NxF P n l E L L o X Y:=fun a w v hf hw hr hy=>h a w hf hw (by unfold Oper.wp;rw [hr w hw];exact hy)
theorem nxl (hg:o.guard=none):Nx P n l E L o (wpList P ops Q (o::rest)) (wpList P ops Q rest):=fun a w _ _ hx=>
 wpList_plain hg fun K hK=>upon_carry (fun _ _ h=>hK _ _ h) (fun _ _ h=>hK _ _ h) hx
theorem nxlf (hg:o.guard=none):NxF P n l E L L o (wpList P ops Q (o::rest)) (wpList P ops Q rest):=(nxl hg).float
theorem nxla (hg:o.guard=none):NxA P n l E L o (wpList P ops Q (o::rest)) (wpList P ops Q rest):=(nxl hg).agree
theorem nxQ {P:Program} {n:Nat} {l:List (Nat×Value)} {E:World} {L:List Heaplet} {Q:Exit→Act→World→Prop} {ops:Array Oper} {rest:List Oper} {od:Option Nat} {oo:Op} {ot:TypeId} {os:String} {oa:Array Edge}:Nx P n l E L ⟨od,oo,ot,os,oa,none⟩ (wpList P ops Q (⟨od,oo,ot,os,oa,none⟩::rest)) (wpList P ops Q rest):=nxl rfl
theorem aN {P:Program} {n:Nat} {l:List (Nat×Value)} {E:World} {L:List Heaplet} {Q:Exit→Act→World→Prop} {ops:Array Oper} {rest:List Oper} {od:Option Nat} {oo:Op} {ot:TypeId} {os:String} {oa:Array Edge}:NxF P n l E L L ⟨od,oo,ot,os,oa,none⟩ (wpList P ops Q (⟨od,oo,ot,os,oa,none⟩::rest)) (wpList P ops Q rest):=nxlf rfl
theorem bT {P:Program} {n:Nat} {l:List (Nat×Value)} {E:World} {L:List Heaplet} {Q:Exit→Act→World→Prop} {ops:Array Oper} {rest:List Oper} {od:Option Nat} {oo:Op} {ot:TypeId} {os:String} {oa:Array Edge}:NxA P n l E L ⟨od,oo,ot,os,oa,none⟩ (wpList P ops Q (⟨od,oo,ot,os,oa,none⟩::rest)) (wpList P ops Q rest):=nxla rfl
theorem wanted_of {ds:List Deferred} {j:Nat} {b c:Bool} {oj:Oper} {d:Nat} {a:Act} (hf:Fr ds n l a) (hg:o.guard=some (j,b)) (hj:ops[j]? =some oj) (hd:oj.dst=some d) (hv:lk l d=some (.bool c)):Region.wanted o (yielded ops a.tmps)=(c==b):=by
 have:=hf.get d _ hv
 simp [Region.wanted,hg,yielded,hj,hd,this]
theorem nxg {j:Nat} {b:Bool} {oj:Oper} {d:Nat} (hg:o.guard=some (j,b)) (hj:ops[j]? =some oj) (hd:oj.dst=some d) (hv:lk l d=some (.bool b)):Nx P n l E L o (wpList P ops Q (o::rest)) (wpList P ops Q rest):=fun a w hf hw hx=>
 wpList_step fun K hK=>by
  rw [wanted_of hf hg hj hd hv]
  simp only [beq_self_eq_true,if_true]
  exact upon_carry (fun _ _ h=>hK _ _ h) (fun _ _ h=>hK _ _ h) hx
theorem nxgf {j:Nat} {b:Bool} {oj:Oper} {d:Nat} (hg:o.guard=some (j,b)) (hj:ops[j]? =some oj) (hd:oj.dst=some d) (hv:lk l d=some (.bool b)):NxF P n l E L L o (wpList P ops Q (o::rest)) (wpList P ops Q rest):=(nxg hg hj hd hv).float
theorem nxga {j:Nat} {b:Bool} {oj:Oper} {d:Nat} (hg:o.guard=some (j,b)) (hj:ops[j]? =some oj) (hd:oj.dst=some d) (hv:lk l d=some (.bool b)):NxA P n l E L o (wpList P ops Q (o::rest)) (wpList P ops Q rest):=(nxg hg hj hd hv).agree
theorem dF {j:Nat} {b c:Bool} {oj:Oper} {d e:Nat} (hg:o.guard=some (j,b)) (hj:ops[j]? =some oj) (hd:oj.dst=some d) (hv:lk l d=some (.bool c)) (hc:(c==b)=false) (he:o.dst=some e) (hn:Nat.ble (e+1) n=true)
 (h:At n ((e,undef)::l) E L (wpList P ops Q rest)):At n l E L (wpList P ops Q (o::rest)):=fun a w hf hw=>
 wpList_step fun K hK=>by
  rw [wanted_of hf hg hj hd hv,hc]
  simp only [Bool.false_eq_true,if_false]
  rw [he]
  exact hK _ _ (h _ _ (hf.put (Nat.le_of_ble_eq_true hn)) hw)
theorem At.part {d:Nat} {b:Bool} {K:Act→World→Prop} (hv:lk l d=some (.bool b)) (ht:b=true→At n ((d,.bool true)::l) E L K) (hf:b=false→At n ((d,.bool false)::l) E L K):At n l E L K:=fun a w h hw=>by
 have key: ∀i v,lk ((d,.bool b)::l) i=some v→lk l i=some v:=fun i v hi=>by
  unfold lk at hi
  by_cases e:d=i
  ·subst e;simp at hi;subst hi;exact hv
  ·rw [beq_no e]at hi;exact hi
 cases b with
 |true=>exact ht rfl a w ⟨h.defers,h.size,fun i v hi=>h.get i v (key i v hi)⟩ hw
 |false=>exact hf rfl a w ⟨h.defers,h.size,fun i v hi=>h.get i v (key i v hi)⟩ hw
theorem At.partP {d:Nat} {p:Prop} [Decidable p] {K:Act→World→Prop} (hv:lk l d=some (.bool (decide p))) (ht:p→At n ((d,.bool true)::l) E L K) (hf: ¬p→At n ((d,.bool false)::l) E L K):At n l E L K:=
 At.part hv (fun e=>ht (of_decide_eq_true e)) (fun e=>hf (of_decide_eq_false e))
variable {sink : Nat → Bool} {i : Nat} {is : List Nat}
theorem floatOK_congr {op:Op} {ρ ρ':Operand→Value} (h: ∀x∈op.operands,ρ x=ρ' x):floatOK P op ρ=floatOK P op ρ':=by
 cases op<;>simp only [floatOK]
 case nilCheck x=>rw [h x (by simp [Op.operands])]
 case binOp op t x y t'=>rw [h x (by simp [Op.operands]),h y (by simp [Op.operands])]
 case convert s d x=>rw [h x (by simp [Op.operands])]
 case call c=>
  split
  ·have:c.args.toList.map ρ=c.args.toList.map ρ':=by
    refine List.map_congr_left fun x hx=>h x ?_
    simp [Op.operands,Call.operands]
    exact .inr (Array.mem_toList_iff.1 hx)
   rw [this]
  ·rfl
def okB (P:Program) (l:List (Nat×Value)) (op:Op):Bool:=op.operands.all (fun x=>(ev l x).isSome)&&floatOK P op (fun x=>(ev l x).getD undef)
theorem okB_spec {ds:List Deferred} {op:Op} (h:okB P l op=true) {a:Act} (hf:Fr ds n l a):floatOK P op a.eval=true:=by
 unfold okB at h
 rw [Bool.and_eq_true]at h
 rw [←h.2]
 refine floatOK_congr fun x hx=>?_
 have:=Array.all_eq_true_iff_forall_mem.1 h.1 x hx
 obtain⟨v,hv⟩:=Option.isSome_iff_exists.1 this
 rw [hf.eval hv,hv];rfl
theorem cX (ho:ops[i]? =some o) (hf:floats o.op=true) (hg:o.guard=none) (hok:okB P l o.op=true):NxF P n l E L L o (wpOne P ops sink Q (i::is)) (wpOne P ops sink Q is):=fun a w v hfr hw_ hr hy=>
 wpOne_float ho hf (by simp [Region.wanted,hg]) (okB_spec hok hfr) fun K hK=>by unfold Oper.wp;rw [hr w hw_];exact hK _ _ hy
theorem nxos (ho:ops[i]? =some o) (hf:floats o.op=false) (hs:sink i=true) (hg:o.guard=none):Nx P n l E L o (wpOne P ops sink Q (i::is)) (wpOne P ops sink Q is):=fun a w _ _ hx=>
 wpOne_sink ho hf hs (by simp [Region.wanted,hg]) fun K hK=>Oper.wp_mono (fun _ _ h=>hK _ _ h) hx
theorem nxosa (ho:ops[i]? =some o) (hf:floats o.op=false) (hs:sink i=true) (hg:o.guard=none):NxA P n l E L o (wpOne P ops sink Q (i::is)) (wpOne P ops sink Q is):=(nxos ho hf hs hg).agree
theorem nxoa (ho:ops[i]? =some o) (hf:floats o.op=false) (hg:o.guard=none):NxA P n l E L o (wpOne P ops sink Q (i::is)) (wpOne P ops sink Q is):=fun a w _ _ hx=>
 wpOne_act ho hf (by simp [Region.wanted,hg]) fun K hK=>Oper.wp_mono (fun _ _ h=>hK _ _ h) hx
theorem nxogf {j:Nat} {b:Bool} {oj:Oper} {d:Nat} (ho:ops[i]? =some o) (hf:floats o.op=true) (hg:o.guard=some (j,b)) (hj:ops[j]? =some oj) (hd:oj.dst=some d) (hv:lk l d=some (.bool b)) (hok:okB P l o.op=true):NxF P n l E L L o (wpOne P ops sink Q (i::is)) (wpOne P ops sink Q is):=fun a w v hfr hw_ hr hy=>
 wpOne_float ho hf (by rw [wanted_of hfr hg hj hd hv];simp) (okB_spec hok hfr) fun K hK=>by unfold Oper.wp;rw [hr w hw_];exact hK _ _ hy
theorem op_oskip {j:Nat} {b c:Bool} {oj:Oper} {d e:Nat} (ho:ops[i]? =some o) (hg:o.guard=some (j,b)) (hj:ops[j]? =some oj) (hd:oj.dst=some d) (hv:lk l d=some (.bool c)) (hc:(c==b)=false) (he:o.dst=some e) (hn:Nat.ble (e+1) n=true)
 (h:At n ((e,undef)::l) E L (wpOne P ops sink Q is)):At n l E L (wpOne P ops sink Q (i::is)):=fun a w hf hw=>
 wpOne_skip ho (by rw [wanted_of hf hg hj hd hv,hc]) (by rw [he];exact h _ _ (hf.put (Nat.le_of_ble_eq_true hn)) hw)
theorem cS {id:Nat} {ops:List Oper} (Lst:List Heaplet) (snk pl ord:List Nat) (hm:P.follows .mixedOrders=true) (hB:St.oneSB .any ops.toArray snk pl ord=true) (hs:Lst.Sublist L)
 (h:At n l E L (St.wpOne P ops.toArray (Hp E Lst) (fun i=>snk.contains i) Q ord)):At n l E L ((Code.region id ops.toArray true).wp P Q):=fun a w hf hw=>St.wp_one snk pl ord hm hB (hw.drew.drop hs) (h a w.drew hf hw.drew)
theorem dH {S:World→Prop} (h:At n l E L (Q .normal)):At n l E L (St.wpOne P ops S sink Q []):=h
theorem At.andS {Lst:List Heaplet} {Y:Act→World→Prop} (hs:Lst.Sublist L) (h:At n l E L Y):At n l E L (fun a w=>Hp E Lst w∧Y a w):=fun a w hf hw=>⟨hw.drop hs,h a w hf hw⟩
variable {Lst : List Heaplet}
theorem bB (ho:ops[i]? =some o) (hf:floats o.op=true) (hg:o.guard=none):NxF P n l E L Lst o (St.wpOne P ops (Hp E Lst) sink Q (i::is)) (St.wpOne P ops (Hp E Lst) sink Q is):=fun a w v hfr hw hr hy=>
 St.wpOne_float ho hf (by simp [Region.wanted,hg]) hr hy
theorem nxsgf {j:Nat} {b:Bool} {oj:Oper} {d:Nat} (ho:ops[i]? =some o) (hf:floats o.op=true) (hg:o.guard=some (j,b)) (hj:ops[j]? =some oj) (hd:oj.dst=some d) (hv:lk l d=some (.bool b)):NxF P n l E L Lst o (St.wpOne P ops (Hp E Lst) sink Q (i::is)) (St.wpOne P ops (Hp E Lst) sink Q is):=fun a w v hfr hw hr hy=>
 St.wpOne_float ho hf (by rw [wanted_of hfr hg hj hd hv];simp) hr hy
theorem nxsl (ho:ops[i]? =some o) (hf:floats o.op=false) (hs:sink i=true) (hg:o.guard=none):Nx P n l E L o (St.wpOne P ops (Hp E Lst) sink Q [i]) (St.wpOne P ops (Hp E Lst) sink Q []):=fun a w hfr hw hx=>
 St.wpOne_last ho hf hs (by simp [Region.wanted,hg]) hx
theorem nxss (ho:ops[i]? =some o) (hf:floats o.op=false) (hs:sink i=true) (hg:o.guard=none):Nx P n l E L o (St.wpOne P ops (Hp E Lst) sink Q (i::is)) (fun a w=> ∃S':World→Prop,S' w∧St.wpOne P ops S' sink Q is a w):=fun a w hfr hw hx=>
 St.wpOne_sink ho hf hs (by simp [Region.wanted,hg]) hx
theorem nxsgs {j:Nat} {b:Bool} {oj:Oper} {d:Nat} (ho:ops[i]? =some o) (hf:floats o.op=false) (hs:sink i=true) (hg:o.guard=some (j,b)) (hj:ops[j]? =some oj) (hd:oj.dst=some d) (hv:lk l d=some (.bool b)):Nx P n l E L o (St.wpOne P ops (Hp E Lst) sink Q (i::is)) (fun a w=> ∃S':World→Prop,S' w∧St.wpOne P ops S' sink Q is a w):=fun a w hfr hw hx=>
 St.wpOne_sink ho hf hs (by rw [wanted_of hfr hg hj hd hv];simp) hx
theorem nxsm (ho:ops[i]? =some o) (hf:floats o.op=false) (hg:o.guard=none):Nx P n l E L o (St.wpOne P ops (Hp E Lst) sink Q (i::is)) (fun a w=> ∃S':World→Prop,(∀u,S' u→Hp E Lst u)∧S' w∧St.wpOne P ops S' sink Q is a w):=fun a w hfr hw hx=>
 St.wpOne_more ho hf (by simp [Region.wanted,hg]) hx
theorem nxsgm {j:Nat} {b:Bool} {oj:Oper} {d:Nat} (ho:ops[i]? =some o) (hf:floats o.op=false) (hg:o.guard=some (j,b)) (hj:ops[j]? =some oj) (hd:oj.dst=some d) (hv:lk l d=some (.bool b)):Nx P n l E L o (St.wpOne P ops (Hp E Lst) sink Q (i::is)) (fun a w=> ∃S':World→Prop,(∀u,S' u→Hp E Lst u)∧S' w∧St.wpOne P ops S' sink Q is a w):=fun a w hfr hw hx=>
 St.wpOne_more ho hf (by rw [wanted_of hfr hg hj hd hv];simp) hx
theorem At.moreS {Lst Lst':List Heaplet} (h1:Lst.Sublist Lst') (hs:Lst'.Sublist L) (h:At n l E L (St.wpOne P ops (Hp E Lst') sink Q is)):At n l E L (fun a w=> ∃S':World→Prop,(∀u,S' u→Hp E Lst u)∧S' w∧St.wpOne P ops S' sink Q is a w):=fun a w hf hw=>⟨Hp E Lst',fun _ hu=>hu.drop h1,hw.drop hs,h a w hf hw⟩
theorem At.anyS {Lst:List Heaplet} (hs:Lst.Sublist L) (h:At n l E L (St.wpOne P ops (Hp E Lst) sink Q is)):At n l E L (fun a w=> ∃S':World→Prop,S' w∧St.wpOne P ops S' sink Q is a w):=fun a w hf hw=>⟨Hp E Lst,hw.drop hs,h a w hf hw⟩
theorem At.planS {id:Nat} {ops:List Oper} (Lst:List Heaplet) (p:Plan) (hm:P.follows .mixedOrders=true) (hB:planOKB .any ops.toArray p=true) (hs:Lst.Sublist L)
 (h:At n l E L (St.wpPlan P ops.toArray (Hp E Lst) Q p)):At n l E L ((Code.region id ops.toArray true).wp P Q):=fun a w hf hw=>St.wp_plan p hm hB (hw.drew.drop hs) (h a w.drew hf hw.drew)
theorem At.pDone {S:World→Prop} (h:At n l E L (Q .normal)):At n l E L (St.wpPlan P ops S Q .done):=h
theorem At.pNo {S:World→Prop} :At n l E L (St.wpPlan P ops S Q .nofork):=fun _ _ _ _=>trivial
theorem At.fork {S:World→Prop} {i:Nat} {snk:Bool} {p rest:Plan} (h:At n l E L (St.wpFork P ops S Q i snk p)) (hr:At n l E L (St.wpPlan P ops S Q rest)):At n l E L (St.wpPlan P ops S Q (.fork i snk p rest)):=fun a w hf hw=>St.wpPlan_fork (h a w hf hw) (hr a w hf hw)
variable {pl : Plan} {snk : Bool}
theorem nxpf (ho:ops[i]? =some o) (hg:o.guard=none):NxF P n l E L Lst o (St.wpPlan P ops (Hp E Lst) Q (.take i pl)) (St.wpPlan P ops (Hp E Lst) Q pl):=fun a w v hfr hw hr hy=>
 St.wpPlan_take ho (by simp [Region.wanted,hg]) hr hy
theorem nxpa (ho:ops[i]? =some o) (hg:o.guard=none):Nx P n l E L o (St.wpFork P ops (Hp E Lst) Q i snk pl) (fun a w=>Hp E Lst w∧St.wpPlan P ops (Hp E Lst) Q pl a w):=fun a w hfr hw hx=>
 St.wpFork_act ho (by simp [Region.wanted,hg]) hx
theorem nxpl (ho:ops[i]? =some o) (hg:o.guard=none):Nx P n l E L o (St.wpFork P ops (Hp E Lst) Q i true .done) (St.wpPlan P ops (Hp E Lst) Q .done):=fun a w hfr hw hx=>
 St.wpFork_last ho (by simp [Region.wanted,hg]) hx
section
variable {d : Nat} {ty t t' : TypeId} {pos : String} {aft : Array Edge} {g : Option (Nat × Bool)} {v : Value} {x y z : Operand}
theorem op_val (s:NxF P n l E L Ls o X Y) (hr: ∀a w,Fr (dfOf E) n l a→Hp E Ls w→(execOp a.eval o).run P w=.ok (.value v) w) (hd:o.dst=some d) (hn:Nat.ble (d+1) n=true) (h:At n ((d,v)::l) E L Y):At n l E L X:=fun a w hf hw=>
 s a w v hf hw (fun w' hw'=>hr a w' hf hw') (by rw [hd];exact h _ _ (hf.put (Nat.le_of_ble_eq_true hn)) hw)
theorem aR (s:NxF P n l E L Ls ⟨some d,.move x,ty,pos,aft,g⟩ X Y) (hx:ev l x=some v) (hn:Nat.ble (d+1) n=true) (h:At n ((d,v)::l) E L Y):At n l E L X:=
 op_val s (fun a w hf _=>by simp [execOp,hf.eval hx]) rfl hn h
theorem bC {P:Program} {n:Nat} {l:List (Nat×Value)} {E:World} {L:List Heaplet} {Q:Exit→Act→World→Prop} {ops:Array Oper} {rest:List Oper} {d:Nat} {ot:TypeId} {os:String} {oa:Array Edge} {v:Value} {x:Operand} (hx:ev l x=some v) (hn:Nat.ble (d+1) n=true) (h:At n ((d,v)::l) E L (wpList P ops Q rest)):At n l E L (wpList P ops Q (⟨some d,.move x,ot,os,oa,none⟩::rest)):=aR aN hx hn h
theorem cZ (s:NxF P n l E L Ls ⟨some d,.assign x,ty,pos,aft,g⟩ X Y) (hx:ev l x=some v) (hn:Nat.ble (d+1) n=true) (h:At n ((d,v)::l) E L Y):At n l E L X:=
 op_val s (fun a w hf _=>by simp [execOp,hf.eval hx]) rfl hn h
theorem bV {P:Program} {n:Nat} {l:List (Nat×Value)} {E:World} {L:List Heaplet} {Q:Exit→Act→World→Prop} {ops:Array Oper} {rest:List Oper} {d:Nat} {ot:TypeId} {os:String} {oa:Array Edge} {v:Value} {x:Operand} (hx:ev l x=some v) (hn:Nat.ble (d+1) n=true) (h:At n ((d,v)::l) E L (wpList P ops Q rest)):At n l E L (wpList P ops Q (⟨some d,.assign x,ot,os,oa,none⟩::rest)):=cZ aN hx hn h
theorem op_pickT (s:NxF P n l E L Ls ⟨some d,.pick z x y,ty,pos,aft,g⟩ X Y) (hz:ev l z=some (.bool true)) (hx:ev l x=some v) (hn:Nat.ble (d+1) n=true) (h:At n ((d,v)::l) E L Y):At n l E L X:=
 op_val s (fun a w hf _=>by simp [execOp,hf.eval hz,hf.eval hx,asBool]) rfl hn h
theorem op_pickF (s:NxF P n l E L Ls ⟨some d,.pick z x y,ty,pos,aft,g⟩ X Y) (hz:ev l z=some (.bool false)) (hx:ev l y=some v) (hn:Nat.ble (d+1) n=true) (h:At n ((d,v)::l) E L Y):At n l E L X:=
 op_val s (fun a w hf _=>by simp [execOp,hf.eval hz,hf.eval hx,asBool]) rfl hn h
theorem op_bin {op:BinOp} {vx vy:Value} (s:NxF P n l E L Ls ⟨some d,.binOp op t x y t',ty,pos,aft,g⟩ X Y) (hx:ev l x=some vx) (hy:ev l y=some vy) (hg: ∀w,(eqGuard op t x y vx vy).run P w=.ok () w) (hr: ∀w,(binOp op t vx vy).run P w=.ok v w) (hn:Nat.ble (d+1) n=true) (h:At n ((d,v)::l) E L Y):At n l E L X:=
 op_val s (fun a w hf _=>by
  have e:(execOp a.eval ⟨some d,.binOp op t x y t',ty,pos,aft,g⟩)=(do let v ←(do eqGuard op t x y (a.eval x) (a.eval y);binOp op t (a.eval x) (a.eval y));pure (.value v):Sem Next):=rfl
  rw [e,hf.eval hx,hf.eval hy,Sem.run_bind,Sem.run_bind,hg w]
  simp [hr]) rfl hn h
theorem eqGuard_int {op:BinOp} {k k':IntKind} {p q:Int} (w:World):(eqGuard op t x y (.int k p) (.int k' q)).run P w=.ok () w:=by
 unfold eqGuard
 by_cases h:(!(op matches .eql|.neq))=true<;>simp [h]
variable {k : IntKind} {p q : Int}
theorem op_int {op:BinOp} (s:NxF P n l E L Ls ⟨some d,.binOp op t x y t',ty,pos,aft,g⟩ X Y) (hx:ev l x=some (.int k p)) (hy:ev l y=some (.int k q)) (hr: ∀w,(binOp op t (.int k p) (.int k q)).run P w=.ok v w) (hn:Nat.ble (d+1) n=true) (h:At n ((d,v)::l) E L Y):At n l E L X:=
 op_bin s hx hy (fun w=>eqGuard_int w) hr hn h
theorem op_sh {op:BinOp} {k':IntKind} (s:NxF P n l E L Ls ⟨some d,.binOp op t x y t',ty,pos,aft,g⟩ X Y) (hx:ev l x=some (.int k p)) (hy:ev l y=some (.int k' q)) (hr: ∀w,(binOp op t (.int k p) (.int k' q)).run P w=.ok v w) (hn:Nat.ble (d+1) n=true) (h:At n ((d,v)::l) E L Y):At n l E L X:=
 op_bin s hx hy (fun w=>eqGuard_int w) hr hn h
theorem op_eql (s:NxF P n l E L Ls ⟨some d,.binOp .eql t x y t',ty,pos,aft,g⟩ X Y) (hx:ev l x=some (.int k p)) (hy:ev l y=some (.int k q)) (hn:Nat.ble (d+1) n=true) (h:At n ((d,.bool (decide (p=q)))::l) E L Y):At n l E L X:=
 op_int s hx hy (fun w=>by simp [binOp,Op.intCmp];rfl) hn h
theorem op_neq (s:NxF P n l E L Ls ⟨some d,.binOp .neq t x y t',ty,pos,aft,g⟩ X Y) (hx:ev l x=some (.int k p)) (hy:ev l y=some (.int k q)) (hn:Nat.ble (d+1) n=true) (h:At n ((d,.bool (decide (p≠q)))::l) E L Y):At n l E L X:=
 op_int s hx hy (fun w=>by
  have:(p !=q)=decide (p≠q):=by rw [bne,show(p==q)=decide (p=q)from rfl,decide_not]
  simp [binOp,Op.intCmp,this]) hn h
theorem op_lss (s:NxF P n l E L Ls ⟨some d,.binOp .lss t x y t',ty,pos,aft,g⟩ X Y) (hx:ev l x=some (.int k p)) (hy:ev l y=some (.int k q)) (hn:Nat.ble (d+1) n=true) (h:At n ((d,.bool (decide (p<q)))::l) E L Y):At n l E L X:=
 op_int s hx hy (fun w=>by simp [binOp,Op.intCmp]) hn h
theorem op_leq (s:NxF P n l E L Ls ⟨some d,.binOp .leq t x y t',ty,pos,aft,g⟩ X Y) (hx:ev l x=some (.int k p)) (hy:ev l y=some (.int k q)) (hn:Nat.ble (d+1) n=true) (h:At n ((d,.bool (decide (p≤q)))::l) E L Y):At n l E L X:=
 op_int s hx hy (fun w=>by simp [binOp,Op.intCmp]) hn h
theorem op_gtr (s:NxF P n l E L Ls ⟨some d,.binOp .gtr t x y t',ty,pos,aft,g⟩ X Y) (hx:ev l x=some (.int k p)) (hy:ev l y=some (.int k q)) (hn:Nat.ble (d+1) n=true) (h:At n ((d,.bool (decide (q<p)))::l) E L Y):At n l E L X:=
 op_int s hx hy (fun w=>by simp [binOp,Op.intCmp]) hn h
theorem op_geq (s:NxF P n l E L Ls ⟨some d,.binOp .geq t x y t',ty,pos,aft,g⟩ X Y) (hx:ev l x=some (.int k p)) (hy:ev l y=some (.int k q)) (hn:Nat.ble (d+1) n=true) (h:At n ((d,.bool (decide (q≤p)))::l) E L Y):At n l E L X:=
 op_int s hx hy (fun w=>by simp [binOp,Op.intCmp]) hn h
theorem wrap_i64 {a:Int} (h1: -9223372036854775808≤a) (h2:a≤9223372036854775807):IntKind.i64.wrap a=a:=by
 unfold IntKind.wrap
 simp only [IntKind.bits,IntKind.signed,Bool.true_and,decide_eq_true_eq,show(2:Int)^64=18446744073709551616 from rfl,show(2:Int)^(64- 1)=9223372036854775808 from rfl]
 split<;>omega
theorem dD (s:NxF P n l E L Ls ⟨some d,.binOp .add t x y t',ty,pos,aft,g⟩ X Y) (hx:ev l x=some (.int .i64 p)) (hy:ev l y=some (.int .i64 q)) (h1: -9223372036854775808≤p+q) (h2:p+q≤9223372036854775807) (hn:Nat.ble (d+1) n=true) (h:At n ((d,.int .i64 (p+q))::l) E L Y):At n l E L X:=
 op_int s hx hy (fun w=>by simp [binOp,Op.intArith,wrap_i64 h1 h2]) hn h
theorem op_subI (s:NxF P n l E L Ls ⟨some d,.binOp .sub t x y t',ty,pos,aft,g⟩ X Y) (hx:ev l x=some (.int .i64 p)) (hy:ev l y=some (.int .i64 q)) (h1: -9223372036854775808≤p- q) (h2:p- q≤9223372036854775807) (hn:Nat.ble (d+1) n=true) (h:At n ((d,.int .i64 (p- q))::l) E L Y):At n l E L X:=
 op_int s hx hy (fun w=>by simp [binOp,Op.intArith,wrap_i64 h1 h2]) hn h
theorem op_mulI (s:NxF P n l E L Ls ⟨some d,.binOp .mul t x y t',ty,pos,aft,g⟩ X Y) (hx:ev l x=some (.int .i64 p)) (hy:ev l y=some (.int .i64 q)) (h1: -9223372036854775808≤p*q) (h2:p*q≤9223372036854775807) (hn:Nat.ble (d+1) n=true) (h:At n ((d,.int .i64 (p*q))::l) E L Y):At n l E L X:=
 op_int s hx hy (fun w=>by simp [binOp,Op.intArith,wrap_i64 h1 h2]) hn h
theorem op_quoI (s:NxF P n l E L Ls ⟨some d,.binOp .quo t x y t',ty,pos,aft,g⟩ X Y) (hx:ev l x=some (.int .i64 p)) (hy:ev l y=some (.int .i64 q)) (h1:0≤p) (h2:0<q) (h3:p≤9223372036854775807) (hn:Nat.ble (d+1) n=true) (h:At n ((d,.int .i64 (p/q))::l) E L Y):At n l E L X:=
 op_int s hx hy (fun w=>by
  have e:q≠0:=by omega
  have e2:p/q≤p:=Int.ediv_le_self _ h1
  have e3:0≤p/q:=Int.ediv_nonneg h1 (by omega)
  simp [binOp,Op.intDiv,e,Int.tdiv_eq_ediv_of_nonneg h1,wrap_i64 (show-9223372036854775808≤p/q by omega) (by omega)]) hn h
theorem op_rem (s:NxF P n l E L Ls ⟨some d,.binOp .rem t x y t',ty,pos,aft,g⟩ X Y) (hx:ev l x=some (.int k p)) (hy:ev l y=some (.int k q)) (h1:0≤p) (h2:0<q) (hn:Nat.ble (d+1) n=true) (h:At n ((d,.int k (p % q))::l) E L Y):At n l E L X:=
 op_int s hx hy (fun w=>by
  have e:q≠0:=by omega
  simp [binOp,Op.intDiv,e,Int.tmod_eq_emod_of_nonneg h1]) hn h
theorem op_addW (s:NxF P n l E L Ls ⟨some d,.binOp .add t x y t',ty,pos,aft,g⟩ X Y) (hx:ev l x=some (.int k p)) (hy:ev l y=some (.int k q)) (hn:Nat.ble (d+1) n=true) (h:At n ((d,.int k (k.wrap (p+q)))::l) E L Y):At n l E L X:=
 op_int s hx hy (fun w=>by simp [binOp,Op.intArith]) hn h
theorem op_subW (s:NxF P n l E L Ls ⟨some d,.binOp .sub t x y t',ty,pos,aft,g⟩ X Y) (hx:ev l x=some (.int k p)) (hy:ev l y=some (.int k q)) (hn:Nat.ble (d+1) n=true) (h:At n ((d,.int k (k.wrap (p- q)))::l) E L Y):At n l E L X:=
 op_int s hx hy (fun w=>by simp [binOp,Op.intArith]) hn h
theorem op_mulW (s:NxF P n l E L Ls ⟨some d,.binOp .mul t x y t',ty,pos,aft,g⟩ X Y) (hx:ev l x=some (.int k p)) (hy:ev l y=some (.int k q)) (hn:Nat.ble (d+1) n=true) (h:At n ((d,.int k (k.wrap (p*q)))::l) E L Y):At n l E L X:=
 op_int s hx hy (fun w=>by simp [binOp,Op.intArith]) hn h
theorem op_shlW {k':IntKind} (s:NxF P n l E L Ls ⟨some d,.binOp .shl t x y t',ty,pos,aft,g⟩ X Y) (hx:ev l x=some (.int k p)) (hy:ev l y=some (.int k' q)) (h1:0≤q) (hn:Nat.ble (d+1) n=true) (h:At n ((d,.int k (k.wrap (p*2^(min q.toNat k.bits))))::l) E L Y):At n l E L X:=
 op_sh s hx hy (fun w=>by simp [binOp,Op.shift,show ¬q<0 by omega]) hn h
theorem op_shrW {k':IntKind} (s:NxF P n l E L Ls ⟨some d,.binOp .shr t x y t',ty,pos,aft,g⟩ X Y) (hx:ev l x=some (.int k p)) (hy:ev l y=some (.int k' q)) (h1:0≤q) (h0:0≤p) (hn:Nat.ble (d+1) n=true) (h:At n ((d,.int k (p/2^(min q.toNat k.bits)))::l) E L Y):At n l E L X:=
 op_sh s hx hy (fun w=>by simp [binOp,Op.shift,show ¬q<0 by omega,Int.fdiv_eq_ediv_of_nonneg p (show(0:Int)≤2^(min q.toNat k.bits)from Int.le_of_lt (Int.pow_pos (by decide)))]) hn h
theorem op_bits {op:BinOp} (hop:op=.and∨op=.or∨op=.xor∨op=.andNot) (s:NxF P n l E L Ls ⟨some d,.binOp op t x y t',ty,pos,aft,g⟩ X Y) (hx:ev l x=some (.int k p)) (hy:ev l y=some (.int k q)) (hn:Nat.ble (d+1) n=true) (h:At n ((d,.int k (bits op k p q))::l) E L Y):At n l E L X:=
 op_int s hx hy (fun w=>by rcases hop with rfl|rfl|rfl|rfl<;>simp [binOp,Op.intBits,bits]) hn h
theorem op_not {b:Bool} (s:NxF P n l E L Ls ⟨some d,.unOp .not t x,ty,pos,aft,g⟩ X Y) (hx:ev l x=some (.bool b)) (hn:Nat.ble (d+1) n=true) (h:At n ((d,.bool (!b))::l) E L Y):At n l E L X:=
 op_val s (fun a w hf _=>by simp [execOp,hf.eval hx,Op.unary]) rfl hn h
end
end
def shl64 (x:UInt64) (n:Nat):UInt64:=UInt64.ofNat (x.toNat*2^n)
def shr64 (x:UInt64) (n:Nat):UInt64:=UInt64.ofNat (x.toNat/2^n)
def shl32 (x:UInt32) (n:Nat):UInt32:=UInt32.ofNat (x.toNat*2^n)
def shr32 (x:UInt32) (n:Nat):UInt32:=UInt32.ofNat (x.toNat/2^n)
def shl8 (x:UInt8) (n:Nat):UInt8:=UInt8.ofNat (x.toNat*2^n)
def shr8 (x:UInt8) (n:Nat):UInt8:=UInt8.ofNat (x.toNat/2^n)
theorem cast_pow (n:Nat):((2^n:Nat):Int)=(2:Int)^n:=by simp
theorem mulpow_mod (x n B:Nat):x*2^(min n B) % 2^B=x*2^n % 2^B:=by
 by_cases h:n≤B
 ·rw [Nat.min_eq_left h]
 ·rw [Nat.min_eq_right (by omega)]
  obtain⟨d,rfl⟩: ∃d,n=B+d:=⟨n- B,by omega⟩
  rw [Nat.pow_add,Nat.mul_mod_left,show x*(2^B*2^d)=x*2^d*2^B from by rw [Nat.mul_comm (2^B),Nat.mul_assoc],Nat.mul_mod_left]
theorem divpow_min (x n B:Nat) (hx:x<2^B):x/2^(min n B)=x/2^n:=by
 by_cases h:n≤B
 ·rw [Nat.min_eq_left h]
 ·rw [Nat.min_eq_right (by omega),Nat.div_eq_of_lt hx,Nat.div_eq_of_lt (Nat.lt_of_lt_of_le hx (Nat.pow_le_pow_right (by decide) (by omega)))]
theorem wrapU64 (m:Int):IntKind.u64.wrap m=m % 18446744073709551616:=by
 unfold IntKind.wrap;simp [IntKind.bits,IntKind.signed]
section
variable {P : Program} {n : Nat} {l : List (Nat × Value)} {E : World} {L Ls : List Heaplet} {o : Oper} {X Y : Act → World → Prop}
variable {d : Nat} {ty t t' : TypeId} {pos : String} {aft : Array Edge} {g : Option (Nat × Bool)} {v : Value} {x y z : Operand} {k : IntKind} {p q : Int}
section
variable {a b : UInt64}
theorem op_subU (s:NxF P n l E L Ls ⟨some d,.binOp .sub t x y t',ty,pos,aft,g⟩ X Y) (hx:ev l x=some (.int .u64 (a.toNat:Int))) (hy:ev l y=some (.int .u64 (b.toNat:Int))) (hn:Nat.ble (d+1) n=true) (h:At n ((d,.int .u64 ((a- b).toNat:Int))::l) E L Y):At n l E L X:=
 op_subW s hx hy hn (by rw [wrapU64,show((a.toNat:Int)- b.toNat) % 18446744073709551616=((a- b).toNat:Int)from by rw [UInt64.toNat_sub];have:=a.toNat_lt;have:=b.toNat_lt;omega];exact h)
theorem op_andU (s:NxF P n l E L Ls ⟨some d,.binOp .and t x y t',ty,pos,aft,g⟩ X Y) (hx:ev l x=some (.int .u64 (a.toNat:Int))) (hy:ev l y=some (.int .u64 (b.toNat:Int))) (hn:Nat.ble (d+1) n=true) (h:At n ((d,.int .u64 ((a&&&b).toNat:Int))::l) E L Y):At n l E L X:=
 op_bits (.inl rfl) s hx hy hn (by rw [bits_and_u64];exact h)
theorem op_orU (s:NxF P n l E L Ls ⟨some d,.binOp .or t x y t',ty,pos,aft,g⟩ X Y) (hx:ev l x=some (.int .u64 (a.toNat:Int))) (hy:ev l y=some (.int .u64 (b.toNat:Int))) (hn:Nat.ble (d+1) n=true) (h:At n ((d,.int .u64 ((a |||b).toNat:Int))::l) E L Y):At n l E L X:=
 op_bits (.inr (.inl rfl)) s hx hy hn (by rw [bits_or_u64];exact h)
theorem op_xorU (s:NxF P n l E L Ls ⟨some d,.binOp .xor t x y t',ty,pos,aft,g⟩ X Y) (hx:ev l x=some (.int .u64 (a.toNat:Int))) (hy:ev l y=some (.int .u64 (b.toNat:Int))) (hn:Nat.ble (d+1) n=true) (h:At n ((d,.int .u64 ((a^^^b).toNat:Int))::l) E L Y):At n l E L X:=
 op_bits (.inr (.inr (.inl rfl))) s hx hy hn (by rw [bits_xor_u64];exact h)
theorem op_shlU {k':IntKind} {m:Nat} (s:NxF P n l E L Ls ⟨some d,.binOp .shl t x y t',ty,pos,aft,g⟩ X Y) (hx:ev l x=some (.int .u64 (a.toNat:Int))) (hy:ev l y=some (.int k' q)) (hm:q=(m:Int)) (hn:Nat.ble (d+1) n=true) (h:At n ((d,.int .u64 ((shl64 a m).toNat:Int))::l) E L Y):At n l E L X:=
 op_shlW s hx hy (by omega) hn (by
  subst hm
  rw [wrapU64,show((a.toNat:Int)*2^(min ((m:Int).toNat) IntKind.u64.bits)) % 18446744073709551616=((shl64 a m).toNat:Int)from by
   rw [shl64,UInt64.toNat_ofNat',Int.toNat_natCast, ←mulpow_mod a.toNat m 64, ←cast_pow];simp [IntKind.bits]]
  exact h)
theorem op_shrU {k':IntKind} {m:Nat} (s:NxF P n l E L Ls ⟨some d,.binOp .shr t x y t',ty,pos,aft,g⟩ X Y) (hx:ev l x=some (.int .u64 (a.toNat:Int))) (hy:ev l y=some (.int k' q)) (hm:q=(m:Int)) (hn:Nat.ble (d+1) n=true) (h:At n ((d,.int .u64 ((shr64 a m).toNat:Int))::l) E L Y):At n l E L X:=
 op_shrW s hx hy (by omega) (by omega) hn (by
  subst hm
  rw [show((a.toNat:Int)/2^(min ((m:Int).toNat) IntKind.u64.bits))=((shr64 a m).toNat:Int)from by
   rw [shr64,UInt64.toNat_ofNat',Int.toNat_natCast, ←divpow_min a.toNat m 64 a.toNat_lt, ←cast_pow,Nat.mod_eq_of_lt (Nat.lt_of_le_of_lt (Nat.div_le_self _ _) a.toNat_lt)];rfl]
  exact h)
end
section
variable {a b : UInt32}
end
theorem op_convW {kt:IntKind} (s:NxF P n l E L Ls ⟨some d,.convert t t' x,ty,pos,aft,g⟩ X Y) (ht0:(P.underlying t).isSome=true) (ht:P.underlying t'=some (.int kt)) (hx:ev l x=some (.int k p)) (hn:Nat.ble (d+1) n=true) (h:At n ((d,.int kt (kt.wrap p))::l) E L Y):At n l E L X:=
 op_val s (fun a w hf _=>by
  obtain⟨d0,hd0⟩:=Option.isSome_iff_exists.1 ht0
  simp only [execOp,hf.eval hx,convert,Sem.run_bind,run_underlying hd0,run_underlying ht,Result.andThen_ok]
  simp [Conv.intToInt]) rfl hn h
theorem op_conv64 {m:Nat} (s:NxF P n l E L Ls ⟨some d,.convert t t' x,ty,pos,aft,g⟩ X Y) (ht0:(P.underlying t).isSome=true) (ht:P.underlying t'=some (.int .u64)) (hx:ev l x=some (.int k p)) (hm:p=(m:Int)) (hn:Nat.ble (d+1) n=true) (h:At n ((d,.int .u64 ((UInt64.ofNat m).toNat:Int))::l) E L Y):At n l E L X:=
 op_convW s ht0 ht hx hn (by rw [hm,wrap_u64_nat];exact h)
theorem op_conv8 {m:Nat} (s:NxF P n l E L Ls ⟨some d,.convert t t' x,ty,pos,aft,g⟩ X Y) (ht0:(P.underlying t).isSome=true) (ht:P.underlying t'=some (.int .u8)) (hx:ev l x=some (.int k p)) (hm:p=(m:Int)) (hn:Nat.ble (d+1) n=true) (h:At n ((d,.int .u8 ((UInt8.ofNat m).toNat:Int))::l) E L Y):At n l E L X:=
 op_convW s ht0 ht hx hn (by rw [hm,wrap_u8_nat];exact h)
theorem bW {vs:List Value} {i:Nat} (s:NxF P n l E L Ls ⟨some d,.extract x i,ty,pos,aft,g⟩ X Y) (hx:ev l x=some (.tuple vs.toArray)) (hv:vs[i]? =some v) (hn:Nat.ble (d+1) n=true) (h:At n ((d,v)::l) E L Y):At n l E L X:=
 op_val s (fun a w hf _=>by simp [execOp,hf.eval hx,Instr.extract,hv]) rfl hn h
theorem eqGuard_bool {op:BinOp} {b c:Bool} (w:World):(eqGuard op t x y (.bool b) (.bool c)).run P w=.ok () w:=by
 unfold eqGuard
 by_cases h:(!(op matches .eql|.neq))=true<;>simp [h]
theorem eqGuard_string {op:BinOp} {b c:ByteArray} (w:World):(eqGuard op t x y (.string b) (.string c)).run P w=.ok () w:=by
 unfold eqGuard
 by_cases h:(!(op matches .eql|.neq))=true<;>simp [h]
theorem run_equal_bool {b c:Bool} (w:World) (ht:P.underlying t=some .bool):(Op.equal t (.bool b) (.bool c)).run P w=.ok (b==c) w:=by
 exact run_equalIn_bool w 9999 t b c ht
theorem op_neB {b c:Bool} (s:NxF P n l E L Ls ⟨some d,.binOp .neq t x y t',ty,pos,aft,g⟩ X Y) (ht:P.underlying t=some .bool) (hx:ev l x=some (.bool b)) (hy:ev l y=some (.bool c)) (hn:Nat.ble (d+1) n=true) (h:At n ((d,.bool (b !=c))::l) E L Y):At n l E L X:=
 op_bin s hx hy (fun w=>eqGuard_bool w) (fun w=>by simp [binOp,run_equal_bool w ht,bne]) hn h
theorem op_neS {a b:List UInt8} (s:NxF P n l E L Ls ⟨some d,.binOp .neq t x y t',ty,pos,aft,g⟩ X Y) (hx:ev l x=some (str a)) (hy:ev l y=some (str b)) (hn:Nat.ble (d+1) n=true) (h:At n ((d,.bool (decide (a≠b)))::l) E L Y):At n l E L X:=
 op_bin s hx hy (fun w=>eqGuard_string w) (fun w=>by
  simp only [str,binOp,Op.stringOp,ByteArray.toList_eq,Sem.run_pure,decide_not,show(a==b)=decide (a=b)from by rw [Bool.eq_iff_iff];simp]) hn h
end
def Rng (N:Heaplet) (b off:Nat) (cs:List Value):Prop:= ∀i (h:i<cs.length),cellOf N b (off+i)=some cs[i]
def RSl (N:Heaplet) (size:Nat) (ao:Option Addr) (n cap:Nat) (xs:List Value):Prop:=
 xs.length=n*size∧n≤cap∧cap≤maxLen∧(0<n→ ∃b off,ao=some ⟨b,off,none⟩∧Rng N b off xs)
def Row (N:Heaplet) (e:TypeId) (size:Nat) (ao:Option Addr) (n cap:Nat) (xs:List Value):Prop:=
 xs.length=n*size∧n≤cap∧cap≤maxLen∧((ao=none∧n=0∧cap=0)∨
  ∃b cur,ao=some ⟨b,0,none⟩∧N b=some (.cells cur e (0,0))∧cur.size=cap*size∧cur.toList.take (n*size)=xs)
def Blk (N:Heaplet) (b:Nat) (e:TypeId) (cs:List Value):Prop:=N b=some (.cells cs.toArray e (0,0))
theorem Rng.le {N M:Heaplet} (hl:N.le M) {b off:Nat} {cs:List Value} (h:Rng N b off cs):Rng M b off cs:=fun i hi=>cellOf_le hl (h i hi)
theorem RSl.le {N M:Heaplet} (hl:N.le M) {size:Nat} {ao:Option Addr} {n cap:Nat} {xs:List Value} (h:RSl N size ao n cap xs):RSl M size ao n cap xs:=
 ⟨h.1,h.2.1,h.2.2.1,fun h0=>let ⟨b,off,e,hr⟩:=h.2.2.2 h0;⟨b,off,e,hr.le hl⟩⟩
theorem Blk.le {N M:Heaplet} (hl:N.le M) {b:Nat} {e:TypeId} {cs:List Value} (h:Blk N b e cs):Blk M b e cs:=hl _ _ h
theorem Blk.rng {N:Heaplet} {b:Nat} {e:TypeId} {cs:List Value} (h:Blk N b e cs):Rng N b 0 cs:=fun i hi=>by
 unfold cellOf;rw [h];simp [hi]
theorem Row.rsl {N:Heaplet} {e:TypeId} {size:Nat} {ao:Option Addr} {n cap:Nat} {xs:List Value} (h:Row N e size ao n cap xs):RSl N size ao n cap xs:=by
 obtain⟨h1,h2,h3,h4⟩:=h
 refine⟨h1,h2,h3,fun h0=>?_⟩
 rcases h4 with ⟨_,h5,_⟩|⟨b,cur,rfl,hN,hs,ht⟩
 ·omega
 ·refine⟨b,0,rfl,fun i hi=>?_⟩
  unfold cellOf
  rw [hN]
  simp only [Nat.zero_add]
  have:(cur.toList.take (n*size))[i]? =some xs[i]:=by rw [ht];exact List.getElem?_eq_getElem hi
  rw [List.getElem?_take]at this
  split at this
  ·simpa using this
  ·cases this
theorem RSl.nil (N:Heaplet) (size:Nat):RSl N size none 0 0 []:=⟨by simp,Nat.le_refl _,by unfold maxLen;omega,fun h=>absurd h (by omega)⟩
theorem Row.nil (N:Heaplet) (e:TypeId) (size:Nat):Row N e size none 0 0 []:=⟨by simp,Nat.le_refl _,by unfold maxLen;omega,.inl ⟨rfl,rfl,rfl⟩⟩
theorem RSl.sl {N:Heaplet} {w:World} (hN:N.le (whole w)) {size:Nat} {ao:Option Addr} {n cap:Nat} {xs:List Value} (h:RSl N size ao n cap xs):Sl w size ao n cap xs:=by
 refine⟨h.1,h.2.1,h.2.2.1,fun h0=>?_⟩
 obtain⟨b,off,e,hr⟩:=h.2.2.2 h0
 refine⟨b,off,e,fun i hi=>?_⟩
 have h1:=cellOf_le hN (hr i hi)
 unfold cellOf whole at h1
 unfold World.cell?
 split at h1
 ·rename_i e;rw [e];simpa using h1
 ·cases h1
def eptr (ao:Option Addr) (j:Nat):Value:=.pointer (ao.map fun a=>⟨a.block,a.off+j,none⟩)
def sadr (ao:Option Addr) (lo m size:Nat):Option Addr:=if m=lo then ao else ao.map (·.add (lo*size))
theorem RSl.part {N:Heaplet} {size:Nat} {ao:Option Addr} {n cap:Nat} {xs:List Value} (h:RSl N size ao n cap xs) {lo hi m:Nat} (h1:lo≤hi) (h2:hi≤m) (h3:m≤cap) (h4:hi≤n):
 RSl N size (sadr ao lo m size) (hi- lo) (m- lo) ((xs.drop (lo*size)).take ((hi- lo)*size)):=by
 obtain⟨a1,a2,a3,a4⟩:=h
 refine⟨?_,by omega,by omega,fun h0=>?_⟩
 ·rw [List.length_take,List.length_drop,a1, ←Nat.sub_mul,Nat.min_eq_left (Nat.mul_le_mul_right _ (by omega))]
 ·obtain⟨b,off,rfl,hr⟩:=a4 (by omega)
  have hne: ¬m=lo:=by omega
  refine⟨b,off+lo*size,?_,fun i hi'=>?_⟩
  ·unfold sadr Addr.add
   rw [if_neg hne]
   simp only [Option.map_some,Option.some.injEq]
   split
   ·rename_i hz;simp [hz]
   ·rfl
  ·have hlt:lo*size+i<xs.length:=by rw [List.length_take,List.length_drop]at hi';omega
   have:=hr (lo*size+i) hlt
   rw [show off+lo*size+i=off+(lo*size+i)from by omega,this]
   simp [List.getElem_take,List.getElem_drop]
theorem RSl.get {N:Heaplet} {size:Nat} {ao:Option Addr} {n cap:Nat} {xs:List Value} (h:RSl N size ao n cap xs) {j:Nat} {v:Value} (hj:xs[j]? =some v): ∃b off,ao=some ⟨b,off,none⟩∧cellOf N b (off+j)=some v:=by
 obtain⟨a1,a2,a3,a4⟩:=h
 obtain⟨hlt,rfl⟩:=List.getElem?_eq_some_iff.1 hj
 have hn:0<n:=by
  rcases Nat.eq_zero_or_pos n with h0|h0
  ·rw [h0,Nat.zero_mul]at a1;omega
  ·exact h0
 obtain⟨b,off,e,hr⟩:=a4 hn
 exact⟨b,off,e,hr j hlt⟩
theorem RSl.len {N:Heaplet} {ao:Option Addr} {n cap:Nat} {xs:List Value} (h:RSl N 1 ao n cap xs):xs.length=n:=by have:=h.1;omega
def scal (P:Program) (t:TypeId):Bool:=match P.underlying t with
 |some (.struct _)|some (.array _ _)|none=>false
 |_=>true
def aggOf (P:Program) (t:TypeId):Option Nat:=match P.underlying t with
 |some (.struct _)|some (.array _ _)=>(P.info? t).map (·.size)
 |_=>none
section
variable {P : Program} {w : World}
theorem run_isAgg_scal {t:TypeId} (h:scal P t=true):(isAgg t).run P w=.ok false w:=by
 unfold scal at h
 cases hu:P.underlying t with
 |none=>rw [hu]at h;cases h
 |some d=>
  simp only [isAgg,Sem.run_bind,run_underlying hu,Result.andThen_ok]
  rw [hu]at h
  cases d<;>first|rfl|cases h
theorem run_isAgg_agg {t:TypeId} {k:Nat} (h:aggOf P t=some k):(isAgg t).run P w=.ok true w∧(sizeOf t).run P w=.ok k w:=by
 unfold aggOf at h
 cases hu:P.underlying t with
 |none=>rw [hu]at h;cases h
 |some d=>
  simp only [isAgg,Sem.run_bind,run_underlying hu,Result.andThen_ok]
  rw [hu]at h
  cases d<;>first|(cases h;done)|skip
  all_goals
   simp only [Option.map_eq_some_iff]at h
   obtain⟨i,hi,rfl⟩:=h
   exact⟨rfl,by simp [sizeOf,typeInfo,hi]⟩
theorem run_load_scal {t:TypeId} (h:scal P t=true) {b off:Nat} {v:Value} (hc:w.cell? ⟨b,off,none⟩=some v):(loadVar t ⟨b,off,none⟩).run P w=.ok v w:=by
 unfold loadVar
 rw [Sem.run_bind,run_isAgg_scal h]
 simp only [Result.andThen_ok,Bool.false_eq_true,if_false]
 simp [load,Sem.run,hc]
theorem addr_add (b off i:Nat):(⟨b,off,none⟩:Addr).add i=⟨b,off+i,none⟩:=by
 unfold Addr.add
 split
 ·rename_i h;subst h;rfl
 ·rfl
theorem run_load_agg {t:TypeId} {k:Nat} (h:aggOf P t=some k) {b off:Nat} {cs:List Value} (hk:cs.length=k) (hc: ∀i (h:i<cs.length),w.cell? ⟨b,off+i,none⟩=some cs[i]):(loadVar t ⟨b,off,none⟩).run P w=.ok (.agg cs.toArray) w:=by
 unfold loadVar
 obtain⟨h1,h2⟩:=run_isAgg_agg (w:=w) h
 rw [Sem.run_bind,h1]
 simp only [Result.andThen_ok,if_true]
 rw [Sem.run_bind,h2]
 simp only [Result.andThen_ok]
 rw [Sem.run_bind, ←hk,run_loadCells_list w ⟨b,off,none⟩ cs (fun j u hu=>?_)]
 ·rfl
 ·obtain⟨hj,rfl⟩:=List.getElem?_eq_some_iff.1 hu
  rw [addr_add];exact hc j hj
end
def setL (cs:List Value) (off:Nat):List Value→List Value
 | []=>cs
 |v::t=>setL (cs.set off v) (off+1) t
theorem length_setL (vs:List Value): ∀(cs:List Value) (off:Nat),(setL cs off vs).length=cs.length:=by
 induction vs with
 |nil=>intro cs off;rfl
 |cons v t ih=>intro cs off;rw [setL,ih,List.length_set]
theorem run_storeCells {P:Program} (vs:List Value): ∀(w:World) (b off i:Nat) (cs:List Value) (e:TypeId),w.heap[b]? =some (.cells cs.toArray e (0,0))→(∀v∈vs,v.oneCell'=true)→off+i+vs.length≤cs.length→
 ∃w',(storeCells ⟨b,off,none⟩ vs i).run P w=.ok () w'∧w'.os=w.os∧w'.tape=w.tape∧w'.output=w.output∧w'.heap[b]? =some (.cells (setL cs (off+i) vs).toArray e (0,0))∧ ∀k,k≠b→w'.heap[k]? =w.heap[k]? :=by
 induction vs with
 |nil=>intro w b off i cs e hb _ _;exact⟨w,rfl,rfl,rfl,rfl,hb,fun _ _=>rfl⟩
 |cons v t ih=>
  intro w b off i cs e hb h1 hlen
  simp only [List.length_cons]at hlen
  have hcell:w.cell? ⟨b,off+i,none⟩=some cs[off+i]:=by
   unfold World.cell?
   rw [hb]
   simp
  have hfr:w.frozen? ⟨b,off+i,none⟩=false:=by
   unfold World.frozen?
   rw [hb]
   simp
  have hb':(w.setCell ⟨b,off+i,none⟩ v).heap[b]? =some (.cells (cs.set (off+i) v).toArray e (0,0)):=by
   unfold World.setCell
   simp only [Array.getElem?_modify,if_true,hb]
   simp
  obtain⟨w',hr,h2,h3,h4,h5,h6⟩:=ih (w.setCell ⟨b,off+i,none⟩ v) b off (i+1) (cs.set (off+i) v) e hb' (fun u hu=>h1 u (List.mem_cons_of_mem _ hu)) (by simp;omega)
  refine⟨w',?_,h2,h3,h4,by simpa [setL,Nat.add_assoc]using h5,fun k hk=>?_⟩
  ·unfold storeCells
   rw [Sem.run_bind,addr_add]
   have hst:(store ⟨b,off+i,none⟩ v).run P w=.ok () (w.setCell ⟨b,off+i,none⟩ v):=by
    have:=h1 v (List.mem_cons_self ..)
    cases v<;>first|(cases this;done)|simp [store,Sem.run,hcell,hfr]
   rw [hst]
   exact hr
  ·rw [h6 k hk]
   unfold World.setCell
   simp only [Array.getElem?_modify,if_neg (Ne.symm hk)]
def selt (P:Program) (t:TypeId):Option (TypeId×Nat):=match P.underlying t with
 |some (.slice e)=>(P.info? e).map fun i=>(e,i.size)
 |_=>none
def aelt (P:Program) (t:TypeId):Option (Nat×TypeId×Nat):=match P.underlying t with
 |some (.array k e)=>(P.info? e).map fun i=>(k,e,i.size)
 |_=>none
def fld (P:Program) (s:TypeId) (f:Nat):Option Nat:=match P.underlying s with
 |some (.struct fs)=>match fs[f]? with
  |some g=>match P.info? g.type with
   |some i=>if i.size=0 then none else some g.offset
   |none=>none
  |none=>none
 |_=>none
def zer (P:Program) (t:TypeId):Option Value:=(P.info? t).bind (·.zero)
def siz (P:Program) (t:TypeId):Option Nat:=(P.info? t).map (·.size)
def places (P:Program) (t:TypeId):Option (List (Nat×Nat)):=match P.underlying t with
 |some (.struct fs)=>fs.toList.mapM fun f=>(siz P f.type).map fun s=>(f.offset,s)
 |_=>none
def ElemOK (P:Program) (t e:TypeId) (z:Value) (size bytes:Nat):Prop:=P.underlying t=some (.slice e)∧ElemInfo P e z size bytes
theorem selt_spec {P:Program} {t e:TypeId} {s:Nat} (h:selt P t=some (e,s)):P.underlying t=some (.slice e)∧ ∃i,P.info? e=some i∧i.size=s:=by
 unfold selt at h
 split at h
 ·rename_i e' hu
  simp only [Option.map_eq_some_iff,Prod.mk.injEq]at h
  obtain⟨i,hi,rfl,rfl⟩:=h
  exact⟨hu,i,hi,rfl⟩
 ·cases h
theorem aelt_spec {P:Program} {t e:TypeId} {k s:Nat} (h:aelt P t=some (k,e,s)):P.underlying t=some (.array k e)∧ ∃i,P.info? e=some i∧i.size=s:=by
 unfold aelt at h
 split at h
 ·rename_i k' e' hu
  simp only [Option.map_eq_some_iff,Prod.mk.injEq]at h
  obtain⟨i,hi,rfl,rfl,rfl⟩:=h
  exact⟨hu,i,hi,rfl⟩
 ·cases h
theorem run_sizeOf {P:Program} {t:TypeId} {i:TypeInfo} (h:P.info? t=some i) (w:World):(sizeOf t).run P w=.ok i.size w:=by simp [sizeOf,typeInfo,h]
theorem run_fieldAt {P:Program} {s:TypeId} {f off:Nat} (h:fld P s f=some off) (b o:Nat) (w:World):(Instr.fieldAt s (.pointer (some ⟨b,o,none⟩)) f).run P w=.ok (.pointer (some ⟨b,o+off,none⟩)) w:=by
 unfold fld at h
 split at h
 ·rename_i fs hu
  split at h
  ·rename_i g hg
   split at h
   ·rename_i i hi
    split at h
    ·cases h
    ·rename_i hz
     cases h
     simp only [Instr.fieldAt,Sem.run_bind,run_underlying hu,Result.andThen_ok,hg,Instr.sureAddr,Sem.run_pure,fieldPlace,run_sizeOf hi,if_neg hz,addr_add]
   ·cases h
  ·cases h
 ·cases h
inductive Bd (l:List (Nat×Value)):Option Operand→Nat→Nat→Prop
 |none {d:Nat} :Bd l none d d
 |some {o:Operand} {d m:Nat} {k:IntKind} {p:Int} (h:ev l o=some (.int k p)) (hp:p=(m:Int)):Bd l (some o) d m
theorem run_sliceBound {P:Program} {k:IntKind} {m y:Nat} {c:BoundsCode} (h:m≤y) (w:World):(Instr.sliceBound (.int k (m:Int)) y c).run P w=.ok m w:=by
 simp [Instr.sliceBound,asIntOf,h]
theorem run_sliceBounds {P:Program} {n:Nat} {l:List (Nat×Value)} {ds:List Deferred} {a:Act} (hf:Fr ds n l a) {isS:Bool} {len cap:Nat} {lo hi mx:Option Operand} {x y z:Nat} (hlo:Bd l lo 0 x) (hhi:Bd l hi len y) (hmx:Bd l mx cap z) (h1:x≤y) (h2:y≤z) (h3:z≤cap)
 (hm:mx.isSome=true→hi.isSome=true) (w:World):(Instr.sliceBounds isS len cap (lo.map a.eval) (hi.map a.eval) (mx.map a.eval)).run P w=.ok (x,y,z) w:=by
 cases hmx with
 |none=>
  cases hhi with
  |none=>
   cases hlo with
   |none=>simp [Instr.sliceBounds]
   |some h hp=>subst hp;simp [Instr.sliceBounds,hf.eval h,run_sliceBound h1]
  |some h' hp'=>
   subst hp'
   cases hlo with
   |none=>simp [Instr.sliceBounds,hf.eval h',run_sliceBound h2]
   |some h hp=>subst hp;simp [Instr.sliceBounds,hf.eval h',run_sliceBound h2,hf.eval h,run_sliceBound h1]
 |some h'' hp''=>
  subst hp''
  cases hhi with
  |none=>exact absurd (hm rfl) (by simp)
  |some h' hp'=>
   subst hp'
   cases hlo with
   |none=>simp [Instr.sliceBounds,hf.eval h'',run_sliceBound h3,hf.eval h',run_sliceBound h2]
   |some h hp=>subst hp;simp [Instr.sliceBounds,hf.eval h'',run_sliceBound h3,hf.eval h',run_sliceBound h2,hf.eval h,run_sliceBound h1]
section
variable {P : Program} {n : Nat} {l : List (Nat × Value)} {E : World} {L L1 Ls : List Heaplet} {o : Oper} {X Y : Act → World → Prop} {N : Heaplet}
variable {d : Nat} {ty t t' e : TypeId} {pos : String} {aft : Array Edge} {g : Option (Nat × Bool)} {v : Value} {x y z : Operand} {k : IntKind} {p q : Int} {size len cap : Nat} {ao : Option Addr} {xs : List Value} {b off j : Nat}
theorem op_load (s:NxF P n l E L Ls ⟨some d,.load t x,ty,pos,aft,g⟩ X Y) (ht:scal P t=true) (hx:ev l x=some (.pointer (some ⟨b,off,none⟩))) (hc:cellOf N b off=some v) (hN:N∈Ls) (hn:Nat.ble (d+1) n=true) (h:At n ((d,v)::l) E L Y):At n l E L X:=
 op_val s (fun a w hf hw=>by
  simp only [execOp,hf.eval hx,Instr.loadAt,Instr.sureAddr,Sem.run_bind,Sem.run_pure,Result.andThen_ok,run_load_scal ht (hw.cell hN hc)]) rfl hn h
theorem aU {cs:List Value} (s:NxF P n l E L Ls ⟨some d,.load t x,ty,pos,aft,g⟩ X Y) (ht:scal P t=true) (hx:ev l x=some (.pointer (some ⟨b,off,none⟩))) (hb:Blk N b e cs) (hc:cs[off]? =some v) (hN:N∈Ls) (hn:Nat.ble (d+1) n=true) (h:At n ((d,v)::l) E L Y):At n l E L X:=
 op_load s ht hx (by obtain⟨hl,rfl⟩:=List.getElem?_eq_some_iff.1 hc;simpa using hb.rng off hl) hN hn h
theorem op_loadE (s:NxF P n l E L Ls ⟨some d,.load t x,ty,pos,aft,g⟩ X Y) (ht:scal P t=true) (hx:ev l x=some (eptr ao j)) (hs:RSl N size ao len cap xs) (hc:xs[j]? =some v) (hN:N∈Ls) (hn:Nat.ble (d+1) n=true) (h:At n ((d,v)::l) E L Y):At n l E L X:=by
 obtain⟨b,off,rfl,hcell⟩:=hs.get hc
 exact op_load s ht hx hcell hN hn h
theorem op_loadAgg {cs:List Value} {kk:Nat} (s:NxF P n l E L Ls ⟨some d,.load t x,ty,pos,aft,g⟩ X Y) (ht:aggOf P t=some kk) (hx:ev l x=some (.pointer (some ⟨b,off,none⟩))) (hc:Rng N b off cs) (hk:cs.length=kk) (hN:N∈Ls) (hn:Nat.ble (d+1) n=true) (h:At n ((d,.agg cs.toArray)::l) E L Y):At n l E L X:=
 op_val s (fun a w hf hw=>by
  simp only [execOp,hf.eval hx,Instr.loadAt,Instr.sureAddr,Sem.run_bind,Sem.run_pure,Result.andThen_ok,run_load_agg ht hk (fun i hi=>hw.cell hN (hc i hi))]) rfl hn h
theorem Rng.sub {cs ds:List Value} {o:Nat} (h:Rng N b off cs) (hs: ∀i (hi:i<ds.length),cs[o+i]? =some ds[i]):Rng N b (off+o) ds:=fun i hi=>by
 obtain⟨hl,he⟩:=List.getElem?_eq_some_iff.1 (hs i hi)
 rw [Nat.add_assoc,h _ hl,he]
theorem aK {cs ds:List Value} {kk:Nat} (s:NxF P n l E L Ls ⟨some d,.load t x,ty,pos,aft,g⟩ X Y) (ht:aggOf P t=some kk) (hx:ev l x=some (.pointer (some ⟨b,off,none⟩))) (hb:Blk N b e cs) (hd:(cs.drop off).take kk=ds) (hk:ds.length=kk) (hN:N∈Ls) (hn:Nat.ble (d+1) n=true) (h:At n ((d,.agg ds.toArray)::l) E L Y):At n l E L X:=
 op_loadAgg s ht hx (by
  have:=hb.rng.sub (o:=off) (ds:=ds) (fun i hi=>by
   have h2:((cs.drop off).take kk)[i]? =some ds[i]:=by rw [hd];exact List.getElem?_eq_getElem hi
   rw [List.getElem?_take,if_pos (by omega),List.getElem?_drop]at h2
   exact h2)
  simpa using this) hk hN hn h
theorem RSl.rng (hs:RSl N size ao len cap xs) (h0:0<xs.length): ∃b off,ao=some ⟨b,off,none⟩∧Rng N b off xs:=by
 obtain⟨a1,a2,a3,a4⟩:=hs
 refine a4 ?_
 rcases Nat.eq_zero_or_pos len with h|h
 ·rw [h,Nat.zero_mul]at a1;omega
 ·exact h
theorem op_loadAggE {ds:List Value} {kk:Nat} (s:NxF P n l E L Ls ⟨some d,.load t x,ty,pos,aft,g⟩ X Y) (ht:aggOf P t=some kk) (hx:ev l x=some (eptr ao j)) (hs:RSl N size ao len cap xs) (hd:(xs.drop j).take kk=ds) (hk:ds.length=kk) (h0:0<kk) (hN:N∈Ls) (hn:Nat.ble (d+1) n=true) (h:At n ((d,.agg ds.toArray)::l) E L Y):At n l E L X:=by
 have hlen:0<xs.length:=by
  have:ds.length≤xs.length:=by rw [←hd,List.length_take,List.length_drop];omega
  omega
 obtain⟨b,off,rfl,hr⟩:=hs.rng hlen
 refine op_loadAgg s ht hx (b:=b) (off:=off+j) (hr.sub (ds:=ds) fun i hi=>?_) hk hN hn h
 have h2:((xs.drop j).take kk)[i]? =some ds[i]:=by rw [hd];exact List.getElem?_eq_getElem hi
 rw [List.getElem?_take,if_pos (by omega),List.getElem?_drop]at h2
 exact h2
theorem aJ {f fo:Nat} (s:NxF P n l E L Ls ⟨some d,.fieldAddr t x f,ty,pos,aft,g⟩ X Y) (ht:fld P t f=some fo) (hx:ev l x=some (.pointer (some ⟨b,off,none⟩))) (hn:Nat.ble (d+1) n=true) (h:At n ((d,.pointer (some ⟨b,off+fo,none⟩))::l) E L Y):At n l E L X:=
 op_val s (fun a w hf hw=>by
  simp only [execOp,hf.eval hx,Sem.run_bind,Sem.run_pure,Result.andThen_ok,run_fieldAt ht]) rfl hn h
theorem dA {f fo:Nat} (s:NxF P n l E L Ls ⟨some d,.fieldAddr t x f,ty,pos,aft,g⟩ X Y) (ht:fld P t f=some fo) (hx:ev l x=some (eptr ao j)) (hs:ao.isSome=true) (hn:Nat.ble (d+1) n=true) (h:At n ((d,eptr ao (j+fo))::l) E L Y):At n l E L X:=by
 obtain⟨⟨b,off,sp⟩,rfl⟩:=Option.isSome_iff_exists.1 hs
 exact aJ s ht hx hn (by simpa [eptr,Nat.add_assoc]using h)
theorem op_idxE (s:NxF P n l E L Ls ⟨some d,.indexAddr t x y,ty,pos,aft,g⟩ X Y) (ht:selt P t=some (e,size)) (hx:ev l x=some (.slice ao len cap)) (hy:ev l y=some (.int k p)) (hs:RSl N size ao len cap xs) (hj:p=(j:Int)) (hlt:j<len) (hn:Nat.ble (d+1) n=true) (h:At n ((d,eptr ao (j*size))::l) E L Y):At n l E L X:=by
 obtain⟨b,off,rfl,_⟩:=hs.2.2.2 (by omega)
 obtain⟨hu,i,hi,hsz⟩:=selt_spec ht
 refine op_val s (fun a w hf hw=>?_) U hn h
 subst hj
 simp only [execOp,hf.eval hx,hf.eval hy,Instr.indexAt,asIntOf,Sem.run_bind,Sem.run_pure,Result.andThen_ok,run_underlying hu]
 have h0:(0:Int)≤(j:Int)∧(j:Int)<(len:Int):=by omega
 simp only [if_pos h0,Sem.run_bind,run_sizeOf hi,hsz,Result.andThen_ok,Int.toNat_natCast,addr_add,Sem.run_pure]
 by_cases hl1:len≤1<;>simp [hl1,run_underlying hu,eptr]
theorem op_idxA {alen:Nat} (s:NxF P n l E L Ls ⟨some d,.indexAddr t x y,ty,pos,aft,g⟩ X Y) (ht:aelt P t=some (alen,e,size)) (hx:ev l x=some (.pointer (some ⟨b,off,none⟩))) (hy:ev l y=some (.int k p)) (hj:p=(j:Int)) (hlt:j<alen) (hn:Nat.ble (d+1) n=true) (h:At n ((d,.pointer (some ⟨b,off+j*size,none⟩))::l) E L Y):At n l E L X:=by
 obtain⟨hu,i,hi,hsz⟩:=aelt_spec ht
 refine op_val s (fun a w hf hw=>?_) U hn h
 subst hj
 simp only [execOp,hf.eval hx,hf.eval hy,Instr.indexAt,Instr.sureAddr,asIntOf,Sem.run_bind,Sem.run_pure,Result.andThen_ok,run_underlying hu]
 have h0:(0:Int)≤(j:Int)∧(j:Int)<(alen:Int):=by omega
 simp only [if_pos h0,Sem.run_bind,run_sizeOf hi,hsz,Result.andThen_ok,Int.toNat_natCast,addr_add,Sem.run_pure]
theorem op_slice {lo hi mx:Option Operand} {x' y' z':Nat} (s:NxF P n l E L Ls ⟨some d,.slice t x lo hi mx,ty,pos,aft,g⟩ X Y) (ht:selt P t=some (e,size)) (hx:ev l x=some (.slice ao len cap)) (hlo:Bd l lo 0 x') (hhi:Bd l hi len y') (hmx:Bd l mx cap z') (h1:x'≤y') (h2:y'≤z') (h3:z'≤cap)
 (hm:mx.isSome=true→hi.isSome=true) (hn:Nat.ble (d+1) n=true) (h:At n ((d,.slice (sadr ao x' z' size) (y'- x') (z'- x'))::l) E L Y):At n l E L X:=by
 obtain⟨hu,i,hi',hsz⟩:=selt_spec ht
 refine op_val s (fun a w hf hw=>?_) U hn h
 simp only [execOp,hf.eval hx,Instr.sliceAt,Instr.slice,Sem.run_bind,run_underlying hu,Result.andThen_ok,run_sliceBounds hf hlo hhi hmx h1 h2 h3 hm,run_sizeOf hi',hsz,Sem.run_pure,sadr]
theorem op_sliceA {lo hi mx:Option Operand} {alen x' y' z':Nat} (s:NxF P n l E L Ls ⟨some d,.slice t x lo hi mx,ty,pos,aft,g⟩ X Y) (ht:aelt P t=some (alen,e,size)) (hx:ev l x=some (.pointer (some ⟨b,off,none⟩))) (hlo:Bd l lo 0 x') (hhi:Bd l hi alen y') (hmx:Bd l mx alen z') (h1:x'≤y') (h2:y'≤z') (h3:z'≤alen)
 (hm:mx.isSome=true→hi.isSome=true) (hn:Nat.ble (d+1) n=true) (h:At n ((d,.slice (some (if z'=x' then ⟨b,off,none⟩else ⟨b,off+x'*size,none⟩)) (y'- x') (z'- x'))::l) E L Y):At n l E L X:=by
 obtain⟨hu,i,hi',hsz⟩:=aelt_spec ht
 refine op_val s (fun a w hf hw=>?_) U hn h
 simp only [execOp,hf.eval hx,Instr.sliceAt,Instr.sureAddr,Sem.run_bind,Sem.run_pure,run_underlying hu,Result.andThen_ok,run_sliceBounds hf hlo hhi hmx h1 h2 h3 hm,run_sizeOf hi',hsz,addr_add]
theorem dB (s:NxF P n l E L Ls ⟨some d,.call ⟨.builtin .len, #[x], #[t]⟩,ty,pos,aft,g⟩ X Y) (ht:selt P t=some (e,size)) (hx:ev l x=some (.slice ao len cap)) (hn:Nat.ble (d+1) n=true) (h:At n ((d,.int .i64 (len:Int))::l) E L Y):At n l E L X:=by
 obtain⟨hu,_⟩:=selt_spec ht
 refine op_val s (fun a w hf hw=>?_) U hn h
 simp only [execOp,resolve,invoke,builtin,Sem.run_bind,Sem.run_pure,Result.andThen_ok,List.map_toArray,List.map_cons,List.map_nil,hf.eval hx,Builtin.len_]
 simp [run_underlying hu,goInt]
theorem op_str {bs:List UInt8} (s:NxF P n l E L Ls ⟨some d,.convert t t' x,ty,pos,aft,g⟩ X Y) (ht:P.underlying t=some (.slice e)) (he:P.underlying e=some (.int .u8)) (ht':P.underlying t'=some .string) (hx:ev l x=some (.slice ao len cap)) (hs:RSl N 1 ao len cap (u8s bs)) (hN:N∈Ls) (hn:Nat.ble (d+1) n=true) (h:At n ((d,str bs)::l) E L Y):At n l E L X:=by
 refine op_val s (fun a w hf hw=>?_) U hn h
 have hr:=run_string (P:=P) ht he ht' (hs.sl (hw.sub N hN))
 simp only [execOp,hf.eval hx]
 rw [Sem.run_bind,hr]
 rfl
end
theorem sel0 {A:Heaplet} {L:List Heaplet} :(A::L).Perm (A::L):=.refl _
theorem permSel0 {n:Nat} {l:List (Nat×Value)} {E:World} {K:Act→World→Prop} {L:List Heaplet} {A0:Heaplet} (h:At n l E (A0::L) K):At n l E (A0::L) K:=At.perm sel0 h
theorem sel1 {A B:Heaplet} {L:List Heaplet} :(B::A::L).Perm (A::B::L):=.swap _ _ _
theorem cH {n:Nat} {l:List (Nat×Value)} {E:World} {K:Act→World→Prop} {L:List Heaplet} {A0 A1:Heaplet} (h:At n l E (A0::A1::L) K):At n l E (A1::A0::L) K:=At.perm sel1 h
theorem sel2 {A B C:Heaplet} {L:List Heaplet} :(B::C::A::L).Perm (A::B::C::L):=(List.Perm.cons _ (.swap _ _ _)).trans (.swap _ _ _)
theorem bF {n:Nat} {l:List (Nat×Value)} {E:World} {K:Act→World→Prop} {L:List Heaplet} {A0 A1 A2:Heaplet} (h:At n l E (A0::A1::A2::L) K):At n l E (A1::A2::A0::L) K:=At.perm sel2 h
theorem sel3 {A B C D:Heaplet} {L:List Heaplet} :(B::C::D::A::L).Perm (A::B::C::D::L):=(List.Perm.cons _ sel2).trans (.swap _ _ _)
theorem bI {n:Nat} {l:List (Nat×Value)} {E:World} {K:Act→World→Prop} {L:List Heaplet} {A0 A1 A2 A3:Heaplet} (h:At n l E (A0::A1::A2::A3::L) K):At n l E (A1::A2::A3::A0::L) K:=At.perm sel3 h
theorem sel4 {A B C D F:Heaplet} {L:List Heaplet} :(B::C::D::F::A::L).Perm (A::B::C::D::F::L):=(List.Perm.cons _ sel3).trans (.swap _ _ _)
theorem bA {n:Nat} {l:List (Nat×Value)} {E:World} {K:Act→World→Prop} {L:List Heaplet} {A0 A1 A2 A3 A4:Heaplet} (h:At n l E (A0::A1::A2::A3::A4::L) K):At n l E (A1::A2::A3::A4::A0::L) K:=At.perm sel4 h
section
variable {P : Program} {n : Nat} {l : List (Nat × Value)} {E : World} {L L1 : List Heaplet} {o : Oper} {X Y : Act → World → Prop} {N : Heaplet}
variable {d : Nat} {ty t t' e : TypeId} {pos : String} {aft : Array Edge} {g : Option (Nat × Bool)} {v : Value} {x y z : Operand} {k : IntKind} {p q : Int} {size len cap : Nat} {ao : Option Addr} {xs : List Value} {b off j : Nat}
theorem op_new (s:NxA P n l E L o X Y) (C:Value→List Heaplet→Prop) (hr: ∀a w,Fr (dfOf E) n l a→Hp E L w→ ∃v w' L',(execOp a.eval o).run P w=.ok (.value v) w'∧Agree w w'∧Hp E L' w'∧C v L') (hd:o.dst=some d) (hn:Nat.ble (d+1) n=true)
 (h: ∀v L',C v L'→At n ((d,v)::l) E L' Y):At n l E L X:=fun a w hf hw=>by
 obtain⟨v,w',L',h1,h2,h3,h4⟩:=hr a w hf hw
 refine s a w hf hw ?_
 unfold Oper.wp
 rw [h1]
 simp only [Oper.upon,hd]
 exact⟨h2,h v L' h4 _ _ (hf.put (Nat.le_of_ble_eq_true hn)) h3⟩
theorem op_upd (s:Nx P n l E L o X Y) (C:Value→List Heaplet→Prop) (hr: ∀a w,Fr (dfOf E) n l a→Hp E L w→ ∃v w' L',(execOp a.eval o).run P w=.ok (.value v) w'∧Hp E L' w'∧C v L') (hd:o.dst=some d) (hn:Nat.ble (d+1) n=true)
 (h: ∀v L',C v L'→At n ((d,v)::l) E L' Y):At n l E L X:=fun a w hf hw=>by
 obtain⟨v,w',L',h1,h3,h4⟩:=hr a w hf hw
 refine s a w hf hw ?_
 unfold Oper.wp
 rw [h1]
 simp only [Oper.upon,hd]
 exact h v L' h4 _ _ (hf.put (Nat.le_of_ble_eq_true hn)) h3
theorem upd_self (N:Heaplet) (b:Nat) (o:Obj):upd N b o b=some o:=by simp [upd]
theorem single_self (b:Nat) (o:Obj):single b o b=some o:=by simp [single]
theorem bZ {zs:Value} (s:NxA P n l E L ⟨some d,.alloc t,ty,pos,aft,g⟩ X Y) (hz:zer P t=some zs) (hn:Nat.ble (d+1) n=true)
 (h: ∀N b,Blk N b t zs.cells.toList→At n ((d,.pointer (some ⟨b,0,none⟩))::l) E (N::L) Y):At n l E L X:=by
 obtain⟨i,hi,hiz⟩:=Option.bind_eq_some_iff.1 hz
 refine op_new s (fun v L'=> ∃N b,v=.pointer (some ⟨b,0,none⟩)∧L'=N::L∧Blk N b t zs.cells.toList) (fun a w hf hw=>?_) rfl hn (fun v L' ⟨N,b,hv,hL,hB⟩=>by subst hv;subst hL;exact h N b hB)
 refine⟨_,_,_,?_,Agree.alloc w (.cells zs.cells t),hw.alloc _,single w.heap.size (.cells zs.cells t),w.heap.size,rfl,rfl,by unfold Blk;simpa using single_self _ _⟩
 simp [execOp,Instr.alloc,zeroValue,typeInfo,hi,hiz,newVar,newRow,newObj,Sem.run]
theorem cU {vs:List Value} (s:NxA P n l E L ⟨some d,.box t x,ty,pos,aft,g⟩ X Y) (hx:ev l x=some v) (hv:v.cells=vs.toArray) (hn:Nat.ble (d+1) n=true)
 (h: ∀N b,Blk N b t vs→At n ((d,.pointer (some ⟨b,0,none⟩))::l) E (N::L) Y):At n l E L X:=by
 refine op_new s (fun v L'=> ∃N b,v=.pointer (some ⟨b,0,none⟩)∧L'=N::L∧Blk N b t vs) (fun a w hf hw=>?_) rfl hn (fun v L' ⟨N,b,hv,hL,hB⟩=>by subst hv;subst hL;exact h N b hB)
 refine⟨_,_,_,?_,Agree.alloc w (.cells vs.toArray t),hw.alloc _,single w.heap.size (.cells vs.toArray t),w.heap.size,rfl,rfl,single_self _ _⟩
 simp [execOp,Instr.box,hf.eval hx,newVar,newRow,newObj,Sem.run,hv]
theorem bP {cs vs:List Value} {kk:Nat} (s:Nx P n l E L ⟨none,.store t x y,ty,pos,aft,g⟩ X Y) (ht0:siz P t=some kk) (hx:ev l x=some (.pointer (some ⟨b,off,none⟩))) (hy:ev l y=some v) (hv:v.cells=vs.toArray) (hk:vs.length=kk) (h1:vs.all (·.oneCell')=true) (hb:Blk N b e cs) (hlen:off+vs.length≤cs.length) (hs:L.Perm (N::L1))
 (h: ∀N,Blk N b e (setL cs off vs)→At n l E (N::L1) Y):At n l E L X:=fun a w hf hw=>by
 have ht:siz P t=some vs.length:=by rw [ht0,hk]
 have hw2:=hw.perm hs
 have hheap:=hw2.sub N (List.mem_cons_self ..) _ _ hb
 obtain⟨w',hr,e1,e2,e3,e4,e5⟩:=run_storeCells (P:=P) vs w b off 0 cs e hheap (fun u hu=>List.all_eq_true.1 h1 u hu) (by omega)
 obtain⟨i,hi,hsz⟩:=Option.map_eq_some_iff.1 ht
 refine s a w hf hw ?_
 unfold Oper.wp
 have hrun:(execOp a.eval ⟨none,.store t x y,ty,pos,aft,g⟩).run P w=.ok .skip w':=by
  simp only [execOp,hf.eval hx,hf.eval hy,Instr.storeAt,Instr.sureAddr,Sem.run_bind,Sem.run_pure,Result.andThen_ok,storeVar,run_sizeOf hi,hsz,hv]
  simp only [List.size_toArray,ne_eq,not_true,if_false]
  rw [hr]
  rfl
 rw [hrun]
 exact h (upd N b (.cells (setL cs off vs).toArray e (0,0))) (upd_self _ _ _) a w' hf (hw2.put hb e1 e2 e3 (by simpa using e4) fun k hk _=>e5 k hk)
theorem setL_take (vs:List Value): ∀(cs:List Value) (off m:Nat),off+vs.length≤m→(setL cs off vs).take m=setL (cs.take m) off vs:=by
 induction vs with
 |nil=>intro cs off m _;rfl
 |cons v t ih=>
  intro cs off m h
  simp only [List.length_cons]at h
  rw [setL,setL,ih _ _ _ (by omega),List.take_set]
theorem op_storeE {vs:List Value} {kk:Nat} (s:Nx P n l E L ⟨none,.store t x y,ty,pos,aft,g⟩ X Y) (ht0:siz P t=some kk) (hx:ev l x=some (eptr ao j)) (hy:ev l y=some v) (hv:v.cells=vs.toArray) (hk:vs.length=kk) (h1:vs.all (·.oneCell')=true) (hb:Row N e size ao len cap xs) (hlen:j+vs.length≤xs.length) (h0:0<vs.length) (hs:L.Perm (N::L1))
 (h: ∀N,Row N e size ao len cap (setL xs j vs)→At n l E (N::L1) Y):At n l E L X:=fun a w hf hw=>by
 have ht:siz P t=some vs.length:=by rw [ht0,hk]
 have hw2:=hw.perm hs
 obtain⟨a1,a2,a3,a4⟩:=hb
 have hn0:0<len:=by
  rcases Nat.eq_zero_or_pos len with h|h
  ·rw [h,Nat.zero_mul]at a1;omega
  ·exact h
 rcases a4 with ⟨_,hz,_⟩|⟨b,cur,rfl,hN,hcs,ht'⟩
 ·omega
 have hN':N b=some (.cells cur.toList.toArray e (0,0)):=by simpa using hN
 have hheap:=hw2.sub N (List.mem_cons_self ..) _ _ hN'
 have hxl:xs.length≤cur.toList.length:=by rw [a1,Array.length_toList,hcs];exact Nat.mul_le_mul_right _ a2
 obtain⟨w',hr,e1,e2,e3,e4,e5⟩:=run_storeCells (P:=P) vs w b j 0 cur.toList e hheap (fun u hu=>List.all_eq_true.1 h1 u hu) (by omega)
 obtain⟨i,hi,hsz⟩:=Option.map_eq_some_iff.1 ht
 refine s a w hf hw ?_
 unfold Oper.wp
 have hrun:(execOp a.eval ⟨none,.store t x y,ty,pos,aft,g⟩).run P w=.ok .skip w':=by
  simp only [execOp,hf.eval hx,hf.eval hy,eptr,Option.map_some,Nat.zero_add,Instr.storeAt,Instr.sureAddr,Sem.run_bind,Sem.run_pure,Result.andThen_ok,storeVar,run_sizeOf hi,hsz,hv]
  simp only [List.size_toArray,ne_eq,not_true,if_false]
  rw [hr]
  rfl
 rw [hrun]
 refine h (upd N b (.cells (setL cur.toList j vs).toArray e (0,0))) ⟨by rw [length_setL,a1],a2,a3,.inr ⟨b,_,rfl,upd_self _ _ _,by simp [length_setL,hcs],?_⟩⟩ a w' hf (hw2.put hN' e1 e2 e3 (by simpa using e4) fun k hk _=>e5 k hk)
 rw [List.toList_toArray,setL_take _ _ _ _ (by omega),ht']
theorem owns_row {w:World} {e:TypeId} {size len cap:Nat} {ao:Option Addr} {xs:List Value} (h:w.ownsRow 0 e size (.slice ao len cap) len xs):(ao=none∧ ∀M:Heaplet,Row M e size ao len cap xs)∨ ∃b cur,ao=some ⟨b,0,none⟩∧w.heap[b]? =some (.cells cur e (0,0))∧ ∀M:Heaplet,M b=some (.cells cur e (0,0))→Row M e size ao len cap xs:=by
 obtain⟨h1,⟨hv,hn⟩|⟨b,cap',cur,hv,_,hb,hnc,hcm,hcs,ht⟩⟩:=h
 ·simp only [Value.slice.injEq]at hv
  obtain⟨rfl,_,rfl⟩:=hv
  subst hn
  exact .inl ⟨rfl,fun M=>⟨h1,Nat.le_refl _,by unfold maxLen;omega,.inl ⟨rfl,rfl,rfl⟩⟩⟩
 ·simp only [Value.slice.injEq,true_and]at hv
  obtain⟨rfl,rfl⟩:=hv
  exact .inr ⟨b,cur,rfl,hb,fun M hM=>⟨h1,hnc,hcm,.inr ⟨b,cur,rfl,hM,hcs,ht⟩⟩⟩
theorem Row.owns {w:World} (hN:N.le (whole w)) (h:Row N e size ao len cap xs):w.ownsRow 0 e size (.slice ao len cap) len xs:=by
 obtain⟨h1,h2,h3,⟨rfl,rfl,rfl⟩|⟨b,cur,rfl,hb,hcs,ht⟩⟩:=h
 ·exact⟨h1,.inl ⟨rfl,rfl⟩⟩
 ·exact⟨h1,.inr ⟨b,cap,cur,rfl,Nat.zero_le _,hN _ _ hb,h2,h3,hcs,ht⟩⟩
theorem grown_agree {w w':World} {r:Option Nat} (h:w.grownBy w' r) (hr: ∀k,r=some k→w.heap.size≤k):Agree w w':=
 Agree.of_below ((Below.refl w.heap.size w).grown h (Nat.le_refl _) hr)
theorem grown_env {w w':World} {r:Option Nat} (h:w.grownBy w' r):w'.os=w.os∧w'.tape=w.tape∧w'.output=w.output:=
 let b:=(Below.refl 0 w).grown h (Nat.zero_le _) (fun _ _=>Nat.zero_le _)
 ⟨b.os,b.tape,b.output⟩
theorem cast_mul_le {a b c:Nat} (h:a*b≤c):(a:Int)*b≤(c:Int):=by rw [←Int.natCast_mul];exact Int.ofNat_le.2 h
theorem op_make {zv:Value} {bytes m:Nat} {kl kc:IntKind} (s:NxA P n l E L ⟨some d,.makeSlice t x y,ty,pos,aft,g⟩ X Y) (ht:P.underlying t=some (.slice e)) (hE:ElemInfo P e zv size bytes) (hx:ev l x=some (.int kl p)) (hy:ev l y=some (.int kc q)) (hp:p=(m:Int)) (hq:q=(m:Int)) (hb:bytes*m≤281474976710656) (hm:m≤maxLen) (hn:Nat.ble (d+1) n=true)
 (h: ∀N ao,Row N e size ao m m (madeCells zv.cells (m*size)).toList→At n ((d,.slice ao m m)::l) E (N::L) Y):At n l E L X:=by
 obtain⟨i,hi,hz,hsz,hby,hzs,h0⟩:=hE
 refine op_new s (fun v L'=> ∃N ao,v=.slice ao m m∧L'=N::L∧Row N e size ao m m (madeCells zv.cells (m*size)).toList) (fun a w hf hw=>?_) rfl hn (fun v L' ⟨N,ao,hv,hL,hB⟩=>by subst hv;subst hL;exact h N ao hB)
 subst hp;subst hq
 have hr:=run_make (P:=P) w t e i zv ht hi hz kl kc (m:Int) (m:Int) (by omega) (Int.le_refl _) (cast_mul_le (by rw [hby];exact hb)) (by unfold maxLen at hm;omega)
 rw [Int.toNat_natCast,hsz]at hr
 refine⟨_,_,_,?_,Agree.alloc w (.cells (madeCells zv.cells (m*size)) e),hw.alloc _,single w.heap.size (.cells (madeCells zv.cells (m*size)) e),some ⟨w.heap.size,0,none⟩,rfl,rfl,?_⟩
 ·simp only [execOp,hf.eval hx,hf.eval hy]
  rw [Sem.run_bind,hr]
  rfl
 ·refine⟨by rw [Array.length_toList,size_madeCells],Nat.le_refl _,hm,.inr ⟨w.heap.size,_,rfl,single_self _ _,size_madeCells _ _,?_⟩⟩
  rw [List.take_of_length_le (by rw [Array.length_toList,size_madeCells];exact Nat.le_refl _)]
theorem run_append_row {w:World} {zv:Value} {bytes m cap':Nat} {ao':Option Addr} {ys:List Value} {ty:TypeId} (ht:P.underlying t=some (.slice e)) (hE:ElemInfo P e zv size bytes) (hN:N.le (whole w)) (hr:Row N e size ao len cap xs) (hs:Sl w size ao' m cap' ys) (h1: ∀u∈ys,u.oneCell'=true)
 (hb:(len+m)*bytes≤140737488355328) (hl:len+m≤maxLen):
 ∃ao2 cap2 w',(Builtin.append_ #[t,t] ty #[.slice ao len cap,.slice ao' m cap']).run P w=.ok (.slice ao2 (len+m) cap2) w'∧
  w'.ownsRow 0 e size (.slice ao2 (len+m) cap2) (len+m) (xs++ys)∧w.grownBy w' (Value.ownBlock (.slice ao len cap))∧(Value.ownBlock (.slice ao2 (len+m) cap2)=Value.ownBlock (.slice ao len cap)∨Value.ownBlock (.slice ao2 (len+m) cap2)=some w.heap.size):=by
 have hown:=hr.owns hN
 obtain⟨i,hi,hz,hsz,hby,hzs,h0⟩:=hE
 obtain⟨s1,s2,s3,s4⟩:=hs
 have fin: ∀(ad:Addr),ao'=some ad→(∀j u,ys[j]? =some u→w.cell? (ad.add j)=some u)→ ∃ao2 cap2 w',(Builtin.append_ #[t,t] ty #[.slice ao len cap,.slice ao' m cap']).run P w=.ok (.slice ao2 (len+m) cap2) w'∧
  w'.ownsRow 0 e size (.slice ao2 (len+m) cap2) (len+m) (xs++ys)∧w.grownBy w' (Value.ownBlock (.slice ao len cap))∧(Value.ownBlock (.slice ao2 (len+m) cap2)=Value.ownBlock (.slice ao len cap)∨Value.ownBlock (.slice ao2 (len+m) cap2)=some w.heap.size):=by
  intro ad had hnews
  subst had
  obtain⟨v',w',hr,ho,hg,_,hbk⟩:=run_append_own_at (P:=P) w 0 t ty e i zv size bytes ht hi hz hsz hby hzs h0 _ len xs hown ad m cap' ys s1 hnews h1 hl hb (Nat.zero_le _)
  obtain⟨ao2,cap2,rfl⟩:=owns_form ho
  exact⟨ao2,cap2,w',hr,ho,hg,hbk⟩
 by_cases hm:0<m
 ·obtain⟨b,off,rfl,hc⟩:=s4 hm
  refine fin _ U fun j u hu=>?_
  obtain⟨hj,rfl⟩:=List.getElem?_eq_some_iff.1 hu
  rw [addr_add];exact hc j hj
 ·obtain rfl:m=0:=by omega
  have hy:ys= []:=List.eq_nil_of_length_eq_zero (by simpa using s1)
  subst hy
  cases ao' with
  |some ad=>exact fin ad rfl fun j u hu=>by simp at hu
  |none=>
   refine⟨ao,cap,w,?_,by simpa using hown,⟨rfl,rfl,rfl,Nat.le_refl _,fun _ _ _=>rfl⟩,.inl rfl⟩
   have hcap:len≤cap:=hr.2.1
   cases ao with
   |none=>simp [Builtin.append_,run_underlying ht,sizeOf,typeInfo,hi,Builtin.lenOf,Builtin.firstCells,hcap]
   |some a=>simp [Builtin.append_,run_underlying ht,sizeOf,typeInfo,hi,Builtin.lenOf,Builtin.firstCells,hcap,storeCells]
theorem grown_block {w w':World} {r:Option Nat} (h:w.grownBy w' r) {k:Nat} (hk:k<w.heap.size) (hr:r≠some k):w'.heap[k]? =w.heap[k]? :=h.block k hk (fun e=>hr e.symm)
theorem hp_append {w w':World} {ao2:Option Addr} {cap2 m:Nat} {ys:List Value} (hw:Hp E (N::L1) w) (hr:Row N e size ao len cap xs) (ho:w'.ownsRow 0 e size (.slice ao2 m cap2) m ys) (hg:w.grownBy w' (Value.ownBlock (.slice ao len cap)))
 (hb:Value.ownBlock (.slice ao2 m cap2)=Value.ownBlock (.slice ao len cap)∨Value.ownBlock (.slice ao2 m cap2)=some w.heap.size): ∃N',Row N' e size ao2 m cap2 ys∧Hp E (N'::L1) w':=by
 have henv:=grown_env hg
 have hrest:Hp E L1 w:=hw.drop (List.sublist_cons_self ..)
 rcases owns_row ho with ⟨rfl,hrow⟩|⟨b,cur,rfl,hheap,hrow⟩
 ·have hnone:Value.ownBlock (.slice ao len cap)=none:=by
   rcases hb with h|h
   ·rw [←h];rfl
   ·cases h
  refine⟨N,hrow N,?_⟩
  have ha:Agree w w':=grown_agree hg (fun k hk=>by rw [hnone]at hk;cases hk)
  exact⟨henv.1.trans hw.os,henv.2.1.trans hw.tape,henv.2.2.trans hw.output,fun M hM k o hk=>(ha k (hw.lt hM hk)).trans (hw.sub M hM k o hk),hw.sep⟩
 ·have hbk:Value.ownBlock (.slice (some ⟨b,0,none⟩) m cap2)=some b:=rfl
  rw [hbk]at hb
  rcases hb with hb|hb
  ·obtain⟨h1,h2,h3,⟨rfl,_,_⟩|⟨b',cur',rfl,hN,hcs,ht⟩⟩:=hr
   ·cases hb
   ·have:b=b':=by simpa [Value.ownBlock]using hb
    subst this
    refine⟨upd N b (.cells cur e (0,0)),hrow _ (upd_self _ _ _),hw.put hN henv.1 henv.2.1 henv.2.2 hheap fun k hk hlt=>grown_block hg hlt (by
     intro h;have:b=k:=by simpa [Value.ownBlock]using h
     exact hk this.symm)⟩
  ·have:b=w.heap.size:=by simpa using hb
   subst this
   refine⟨single w.heap.size (.cells cur e (0,0)),hrow _ (single_self _ _),?_⟩
   have hL: ∀M∈L1, ∀k o,M k=some o→Value.ownBlock (.slice ao len cap)≠some k:=by
    intro M hM k o hk h
    obtain⟨h1,h2,h3,⟨rfl,_,_⟩|⟨b',cur',rfl,hN,hcs,ht⟩⟩:=hr
    ·cases h
    ·have:b'=k:=by simpa [Value.ownBlock]using h
     subst this
     rcases(List.pairwise_cons.1 hw.sep).1 M hM b' with h5|h5
     ·rw [hN]at h5;cases h5
     ·rw [hk]at h5;cases h5
   refine⟨henv.1.trans hw.os,henv.2.1.trans hw.tape,henv.2.2.trans hw.output,fun M hM=>?_,?_⟩
   ·rcases List.mem_cons.1 hM with rfl|hM
    ·intro k o hk
     unfold single at hk
     split at hk
     ·rename_i e;subst e;cases hk;exact hheap
     ·cases hk
    ·intro k o hk
     exact(grown_block hg (hrest.lt hM hk) (hL M hM k o hk)).trans (hrest.sub M hM k o hk)
   ·rw [List.pairwise_cons]
    refine⟨fun M hM k=>?_,hrest.sep⟩
    unfold single
    split
    ·rename_i e
     right
     cases hk:M k with
     |none=>rfl
     |some o=>exact absurd (hrest.lt hM hk) (by omega)
    ·exact .inl U
theorem run_append_src {t2 e2 ty:TypeId} {sv xv:Value} (ht:P.underlying t=some (.slice e)) (ht2:P.underlying t2=some (.slice e2)) (w:World):(Builtin.append_ #[t,t2] ty #[sv,xv]).run P w=(Builtin.append_ #[t,t] ty #[sv,xv]).run P w:=by
 unfold Builtin.append_
 simp only [List.getElem?_toArray,List.getElem?_cons_zero,List.getElem?_cons_succ,Sem.run_bind,run_underlying ht,run_underlying ht2,Result.andThen_ok]
 cases sv<;>simp [run_underlying ht,run_underlying ht2]
theorem op_append {zv:Value} {bytes m cap':Nat} {ao':Option Addr} {ys:List Value} {M:Heaplet} {t2 e2:TypeId} (s:Nx P n l E L ⟨some d,.call ⟨.builtin .append, #[x,y], #[t,t2]⟩,ty,pos,aft,g⟩ X Y) (ht:P.underlying t=some (.slice e)) (ht2:P.underlying t2=some (.slice e2)) (hE:ElemInfo P e zv size bytes)
 (hx:ev l x=some (.slice ao len cap)) (hy:ev l y=some (.slice ao' m cap')) (hr:Row N e size ao len cap xs) (hs:RSl M size ao' m cap' ys) (hM:M∈L) (h1: ∀u∈ys,u.oneCell'=true) (hb:(len+m)*bytes≤140737488355328) (hl:len+m≤9223372036854775807) (sel:L.Perm (N::L1)) (hn:Nat.ble (d+1) n=true)
 (h: ∀N ao cap,Row N e size ao (len+m) cap (xs++ys)→At n ((d,.slice ao (len+m) cap)::l) E (N::L1) Y):At n l E L X:=by
 refine op_upd s (fun v L'=> ∃N ao cap,v=.slice ao (len+m) cap∧L'=N::L1∧Row N e size ao (len+m) cap (xs++ys)) (fun a w hf hw=>?_) rfl hn (fun v L' ⟨N,ao,cap,hv,hL,hB⟩=>by subst hv;subst hL;exact h N ao cap hB)
 have hw2:=hw.perm sel
 obtain⟨ao2,cap2,w',h4,h5,h6,h7⟩:=run_append_row (P:=P) (ty:=ty) ht hE (hw2.sub N (List.mem_cons_self ..)) hr (hs.sl (hw.sub M hM)) h1 hb hl
 obtain⟨N',h8,h9⟩:=hp_append hw2 hr h5 h6 h7
 refine⟨_,w',_,?_,h9,N',ao2,cap2,rfl,rfl,h8⟩
 simp only [execOp,resolve,invoke,builtin,Sem.run_bind,Sem.run_pure,Result.andThen_ok,List.map_toArray,List.map_cons,List.map_nil,hf.eval hx,hf.eval hy,run_append_src ht ht2,h4]
theorem op_append0 {zv:Value} {bytes m cap':Nat} {ao':Option Addr} {ys:List Value} {M:Heaplet} {t2 e2:TypeId} (s:NxA P n l E L ⟨some d,.call ⟨.builtin .append, #[x,y], #[t,t2]⟩,ty,pos,aft,g⟩ X Y) (ht:P.underlying t=some (.slice e)) (ht2:P.underlying t2=some (.slice e2)) (hE:ElemInfo P e zv size bytes)
 (hx:ev l x=some (.slice none 0 0)) (hy:ev l y=some (.slice ao' m cap')) (hs:RSl M size ao' m cap' ys) (hM:M∈L) (h1: ∀u∈ys,u.oneCell'=true) (hb:m*bytes≤140737488355328) (hl:m≤9223372036854775807) (hn:Nat.ble (d+1) n=true)
 (h: ∀N ao cap,Row N e size ao m cap ys→At n ((d,.slice ao m cap)::l) E (N::L) Y):At n l E L X:=by
 refine op_new s (fun v L'=> ∃N ao cap,v=.slice ao m cap∧L'=N::L∧Row N e size ao m cap ys) (fun a w hf hw=>?_) rfl hn (fun v L' ⟨N,ao,cap,hv,hL,hB⟩=>by subst hv;subst hL;exact h N ao cap hB)
 have hw2:Hp E ((fun _=>none)::L) w:=⟨hw.os,hw.tape,hw.output,fun N hN=>by
  rcases List.mem_cons.1 hN with rfl|hN
  ·intro k o hk;cases hk
  ·exact hw.sub N hN,by rw [List.pairwise_cons];exact⟨fun _ _ _=>.inl rfl,hw.sep⟩⟩
 have hr0:=Row.nil (fun _=>none) e size
 obtain⟨ao2,cap2,w',h4,h5,h6,h7⟩:=run_append_row (P:=P) (ty:=ty) ht hE (hw2.sub _ (List.mem_cons_self ..)) hr0 (hs.sl (hw.sub M hM)) h1 (by simpa using hb) (by unfold maxLen;simpa using hl)
 obtain⟨N',h8,h9⟩:=hp_append hw2 hr0 h5 h6 h7
 rw [Nat.zero_add,List.nil_append]at h8
 refine⟨_,w',_,?_,grown_agree h6 (fun k hk=>by cases hk),h9,N',ao2,cap2,rfl,rfl,h8⟩
 rw [Nat.zero_add]at h4
 simp only [execOp,resolve,invoke,builtin,Sem.run_bind,Sem.run_pure,Result.andThen_ok,List.map_toArray,List.map_cons,List.map_nil,hf.eval hx,hf.eval hy,run_append_src ht ht2,h4]
inductive Evs (l:List (Nat×Value)):List Operand→List Value→Prop
 |nil:Evs l [] []
 |cons {x:Operand} {v:Value} {xs:List Operand} {vs:List Value} (h:ev l x=some v) (k:Evs l xs vs):Evs l (x::xs) (v::vs)
theorem Evs.map {xs:List Operand} {vs:List Value} (h:Evs l xs vs) {ds:List Deferred} {a:Act} (hf:Fr ds n l a):xs.map a.eval=vs:=by
 induction h with
 |nil=>rfl
 |cons h _ ih=>rw [List.map_cons,hf.eval h,ih]
theorem run_call {f:FuncId} {fn:Func} (hfn:P.funcs[f]? =some fn) (hb:fn.body.isSome=true) (hne:fn.name≠ "runtime.NumGoroutine") (args:Array Value) (w:World):(callFunc f args).run P w=.ok (.enter f args) w:=by
 cases hb':fn.body with
 |none=>rw [hb']at hb;cases hb
 |some c=>simp [callFunc,Sem.run,hfn,hne,hb']
theorem cR {f:FuncId} {fn:Func} {xs:List Operand} {args:List Value} {ats:Array TypeId} {L0 Lr F:List Heaplet} {Post:Value→List Heaplet→Prop} (s:Nx P n l E L ⟨some d,.call ⟨.value (.func f),xs.toArray,ats⟩,ty,pos,aft,g⟩ X Y)
 (ha:Evs l xs args) (hc:Fn P f args.toArray L0 Lr Post) (hfn:P.funcs[f]? =some fn) (hb:fn.body.isSome=true) (hne:(fn.name== "runtime.NumGoroutine")=false) (hL:L.Perm (L0++F)) (hr: ∀N∈Lr,N∈F) (hn:Nat.ble (d+1) n=true)
 (h: ∀v L1,Post v L1→At n ((d,v)::l) E (L1++F) Y):At n l E L X:=fun a w hf hw=>by
 refine s a w hf hw ?_
 unfold Oper.wp
 have hw2:=hw.perm hL
 have hrun:(execOp a.eval ⟨some d,.call ⟨.value (.func f),xs.toArray,ats⟩,ty,pos,aft,g⟩).run P w=.ok (.enter f args.toArray) w:=by
  have hne':fn.name≠ "runtime.NumGoroutine" :=by simpa using hne
  have he:a.eval (.func f)=.func (.func f) #[] #[]:=rfl
  simp only [execOp,resolve,invoke,Sem.run_bind,Sem.run_pure,Result.andThen_ok,List.map_toArray,ha.map hf,he,Deferred.ofValue,Array.empty_append,Array.append_empty,run_call hfn hb hne']
 rw [hrun]
 -- the rest as one heaplet: the world without what is used up
 have hsep:=List.pairwise_append.1 hw2.sep
 let R:Heaplet:=fun k=>if ∃N∈L0,N k≠none then none else w.heap[k]?
 have hRw:R.le (whole w):=fun k o hk=>by
  simp only [R]at hk
  split at hk
  ·cases hk
  ·exact hk
 have hFR: ∀N∈F,N.le R:=fun N hN k o hk=>by
  have hno: ¬ ∃M∈L0,M k≠none:=by
   rintro⟨M,hM,hMk⟩
   rcases hsep.2.2 M hM N hN k with h|h
   ·exact hMk h
   ·rw [hk]at h;cases h
  simp only [R,if_neg hno]
  exact hw2.sub N (List.mem_append_right _ hN) k o hk
 have hwR:Hp E (L0++ [R]) w:=by
  refine⟨hw.os,hw.tape,hw.output,fun N hN=>?_,?_⟩
  ·rcases List.mem_append.1 hN with hN|hN
   ·exact hw2.sub N (List.mem_append_left _ hN)
   ·simp at hN;subst hN;exact hRw
  ·rw [List.pairwise_append]
   refine⟨hsep.1,by simp,fun A hA B hB k=>?_⟩
   simp at hB;subst hB
   by_cases hAk:A k=none
   ·exact .inl hAk
   ·exact .inr (if_pos ⟨A,hA,hAk⟩)
 refine Calls.mono (hc E w R hwR fun N hN=>hFR N (hr N hN)) ?_
 rintro e w' ⟨v,L1,rfl,hP,hw'⟩
 exact h v L1 hP _ _ (hf.put (Nat.le_of_ble_eq_true hn)) (hw'.refine hFR hsep.2.1)
theorem bG {f:FuncId} {fn:Func} {xs:List Operand} {args:List Value} {ats:Array TypeId} {Lr:List Heaplet} {Post:Value→List Heaplet→Prop} (s:NxA P n l E L ⟨some d,.call ⟨.value (.func f),xs.toArray,ats⟩,ty,pos,aft,g⟩ X Y)
 (ha:Evs l xs args) (hc:Fn P f args.toArray [] Lr Post) (hfn:P.funcs[f]? =some fn) (hb:fn.body.isSome=true) (hne:(fn.name== "runtime.NumGoroutine")=false) (hr: ∀N∈Lr,N∈L) (hn:Nat.ble (d+1) n=true)
 (h: ∀v L1,Post v L1→At n ((d,v)::l) E (L1++L) Y):At n l E L X:=fun a w hf hw=>by
 refine s a w hf hw ?_
 unfold Oper.wp
 have hrun:(execOp a.eval ⟨some d,.call ⟨.value (.func f),xs.toArray,ats⟩,ty,pos,aft,g⟩).run P w=.ok (.enter f args.toArray) w:=by
  have hne':fn.name≠ "runtime.NumGoroutine" :=by simpa using hne
  have he:a.eval (.func f)=.func (.func f) #[] #[]:=rfl
  simp only [execOp,resolve,invoke,Sem.run_bind,Sem.run_pure,Result.andThen_ok,List.map_toArray,ha.map hf,he,Deferred.ofValue,Array.empty_append,Array.append_empty,run_call hfn hb hne']
 rw [hrun]
 have hwR:Hp E ([]++ [whole w]) w:=(Hp.whole w).env hw.os hw.tape hw.output
 refine Calls.mono (hc E w (whole w) hwR fun N hN=>hw.sub N (hr N hN)) ?_
 rintro e w' ⟨v,L1,rfl,hP,hw'⟩
 exact⟨hw'.agree,h v L1 hP _ _ (hf.put (Nat.le_of_ble_eq_true hn)) (hw'.refine hw.sub hw.sep)⟩
end
end Go.Proofs.YtalmjkcapecpiaaGreat
