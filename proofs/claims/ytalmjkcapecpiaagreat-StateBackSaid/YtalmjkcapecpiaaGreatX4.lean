/- Several texts in one: see the remarks ahead of each part. No condition but those told there. -/
import Derived.Test.YtalmjkcapecpiaaGreatX1
import Derived.Test.YtalmjkcapecpiaaGreatX3
import Derived.WalkKit
import Derived.ProofKit
import Derived.OpenShut
import Derived.Below
import Derived.ChangeSame
import Derived.WideKeyArgs
import Derived.Deep.Slices
import Derived.Laws.CopyRow
import Derived.Laws.IdiomCopy
import Derived.Laws.Externs
import Derived.Lib.Mul64
import Derived.Test.YtalmjkcapecpiaaGreatX2
set_option linter.unusedSimpArgs false
set_option linter.unusedVariables false
namespace Go.Proofs.YtalmjkcapecpiaaGreat
open Go Go.RowKit
theorem cO {A:Heaplet} {L:List Heaplet} :A∈A::L:=List.Mem.head _
theorem dG {A B:Heaplet} {L:List Heaplet} :A∈B::A::L:=List.Mem.tail _ cO
theorem mem2 {A B C:Heaplet} {L:List Heaplet} :A∈B::C::A::L:=List.Mem.tail _ dG
theorem mem3 {A B C D:Heaplet} {L:List Heaplet} :A∈B::C::D::A::L:=List.Mem.tail _ mem2
theorem mem4 {A B C D F:Heaplet} {L:List Heaplet} :A∈B::C::D::F::A::L:=List.Mem.tail _ mem3
theorem mem5 {A B C D F G:Heaplet} {L:List Heaplet} :A∈B::C::D::F::G::A::L:=List.Mem.tail _ mem4
theorem mem6 {A B C D F G H:Heaplet} {L:List Heaplet} :A∈B::C::D::F::G::H::A::L:=List.Mem.tail _ mem5
theorem mem7 {A B C D F G H I:Heaplet} {L:List Heaplet} :A∈B::C::D::F::G::H::I::A::L:=List.Mem.tail _ mem6
theorem mem8 {A B C D F G H I J:Heaplet} {L:List Heaplet} :A∈B::C::D::F::G::H::I::J::A::L:=List.Mem.tail _ mem7
theorem sel5 {A B C D F G:Heaplet} {L:List Heaplet} :(B::C::D::F::G::A::L).Perm (A::B::C::D::F::G::L):=(List.Perm.cons _ sel4).trans (.swap _ _ _)
theorem bS {n:Nat} {l:List (Nat×Value)} {E:World} {K:Act→World→Prop} {L:List Heaplet} {A0 A1 A2 A3 A4 A5:Heaplet} (h:At n l E (A0::A1::A2::A3::A4::A5::L) K):At n l E (A1::A2::A3::A4::A5::A0::L) K:=At.perm sel5 h
theorem sel6 {A B C D F G H:Heaplet} {L:List Heaplet} :(B::C::D::F::G::H::A::L).Perm (A::B::C::D::F::G::H::L):=(List.Perm.cons _ sel5).trans (.swap _ _ _)
theorem aY {n:Nat} {l:List (Nat×Value)} {E:World} {K:Act→World→Prop} {L:List Heaplet} {A0 A1 A2 A3 A4 A5 A6:Heaplet} (h:At n l E (A0::A1::A2::A3::A4::A5::A6::L) K):At n l E (A1::A2::A3::A4::A5::A6::A0::L) K:=At.perm sel6 h
theorem sel7 {A B C D F G H I:Heaplet} {L:List Heaplet} :(B::C::D::F::G::H::I::A::L).Perm (A::B::C::D::F::G::H::I::L):=(List.Perm.cons _ sel6).trans (.swap _ _ _)
theorem bM {n:Nat} {l:List (Nat×Value)} {E:World} {K:Act→World→Prop} {L:List Heaplet} {A0 A1 A2 A3 A4 A5 A6 A7:Heaplet} (h:At n l E (A0::A1::A2::A3::A4::A5::A6::A7::L) K):At n l E (A1::A2::A3::A4::A5::A6::A7::A0::L) K:=At.perm sel7 h
theorem sel8 {A B C D F G H I J:Heaplet} {L:List Heaplet} :(B::C::D::F::G::H::I::J::A::L).Perm (A::B::C::D::F::G::H::I::J::L):=(List.Perm.cons _ sel7).trans (.swap _ _ _)
theorem a6 {n:Nat} {l:List (Nat×Value)} {E:World} {K:Act→World→Prop} {L:List Heaplet} {A0 A1 A2 A3 A4 A5 A6 A7 A8:Heaplet} (h:At n l E (A0::A1::A2::A3::A4::A5::A6::A7::A8::L) K):At n l E (A1::A2::A3::A4::A5::A6::A7::A8::A0::L) K:=At.perm sel8 h
theorem sel9 {A B C D F G H I J K:Heaplet} {L:List Heaplet} :(B::C::D::F::G::H::I::J::K::A::L).Perm (A::B::C::D::F::G::H::I::J::K::L):=(List.Perm.cons _ sel8).trans (.swap _ _ _)
theorem bR {n:Nat} {l:List (Nat×Value)} {E:World} {K:Act→World→Prop} {L:List Heaplet} {A0 A1 A2 A3 A4 A5 A6 A7 A8 A9:Heaplet} (h:At n l E (A0::A1::A2::A3::A4::A5::A6::A7::A8::A9::L) K):At n l E (A1::A2::A3::A4::A5::A6::A7::A8::A9::A0::L) K:=At.perm sel9 h
theorem sel10 {A B C D F G H I J K M:Heaplet} {L:List Heaplet} :(B::C::D::F::G::H::I::J::K::M::A::L).Perm (A::B::C::D::F::G::H::I::J::K::M::L):=(List.Perm.cons _ sel9).trans (.swap _ _ _)
theorem bO {n:Nat} {l:List (Nat×Value)} {E:World} {K:Act→World→Prop} {L:List Heaplet} {A0 A1 A2 A3 A4 A5 A6 A7 A8 A9 A10:Heaplet} (h:At n l E (A0::A1::A2::A3::A4::A5::A6::A7::A8::A9::A10::L) K):At n l E (A1::A2::A3::A4::A5::A6::A7::A8::A9::A10::A0::L) K:=At.perm sel10 h
theorem sel11 {A B C D F G H I J K M O:Heaplet} {L:List Heaplet} :(B::C::D::F::G::H::I::J::K::M::O::A::L).Perm (A::B::C::D::F::G::H::I::J::K::M::O::L):=(List.Perm.cons _ sel10).trans (.swap _ _ _)
theorem bE {n:Nat} {l:List (Nat×Value)} {E:World} {K:Act→World→Prop} {L:List Heaplet} {A0 A1 A2 A3 A4 A5 A6 A7 A8 A9 A10 A11:Heaplet} (h:At n l E (A0::A1::A2::A3::A4::A5::A6::A7::A8::A9::A10::A11::L) K):At n l E (A1::A2::A3::A4::A5::A6::A7::A8::A9::A10::A11::A0::L) K:=At.perm sel11 h
theorem sel12 {A B C D F G H I J K M O P:Heaplet} {L:List Heaplet} :(B::C::D::F::G::H::I::J::K::M::O::P::A::L).Perm (A::B::C::D::F::G::H::I::J::K::M::O::P::L):=(List.Perm.cons _ sel11).trans (.swap _ _ _)
theorem aV {n:Nat} {l:List (Nat×Value)} {E:World} {K:Act→World→Prop} {L:List Heaplet} {A0 A1 A2 A3 A4 A5 A6 A7 A8 A9 A10 A11 A12:Heaplet} (h:At n l E (A0::A1::A2::A3::A4::A5::A6::A7::A8::A9::A10::A11::A12::L) K):At n l E (A1::A2::A3::A4::A5::A6::A7::A8::A9::A10::A11::A12::A0::L) K:=At.perm sel12 h
theorem mem9 {A B C D F G H I J K:Heaplet} {L:List Heaplet} :A∈B::C::D::F::G::H::I::J::K::A::L:=List.Mem.tail _ mem8
theorem mem10 {A B C D F G H I J K M:Heaplet} {L:List Heaplet} :A∈B::C::D::F::G::H::I::J::K::M::A::L:=List.Mem.tail _ mem9
theorem mem11 {A B C D F G H I J K M O:Heaplet} {L:List Heaplet} :A∈B::C::D::F::G::H::I::J::K::M::O::A::L:=List.Mem.tail _ mem10
theorem mem12 {A B C D F G H I J K M O P:Heaplet} {L:List Heaplet} :A∈B::C::D::F::G::H::I::J::K::M::O::P::A::L:=List.Mem.tail _ mem11
theorem mem13 {A B C D F G H I J K M O P Q:Heaplet} {L:List Heaplet} :A∈B::C::D::F::G::H::I::J::K::M::O::P::Q::A::L:=List.Mem.tail _ mem12
theorem lkI {l:List (Nat×Value)} {i:Nat} {k:IntKind} {p q:Int} (h:lk l i=some (.int k p)) (e:p=q):lk l i=some (.int k q):=by rw [h,e]
theorem und_some {P:Program} {t:TypeId} {d:TypeDesc} (h:P.underlying t=some d):(P.underlying t).isSome=true:=by rw [h];rfl
theorem getD_some {α:Type} {l:List α} {j:Nat} {z:α} (h:j<l.length):l[j]? =some (l.getD j z):=by
 rw [List.getD_eq_getElem?_getD,List.getElem?_eq_getElem h];rfl
theorem get8 {bs:List UInt8} {j:Nat} (h:j<bs.length):(u8s bs)[j]? =some (.int .u8 ((bs.getD j 0).toNat:Int)):=by
 rw [u8s,List.getElem?_map,getD_some (z:=0) h];rfl
theorem get64 {bs:List UInt64} {j:Nat} (h:j<bs.length):(u64s bs)[j]? =some (.int .u64 ((bs.getD j 0).toNat:Int)):=by
 rw [u64s,List.getElem?_map,getD_some (z:=0) h];rfl
theorem get32 {bs:List UInt32} {j:Nat} (h:j<bs.length):(u32s bs)[j]? =some (.int .u32 ((bs.getD j 0).toNat:Int)):=by
 rw [u32s,List.getElem?_map,getD_some (z:=0) h];rfl
section
variable {P : Program} {n : Nat} {l l' : List (Nat × Value)} {E : World} {L L1 Ls : List Heaplet} {o : Oper} {X Y K : Act → World → Prop} {N : Heaplet} {Q : Exit → Act → World → Prop}
variable {d : Nat} {ty t t' e : TypeId} {pos : String} {aft : Array Edge} {g : Option (Nat × Bool)} {v : Value} {x y z : Operand} {k : IntKind} {p q : Int} {size len cap : Nat} {ao : Option Addr} {xs : List Value} {b off j : Nat}
theorem At.cut {c:Code} (hk:Keeps l l') (hc:At n ((d,v)::l') E L K) (hb: ∀K',(∀l'',Keeps l'' l'→lk l'' d=some v→At n l'' E L K')→At n l E L (c.wp P (Exit.then K' Q))):At n l E L (c.wp P (Exit.then K Q)):=
 hb K fun l'' h1 h2=>At.keep (.cons h2 h1) hc
theorem op_idx1 (s:NxF P n l E L Ls ⟨some d,.indexAddr t x y,ty,pos,aft,g⟩ X Y) (ht:selt P t=some (e,1)) (hx:ev l x=some (.slice ao len cap)) (hy:ev l y=some (.int k p)) (hs:RSl N 1 ao len cap xs) (hj:p=(j:Int)) (hlt:j<len) (hn:Nat.ble (d+1) n=true) (h:At n ((d,eptr ao j)::l) E L Y):At n l E L X:=
 op_idxE s ht hx hy hs hj hlt hn (by rw [Nat.mul_one];exact h)
theorem cQ {Post:Value→List Heaplet→Prop} {R:Heaplet} {L2:List Heaplet} {fn:Func} {rs:List ResultVar} {vs:List Value} (hr:fn.results=rs.toArray)
 (hv:Res P l L rs vs) (hn:(vs.length==1)=false) (hs:L2.Sublist L) (hL:L2.Perm (L1++ [R])) (hP:Post (.tuple vs.toArray) L1):
 At n l E L (bodyPostE P fn E R Post .normal):=At.retN hr hv hn hs hL hP
theorem res_agg {cs ds:List Value} {kk:Nat} (ht:aggOf P t=some kk) (hb:Blk N b e cs) (hd:(cs.drop off).take kk=ds) (hk:ds.length=kk) (hN:N∈L): ∀E w,Hp E L w→(loadVar t ⟨b,off,none⟩).run P w=.ok (.agg ds.toArray) w:=fun E w hw=>
 run_load_agg ht hk fun i hi=>hw.cell hN (by
  have h2:((cs.drop off).take kk)[i]? =some ds[i]:=by rw [hd];exact List.getElem?_eq_getElem hi
  rw [List.getElem?_take,if_pos (by omega),List.getElem?_drop]at h2
  obtain⟨hl,he⟩:=List.getElem?_eq_some_iff.1 h2
  have:=hb.rng (off+i) hl
  rw [Nat.zero_add]at this
  rw [this,he])
inductive Pts (l:List (Nat×Value)):List (Nat×Operand)→List (Nat×Value)→Prop
 |nil:Pts l [] []
 |cons {i:Nat} {x:Operand} {v:Value} {xs:List (Nat×Operand)} {vs:List (Nat×Value)} (h:ev l x=some v) (k:Pts l xs vs):Pts l ((i,x)::xs) ((i,v)::vs)
theorem Pts.map {xs:List (Nat×Operand)} {vs:List (Nat×Value)} (h:Pts l xs vs) {ds:List Deferred} {a:Act} (hf:Fr ds n l a):(xs.map fun p=>(p.1,a.eval p.2))=vs:=by
 induction h with
 |nil=>rfl
 |cons h _ ih=>rw [List.map_cons,ih];simp [hf.eval h]
def fillL (ps:List (Nat×Nat)) (cells:List Value):List (Nat×Value)→Option (List Value)
 | []=>some cells
 |(i,v)::rest=>match ps[i]? with
  |none=>none
  |some (off,size)=>if v.cells.toList.length=size∧off+v.cells.toList.length≤cells.length then fillL ps (setL cells off v.cells.toList) rest else none
theorem foldl_setL (vs:List Value): ∀(cs:List Value) (off i:Nat),((vs.zipIdx i).foldl (fun(cs:Array Value) (c,j)=>cs.setIfInBounds (off+j) c) cs.toArray)=(setL cs (off+i) vs).toArray:=by
 induction vs with
 |nil=>intro cs off i;rfl
 |cons v t ih=>
  intro cs off i
  rw [List.zipIdx_cons,List.foldl_cons,setL]
  have:cs.toArray.setIfInBounds (off+i) v=(cs.set (off+i) v).toArray:=by simp
  show List.foldl _ (cs.toArray.setIfInBounds (off+i) v) _=_
  rw [this,ih];rfl
theorem fill_fillL {ps:List (Nat×Nat)} {place:Nat→Option (Nat×Nat)} (hp: ∀i o,ps[i]? =some o→place i=some o): ∀(parts:List (Nat×Value)) (cells out:List Value),fillL ps cells parts=some out→Instr.fill place cells.toArray parts=some out.toArray:=by
 intro parts
 induction parts with
 |nil=>intro cells out h;cases h;rfl
 |cons pv rest ih=>
  intro cells out h
  obtain⟨i,v⟩:=pv
  simp only [fillL]at h
  split at h
  ·cases h
  ·rename_i o s hs
   split at h
   ·rename_i hc
    simp only [Instr.fill,hp _ _ hs]
    rw [Array.length_toList]at hc
    rw [if_neg (by simp;omega)]
    have e:=foldl_setL v.cells.toList cells o 0
    rw [Nat.add_zero]at e
    have e2:(Array.foldl (fun cs x=>cs.setIfInBounds (o+x.2) x.1) cells.toArray v.cells.zipIdx)=(setL cells o v.cells.toList).toArray:=by
     rw [←e, ←Array.foldl_toList,Array.toList_zipIdx]
    rw [e2]
    exact ih _ _ h
   ·cases h
theorem places_spec {P:Program} {t:TypeId} {ps:List (Nat×Nat)} (h:places P t=some ps) (w:World): ∃fs,P.underlying t=some (.struct fs)∧(fs.mapM (m:=Sem) fun f=>do pure (f.offset, ←sizeOf f.type)).run P w=.ok ps.toArray w:=by
 unfold places at h
 split at h
 ·rename_i fs hu
  refine⟨fs,hu,?_⟩
  have key: ∀(l:List Field) (ps:List (Nat×Nat)),(l.mapM fun f=>(siz P f.type).map fun s=>(f.offset,s))=some ps→(l.mapM (m:=Sem) fun f=>do pure (f.offset, ←sizeOf f.type)).run P w=.ok ps w:=by
   intro l
   induction l with
   |nil=>intro ps h;cases h;rfl
   |cons f t ih=>
    intro ps h
    simp only [List.mapM_cons,Option.bind_eq_bind,Option.bind_eq_some_iff,Option.map_eq_some_iff]at h
    obtain⟨a,⟨s,hs,rfl⟩,qs,hq,h⟩:=h
    cases h
    obtain⟨i,hi,rfl⟩:=Option.map_eq_some_iff.1 hs
    rw [List.mapM_cons,Sem.run_bind,Sem.run_bind,run_sizeOf hi]
    simp only [Result.andThen_ok,Sem.run_pure]
    rw [Sem.run_bind,ih qs hq]
    rfl
  have:=key fs.toList ps h
  rw [Array.mapM_eq_mapM_toList,Sem.run_map,this]
  rfl
 ·cases h
theorem op_build {parts:List (Nat×Operand)} {vs:List (Nat×Value)} {zs out:List Value} {ps:List (Nat×Nat)} (s:NxF P n l E L Ls ⟨some d,.build t parts.toArray,ty,pos,aft,g⟩ X Y) (hz:zer P t=some (.agg zs.toArray)) (hp:places P t=some ps) (hv:Pts l parts vs) (ho:fillL ps zs vs=some out) (hn:Nat.ble (d+1) n=true) (h:At n ((d,.agg out.toArray)::l) E L Y):At n l E L X:=
 op_val s (fun a w hf hw=>by
  obtain⟨i,hi,hiz⟩:=Option.bind_eq_some_iff.1 hz
  obtain⟨fs,hu,hm⟩:=places_spec hp w
  have hzr:(zeroValue t).run P w=.ok (.agg zs.toArray) w:=by simp [zeroValue,typeInfo,hi,hiz]
  have hfill:=fill_fillL (place:=(ps.toArray[·]?)) (fun i o h=>by simpa using h) vs zs out ho
  have hpv:(parts.toArray.map fun(x:Nat×Operand)=>(x.1,a.eval x.2))=vs.toArray:=by rw [List.map_toArray,hv.map hf]
  have hb:(Instr.build t vs.toArray).run P w=.ok (.agg out.toArray) w:=by
   unfold Instr.build
   rw [Sem.run_bind,hzr]
   simp only [Result.andThen_ok]
   rw [Sem.run_bind,run_underlying hu]
   simp only [Result.andThen_ok]
   rw [Sem.run_bind,hm]
   simp only [Result.andThen_ok,Value.cells,hfill,Sem.run_pure]
  show((do pure (.value (←Instr.build t (parts.toArray.map fun(x:Nat×Operand)=>(x.1,a.eval x.2)))):Sem Next)).run P w=_
  rw [hpv,Sem.run_bind,hb]
  rfl) rfl hn h
theorem op_buildSlice {parts:List (Nat×Operand)} {vs:List (Nat×Value)} {zv:Value} {out:List Value} {m:Nat} (s:NxA P n l E L ⟨some d,.buildSlice t m parts.toArray,ty,pos,aft,g⟩ X Y) (ht:P.underlying t=some (.slice e)) (hz:zer P e=some zv) (hsz:siz P e=some size) (hv:Pts l parts vs)
 (ho:fillL ((List.range m).map fun i=>(i*size,size)) (madeCells zv.cells (m*size)).toList vs=some out) (hlen:out.length=m*size) (hm:Nat.ble (m*size) 16777216=true) (hm2:Nat.ble m 16777216=true) (hn:Nat.ble (d+1) n=true)
 (h: ∀N ao,Row N e size ao m m out→At n ((d,.slice ao m m)::l) E (N::L) Y):At n l E L X:=by
 have hm':=Nat.le_of_ble_eq_true hm
 refine op_new s (fun v L'=> ∃N ao,v=.slice ao m m∧L'=N::L∧Row N e size ao m m out) (fun a w hf hw=>?_) rfl hn (fun v L' ⟨N,ao,hv,hL,hB⟩=>by subst hv;subst hL;exact h N ao hB)
 obtain⟨i,hi,hiz⟩:=Option.bind_eq_some_iff.1 hz
 obtain⟨i',hi',hs'⟩:=Option.map_eq_some_iff.1 hsz
 rw [hi]at hi';cases hi'
 have hzr:(zeroValue e).run P w=.ok zv w:=by simp [zeroValue,typeInfo,hi,hiz]
 have hpv:(parts.toArray.map fun(x:Nat×Operand)=>(x.1,a.eval x.2))=vs.toArray:=by rw [List.map_toArray,hv.map hf]
 have hfill:=fill_fillL (place:=fun i=>some (i*size,size)) (fun i o h=>by
  rw [List.getElem?_map,Option.map_eq_some_iff]at h
  obtain⟨i',hi',rfl⟩:=h
  have:=List.getElem?_eq_some_iff.1 hi'
  obtain⟨h1,h2⟩:=this
  simp at h2;subst h2;rfl) vs _ out ho
 refine⟨_,_,_,?_,Agree.alloc w (.cells out.toArray e),hw.alloc _,single w.heap.size (.cells out.toArray e),some ⟨w.heap.size,0,none⟩,rfl,rfl,⟨hlen,Nat.le_refl _,?_,.inr ⟨w.heap.size,_,rfl,single_self _ _,by simpa using hlen,by simp [←hlen]⟩⟩⟩
 ·show((do pure (.value (←Instr.buildSlice t m (parts.toArray.map fun(x:Nat×Operand)=>(x.1,a.eval x.2)))):Sem Next)).run P w=_
  rw [hpv,Sem.run_bind]
  have hb:(Instr.buildSlice t m vs.toArray).run P w=.ok (.slice (some ⟨w.heap.size,0,none⟩) m m) (w.alloc (.cells out.toArray e)):=by
   have hbig: ¬m*size>2^24:=by omega
   unfold Instr.buildSlice
   simp only [Sem.run_bind,run_underlying ht,Result.andThen_ok,run_sizeOf hi,hs',if_neg hbig,Sem.run_pure]
   by_cases h0:m*size=0
   ·have e1:(madeCells zv.cells (m*size))= #[]:=by rw [h0];simp [madeCells]
    rw [e1]at hfill
    have hfill':Instr.fill (fun i=>some (i*size,size)) #[] vs=some out.toArray:=hfill
    have e0: ∀a:Array Value,((Array.range 0).map fun x=>a[x % a.size]!)= #[]:=fun a=>by simp
    simp only [h0,if_true,Sem.run_pure,Result.andThen_ok,e0,hfill',Sem.run_bind,newRow]
    rfl
   ·simp only [if_neg h0,Sem.run_bind,hzr,Result.andThen_ok,Sem.run_pure]
    have e1:((Array.range (m*size)).map fun x=>zv.cells[x % zv.cells.size]!)=madeCells zv.cells (m*size):=rfl
    rw [e1]
    have hfill':Instr.fill (fun i=>some (i*size,size)) (madeCells zv.cells (m*size)) vs=some out.toArray:=by simpa using hfill
    simp only [hfill',Sem.run_bind,newRow,Sem.run_pure]
    rfl
  rw [hb]
  rfl
 ·have:=Nat.le_of_ble_eq_true hm2
  unfold maxLen;omega
end
theorem sadr_zero (ao:Option Addr) (m s:Nat):sadr ao 0 m s=ao:=by
 unfold sadr
 split
 ·rfl
 ·cases ao with
  |none=>rfl
  |some a=>simp [Addr.add]
section
variable {P : Program} {n : Nat} {l l' : List (Nat × Value)} {E : World} {L L1 Ls : List Heaplet} {o : Oper} {X Y K : Act → World → Prop} {N : Heaplet} {Q : Exit → Act → World → Prop}
variable {d : Nat} {ty t t' e : TypeId} {pos : String} {aft : Array Edge} {g : Option (Nat × Bool)} {v : Value} {x y z : Operand} {k : IntKind} {p q : Int} {size len cap : Nat} {ao : Option Addr} {xs : List Value} {b off j : Nat}
theorem op_slice0 {hi mx:Option Operand} {y' z':Nat} (s:NxF P n l E L Ls ⟨some d,.slice t x none hi mx,ty,pos,aft,g⟩ X Y) (ht:selt P t=some (e,size)) (hx:ev l x=some (.slice ao len cap)) (hhi:Bd l hi len y') (hmx:Bd l mx cap z') (h2:y'≤z') (h3:z'≤cap)
 (hm:mx.isSome=true→hi.isSome=true) (hn:Nat.ble (d+1) n=true) (h:At n ((d,.slice ao y' z')::l) E L Y):At n l E L X:=
 op_slice s ht hx .none hhi hmx (Nat.zero_le _) h2 h3 hm hn (by rw [sadr_zero];exact h)
theorem RSl.isSome {N:Heaplet} {size:Nat} {ao:Option Addr} {n cap:Nat} {xs:List Value} (h:RSl N size ao n cap xs) (h0:0<n):ao.isSome=true:=by
 obtain⟨b,off,rfl,_⟩:=h.2.2.2 h0;rfl
theorem RSl.take {N:Heaplet} {size:Nat} {ao:Option Addr} {n cap:Nat} {xs:List Value} (h:RSl N size ao n cap xs) {hi m:Nat} (h2:hi≤m) (h3:m≤cap) (h4:hi≤n):RSl N size ao hi m (xs.take (hi*size)):=by
 have:=h.part (Nat.zero_le hi) h2 h3 h4
 simpa [sadr_zero]using this
theorem RSl.drop {N:Heaplet} {size:Nat} {ao:Option Addr} {n cap:Nat} {xs:List Value} (h:RSl N size ao n cap xs) {lo:Nat} (h4:lo≤n):RSl N size (sadr ao lo cap size) (n- lo) (cap- lo) (xs.drop (lo*size)):=by
 have:=h.part h4 h.2.1 (Nat.le_refl _) (Nat.le_refl _)
 rwa [List.take_of_length_le (by rw [List.length_drop,h.1,Nat.sub_mul];exact Nat.le_refl _)]at this
theorem u8s_take (l:List UInt8) (k:Nat):(u8s l).take k=u8s (l.take k):=by simp [u8s]
theorem u8s_drop (l:List UInt8) (k:Nat):(u8s l).drop k=u8s (l.drop k):=by simp [u8s]
theorem u64s_takeR (l:List UInt64) (k:Nat):(u64s l).take k=u64s (l.take k):=by simp [u64s]
theorem RSl.take8 {N:Heaplet} {ao:Option Addr} {n cap:Nat} {bs:List UInt8} (h:RSl N 1 ao n cap (u8s bs)) {hi m:Nat} (h2:hi≤m) (h3:m≤cap) (h4:hi≤n):RSl N 1 ao hi m (u8s (bs.take hi)):=by
 have:=h.take h2 h3 h4;rwa [Nat.mul_one,u8s_take]at this
theorem RSl.drop8 {N:Heaplet} {ao:Option Addr} {n cap:Nat} {bs:List UInt8} (h:RSl N 1 ao n cap (u8s bs)) {lo:Nat} (h4:lo≤n):RSl N 1 (sadr ao lo cap 1) (n- lo) (cap- lo) (u8s (bs.drop lo)):=by
 have:=h.drop h4;rwa [Nat.mul_one,u8s_drop]at this
theorem RSl.len8 {N:Heaplet} {ao:Option Addr} {n cap:Nat} {bs:List UInt8} (h:RSl N 1 ao n cap (u8s bs)):bs.length=n:=by simpa using h.len
theorem RSl.len64 {N:Heaplet} {ao:Option Addr} {n cap:Nat} {bs:List UInt64} (h:RSl N 1 ao n cap (u64s bs)):bs.length=n:=by simpa using h.len
theorem RSl.cap63 {N:Heaplet} {size:Nat} {ao:Option Addr} {n cap:Nat} {xs:List Value} (h:RSl N size ao n cap xs):n≤cap∧cap≤9223372036854775807:=⟨h.2.1,h.2.2.1⟩
end
theorem Fn.of_ownb {P:Program} {f:FuncId} {args:Array Value} {Lr:List Heaplet} {e:TypeId} {xs:List Value} (h: ∀w,(∀N∈Lr,N.le (whole w))→Calls P f args w (Ret w (OwnB w.heap.size e xs))):
 Fn P f args [] Lr (fun v L=> ∃N ao cap,v=.slice ao xs.length cap∧L= [N]∧Row N e 1 ao xs.length cap xs):=by
 intro E w R hw hr
 refine(h w fun N hN=>Heaplet.le_trans (hr N hN) (hw.sub R (by simp))).mono ?_
 rintro e w' ⟨v,rfl,⟨ao,cap,rfl,ho⟩,hb⟩
 have ho0:=owns_mono ho (Nat.zero_le _)
 have hbase: ∀b,ao=some b→w.heap.size≤b.block:=fun b hb'=>by
  obtain⟨_,⟨hv,_⟩|⟨g,cap',cur,hv,hg,_⟩⟩:=ho
  ·subst hb';cases hv
  ·subst hb'
   simp only [Value.slice.injEq,Option.some.injEq]at hv
   obtain⟨rfl,_⟩:=hv
   exact hg
 have hR:Hp E [R] w':=by
  refine⟨hb.os.trans hw.os,hb.tape.trans hw.tape,hb.output.trans hw.output,fun N hN k o hk=>?_,by simp⟩
  simp at hN;subst hN
  have hlt:=hw.lt (List.mem_append_right _ (List.mem_singleton.2 rfl)) hk
  exact(hb.block k hlt).trans (hw.sub _ (by simp) k o hk)
 rcases owns_row ho0 with ⟨rfl,hrow⟩|⟨b,cur,rfl,hheap,hrow⟩
 ·refine⟨_,[fun _=>none],rfl,⟨_,_,_,rfl,rfl,hrow _⟩,⟨hR.os,hR.tape,hR.output,fun N hN=>?_,?_⟩⟩
  ·rcases List.mem_cons.1 hN with rfl|hN
   ·intro k o hk;cases hk
   ·exact hR.sub N hN
  ·simp [Apart]
 ·refine⟨_,[single b (.cells cur e (0,0))],rfl,⟨_,_,_,rfl,rfl,hrow _ (single_self _ _)⟩,⟨hR.os,hR.tape,hR.output,fun N hN=>?_,?_⟩⟩
  ·rcases List.mem_cons.1 hN with rfl|hN
   ·intro k o hk
    unfold single at hk
    split at hk
    ·rename_i e;subst e;cases hk;exact hheap
    ·cases hk
   ·exact hR.sub N hN
  ·simp only [List.cons_append,List.nil_append,List.pairwise_cons,List.mem_singleton,List.not_mem_nil,false_imp_iff,implies_true,and_true,List.Pairwise.nil,forall_eq]
   intro k
   unfold single
   split
   ·rename_i e
    right
    cases hm:R k with
    |none=>rfl
    |some o'=>
     have h1:=hw.lt (List.mem_append_right _ (List.mem_singleton.2 rfl)) hm
     have h2:=hbase _ rfl
     simp at h2
     omega
   ·exact .inl U
def isIfc (P:Program) (t:TypeId):Bool:=match P.underlying t with
 |some (.interface _)=>true
 |_=>false
def notIfc (P:Program) (t:TypeId):Bool:=match P.underlying t with
 |some (.interface _)=>false
 |none=>false
 |_=>true
section
variable {P : Program} {n : Nat} {l l' : List (Nat × Value)} {E : World} {L L1 Ls : List Heaplet} {o : Oper} {X Y K : Act → World → Prop} {N : Heaplet} {Q : Exit → Act → World → Prop}
variable {d : Nat} {ty t t' e : TypeId} {pos : String} {aft : Array Edge} {g : Option (Nat × Bool)} {v : Value} {x y z : Operand} {k : IntKind} {p q : Int} {size len cap : Nat} {ao : Option Addr} {xs : List Value} {b off j : Nat}
theorem bH {ad:Addr} (s:NxF P n l E L Ls ⟨some d,.nilCheck x,ty,pos,aft,g⟩ X Y) (hx:ev l x=some (.pointer (some ad))) (hn:Nat.ble (d+1) n=true) (h:At n ((d,.pointer (some ad))::l) E L Y):At n l E L X:=
 op_val s (fun a w hf _=>by simp [execOp,hf.eval hx]) rfl hn h
end
def nilH:Heaplet:=fun _=>none
theorem At.empty {n:Nat} {l:List (Nat×Value)} {E:World} {L:List Heaplet} {K:Act→World→Prop} (h:At n l E (nilH::L) K):At n l E L K:=fun a w hf hw=>h a w hf
 ⟨hw.os,hw.tape,hw.output,fun N hN=>by
  rcases List.mem_cons.1 hN with rfl|hN
  ·intro k o hk;cases hk
  ·exact hw.sub N hN,by rw [List.pairwise_cons];exact⟨fun _ _ _=>.inl rfl,hw.sep⟩⟩
theorem cV {n:Nat} {l:List (Nat×Value)} {E:World} {L:List Heaplet} {K:Act→World→Prop} {A B:Heaplet} (h: ∀J:Heaplet,A.le J→B.le J→At n l E (J::L) K):At n l E (A::B::L) K:=
 At.merge fun hap=>h _ join2_left (join2_right hap)
theorem setL_append (vs:List Value): ∀(a b c:List Value),b.length=vs.length→setL (a++b++c) a.length vs=a++vs++c:=by
 induction vs with
 |nil=>intro a b c h;simp at h;subst h;simp [setL]
 |cons v t ih=>
  intro a b c h
  cases b with
  |nil=>simp at h
  |cons x b=>
   rw [setL]
   have e:(a++x::b++c).set a.length v=(a++ [v])++b++c:=by simp
   rw [e]
   have:=ih (a++ [v]) b c (by simpa using h)
   rw [List.length_append,List.length_singleton]at this
   rw [this];simp
def flatV (vs:List (Nat×Value)):List Value:=vs.flatMap fun p=>p.2.cells.toList
theorem fillL_all (size m:Nat): ∀(vs:List (Nat×Value)) (k:Nat) (a zs:List Value),vs.map (·.1)=List.range' k vs.length→k+vs.length≤m→(∀p∈vs,p.2.cells.toList.length=size)→a.length=k*size→zs.length=vs.length*size→
 fillL ((List.range m).map fun i=>(i*size,size)) (a++zs) vs=some (a++flatV vs):=by
 intro vs
 induction vs with
 |nil=>intro k a zs _ _ _ _ h;simp at h;subst h;simp [fillL,flatV]
 |cons p t ih=>
  intro k a zs hi hm hs ha hz
  obtain⟨i,v⟩:=p
  simp only [List.map_cons,List.length_cons,List.range'_succ,List.cons.injEq]at hi
  obtain⟨rfl,hi⟩:=hi
  simp only [List.length_cons]at hm hz
  have hv:=hs _ (List.mem_cons_self ..)
  simp only at hv
  have hget:((List.range m).map fun i=>(i*size,size))[i]? =some (i*size,size):=by
   rw [List.getElem?_map,List.getElem?_range (by omega)];rfl
  have hz':size≤zs.length:=by rw [hz,Nat.add_mul];omega
  have hcond:v.cells.toList.length=size∧i*size+v.cells.toList.length≤(a++zs).length:=by
   rw [List.length_append];omega
  have hset:setL (a++zs) (i*size) v.cells.toList=(a++v.cells.toList)++zs.drop size:=by
   have:=setL_append v.cells.toList a (zs.take size) (zs.drop size) (by rw [List.length_take];omega)
   rw [List.append_assoc,List.take_append_drop,ha]at this
   exact this
  have hrec:=ih (i+1) (a++v.cells.toList) (zs.drop size) hi (by omega) (fun q hq=>hs q (List.mem_cons_of_mem _ hq)) (by rw [List.length_append,ha,hv,Nat.add_mul,Nat.one_mul]) (by rw [List.length_drop,hz,Nat.add_mul];omega)
  simp only [fillL,hget,if_pos hcond,hset,hrec]
  simp [flatV]
section
variable {P : Program} {n : Nat} {l l' : List (Nat × Value)} {E : World} {L L1 : List Heaplet} {X Y : Act → World → Prop} {d : Nat} {ty t e : TypeId} {pos : String} {aft : Array Edge} {g : Option (Nat × Bool)} {size : Nat}
theorem length_flatV {vs:List (Nat×Value)} (h: ∀p∈vs,p.2.cells.toList.length=size):(flatV vs).length=vs.length*size:=by
 induction vs with
 |nil=>simp [flatV]
 |cons p t ih=>
  have h1:=h p (List.mem_cons_self ..)
  have h2:=ih fun q hq=>h q (List.mem_cons_of_mem _ hq)
  simp only [flatV,List.flatMap_cons,List.length_append,List.length_cons]at h2⊢
  rw [h1,h2,Nat.add_mul,Nat.one_mul,Nat.add_comm]
theorem op_lit {parts:List (Nat×Operand)} {vs:List (Nat×Value)} {zv:Value} {m:Nat} (s:NxA P n l E L ⟨some d,.buildSlice t m parts.toArray,ty,pos,aft,g⟩ X Y) (ht:P.underlying t=some (.slice e)) (hz:zer P e=some zv) (hsz:siz P e=some size) (hv:Pts l parts vs)
 (hi:vs.map (·.1)=List.range' 0 vs.length) (hm0:vs.length=m) (hs: ∀p∈vs,p.2.cells.toList.length=size) (hm:Nat.ble (m*size) 16777216=true) (hm2:Nat.ble m 16777216=true) (hn:Nat.ble (d+1) n=true)
 (h: ∀N ao,Row N e size ao m m (flatV vs)→At n ((d,.slice ao m m)::l) E (N::L) Y):At n l E L X:=by
 refine op_buildSlice s ht hz hsz hv (out:=flatV vs) ?_ (by rw [length_flatV hs,hm0]) hm hm2 hn h
 have:=fillL_all size m vs 0 [] (madeCells zv.cells (m*size)).toList hi (by omega) hs (by simp) (by rw [Array.length_toList,size_madeCells,hm0])
 simpa using this
end
open Go Go.RowKit Go.ChangeShapes Go.WideShapes Go.Deep
theorem add_off (a:Addr) (n:Nat):(a.add n).off=a.off+n:=by unfold Addr.add;split<;>simp_all
theorem add_block (a:Addr) (n:Nat):(a.add n).block=a.block:=by unfold Addr.add;split<;>rfl
theorem cellOf_whole {w:World} {a:Addr} {v:Value} (h:w.cell? a=some v):a.spot=none∧cellOf (whole w) a.block a.off=some v:=by
 unfold World.cell? at h
 unfold cellOf whole
 split at h
 ·rename_i c t fr e
  split at h
  ·cases h
  ·rename_i hs
   rw [e]
   exact⟨by simpa using hs,h⟩
 ·cases h
theorem rng_whole {w:World} {a:Addr} {base n size:Nat} {C:Nat→List Value} (h: ∀i,i<n→w.cells? base (a.add (i*size)) size=some (C i)):
 Rng (whole w) a.block a.off ((List.range n).flatMap C)∧((List.range n).flatMap C).length=n*size:=by
 induction n with
 |zero=>exact⟨fun i hi=>by simp at hi,by simp⟩
 |succ n ih=>
  obtain⟨h1,h2⟩:=ih fun i hi=>h i (by omega)
  obtain⟨_,hl,hc⟩:=World.cells?_some (h n (by omega))
  have e:(List.range (n+1)).flatMap C=(List.range n).flatMap C++C n:=by simp [List.range_succ]
  rw [e]
  refine⟨fun i hi=>?_,by rw [List.length_append,h2,hl,Nat.succ_mul]⟩
  by_cases hlt:i<((List.range n).flatMap C).length
  ·rw [List.getElem_append_left hlt];exact h1 i hlt
  ·rw [List.length_append]at hi
   rw [List.getElem_append_right (by omega)]
   have hk:=hc (i- n*size) (by omega)
   rw [List.getElem?_eq_getElem (by omega)]at hk
   have h3:=(cellOf_whole hk).2
   have e2:((a.add (n*size)).add (i- n*size)).off=a.off+i:=by rw [add_off,add_off];omega
   rw [e2,add_block,add_block]at h3
   have e3:i- ((List.range n).flatMap C).length=i- n*size:=by rw [h2]
   simp only [e3]
   exact h3
section
variable {H : Type} {enc : TypeId × Value → H} {P : Program} {w : World} {spare : Nat → Bool} {held : Bool}
theorem open_rsl {t e:TypeId} {fuel:Nat} {cs:List Value} {x:DataW H×List MemPlace} (ht:P.underlying t=some (.slice e)) (hpos:0<P.cellsOf e) (h:DataW.trod enc P w 0 spare held fuel t cs=some x):
 ∃ao n cap C m,cs= [.slice ao n cap]∧RSl (whole w) (P.cellsOf e) ao n cap ((List.range n).flatMap C)∧(n=0∨fuel=m+1)∧
  ∀i,i<n→(C i).length=P.cellsOf e∧ ∃y,DataW.trod enc P w 0 spare held m e (C i)=some y:=by
 rcases DataW.trod_slice ht h with ⟨rfl,_⟩|⟨a,len,cap,elems,rest,n,hf,rfl,rfl,hb,hl,hm,hlen,hel,hsp,hns⟩
 ·exact⟨none,0,0,fun _=> [],0,rfl,⟨by simp,by omega,by simp [maxLen],fun h=>by omega⟩,Or.inl rfl,fun i hi=>by omega⟩
 ·obtain⟨C,hC⟩:=choose_lt (α:=List Value) (p:=fun i c=>w.cells? 0 (a.add (i*P.cellsOf e)) (P.cellsOf e)=some c∧ ∃y,DataW.trod enc P w 0 spare held n e c=some y) (n:=len) (fun i hi=>by
   have:=hel i hi
   rw [List.getElem?_eq_getElem (by omega)]at this
   obtain⟨c,h1,h2⟩:=Option.bind_eq_some_iff.1 this
   exact⟨c,h1,_,h2⟩)
  obtain⟨h1,h2⟩:=rng_whole (fun i hi=>(hC i hi).1)
  refine⟨some a,len,cap,C,n,rfl,⟨h2,hl,hm,fun h0=>?_⟩,Or.inr hf,fun i hi=>⟨(World.cells?_some (hC i hi).1).2.1,(hC i hi).2⟩⟩
  obtain⟨_,hl0,hc0⟩:=World.cells?_some (hC 0 h0).1
  have hk:=hc0 0 hpos
  rw [List.getElem?_eq_getElem (by omega)]at hk
  have hs:=(cellOf_whole hk).1
  have hs':a.spot=none:=by simpa [Addr.add]using hs
  refine⟨a.block,a.off,?_,h1⟩
  cases a;simp at hs';subst hs';rfl
def u8of:Value→UInt8
 |.int _ q=>UInt8.ofNat q.toNat
 |_=>0
theorem open_u8 {t e:TypeId} {fuel:Nat} {cs:List Value} {x:DataW H×List MemPlace} (ht:P.underlying t=some (.slice e)) (he:P.underlying e=some (.int .u8)) (hc:P.cellsOf e=1) (h:DataW.trod enc P w 0 spare held fuel t cs=some x):
 ∃ao n cap bs,cs= [.slice ao n cap]∧RSl (whole w) 1 ao n cap (u8s bs):=by
 obtain⟨ao,n,cap,C,m,rfl,hr,_,hC⟩:=open_rsl ht (by omega) h
 refine⟨ao,n,cap,((List.range n).flatMap C).map u8of,rfl,?_⟩
 have e:u8s (((List.range n).flatMap C).map u8of)=(List.range n).flatMap C:=by
  unfold u8s
  rw [List.map_map]
  refine(List.map_congr_left (g:=id) fun v hv=>?_).trans (List.map_id _)
  obtain⟨i,hi,hv⟩:=List.mem_flatMap.1 hv
  obtain⟨hl,y,hy⟩:=hC i (List.mem_range.1 hi)
  obtain⟨q,hq,_,hw⟩:=DataW.trod_int he hy
  rw [hq]at hv
  obtain rfl:=List.mem_singleton.1 hv
  have hb:0≤q∧q≤255:=by simpa [Lit.wf,IntKind.min,IntKind.max,IntKind.signed,IntKind.bits]using hw
  simp only [Function.comp,u8of,vb,id]
  have h8:(UInt8.ofNat q.toNat).toNat=q.toNat:=by rw [UInt8.toNat_ofNat'];omega
  rw [h8]
  congr 1
  omega
 rw [e, ←hc]
 exact hr
theorem stays_all {W W':World} {sp:Nat→Bool} (hl:laidOutB P=true): ∀ {ts:List TypeId} {vs:List Value} {ds:List (DataW H)} {ps:List MemPlace},(∀t∈ts,P.readableRec t=true∧t<P.types.size)→
 DataW.TrodAll enc P W 0 (fun _=>true) true ts vs ds ps→(∀p∈ps,W.sameAt W' p)→(∀p∈ps,sp p.block=true)→DataW.TrodAll enc P W' 0 sp true ts vs ds ps
 | [],[],[],_,_,h,_,_=>h
 |t::_,_::_,_::_,_,hr,⟨p,q,h1,h2,e⟩,hs,hb=>⟨p,q,
  Go.WideElems.Trod_stays hl (hr t (by simp)).1 (hr t (by simp)).2 h1 (fun x hx=>hs x (by rw [e];simp [hx])) (fun x hx=>hb x (by rw [e];simp [hx])),
  stays_all hl (fun t ht=>hr t (by simp [ht])) h2 (fun x hx=>hs x (by rw [e];simp [hx])) (fun x hx=>hb x (by rw [e];simp [hx])),e⟩
theorem sameAt_below {W W':World} (h:Below W.heap.size W W') {p:MemPlace} (hp:p.block<W.heap.size):W.sameAt W' p:=by
 cases p with
 |cell b off=>
  show W'.cell? ⟨b,off,none⟩=W.cell? ⟨b,off,none⟩
  have e:W'.heap[b]? =W.heap[b]? :=h.block b hp
  unfold World.cell?
  simp only [e]
 |map b=>exact h.block b hp
theorem law_post {f:Func} {s:ChangeSpec} {W W':World} {args:Array Value} {v:Value} {r:DataW H} {ds gs:List (DataW H)} {before:List MemPlace} {tr:TypeId}
 (hW:DataW.Whole enc P f.params.toList s.vars false W args.toList ds gs before) (hv:s.vars= [])
 (hs:s.fn H (ds++gs)= { results:= [r],args:=ds }) (hone':v.resultList 1= [v]) (hres:f.resultTypes= #[tr])
 (hr: ∀(b:Nat) (sp:Nat→Bool) (hd:Bool),DataW.Trod enc P W' b sp hd tr v r []) (hok:Value.okWide P W' .any 0 tr v)
 (hl:laidOutB P=true) (ht: ∀t∈f.params.toList,P.readableRec t=true∧t<P.types.size) (hb:Below W.heap.size W W'):
 s.post enc P f false true false false W args v W':=by
 have hlt: ∀p∈before,p.block<W.heap.size:=fun p hp=>hW.lt p hp
 have hW':=hW
 obtain⟨p,q,hA,hV,rfl,hfz,hnd⟩:=hW
 rw [hv]at hV
 obtain⟨rfl,rfl⟩:=trodVars_none hV
 simp only [List.append_nil]at hs hlt hW' hfz
 have again: ∀sp:Nat→Bool,(∀x∈p,sp x.block=true)→DataW.TrodAll enc P W' 0 sp true f.params.toList args.toList ds p:=fun sp hsp=>
  stays_all hl ht hA (fun x hx=>sameAt_below hb (hlt x hx)) hsp
 have hrl:v.resultList f.resultTypes.size= [v]:=by rw [hres];exact hone'
 have hone: ∀(b:Nat) (sp:Nat→Bool) (hd:Bool),DataW.TrodAll enc P W' b sp hd f.resultTypes.toList (v.resultList f.resultTypes.size) [r] []:=fun b sp hd=>by
  rw [hrl,hres];exact⟨[],[],hr b sp hd,rfl,rfl⟩
 have hold: ∀x∈p,(fun b=>decide (b<W.heap.size)) x.block=true:=fun x hx=>by simpa using hlt x hx
 have hvs: ∀sp:Nat→Bool,DataW.TrodVars enc P W' sp s.vars [] []:=fun sp=>by rw [hv];rfl
 refine⟨ds,[],p,[],p,[],by simpa using hW',by simp only [List.append_nil];rw [hs];exact hone _ _ _,by simp only [List.append_nil];rw [hs];exact again _ hold,by simp only [List.append_nil];rw [hs];exact hvs _,
  World.keptBut_mono (fun x hx=>⟨hx,Or.inr (Or.inl hx)⟩) (hb.frame (· ∈p)),fun _=>?_⟩
 refine⟨?_,_,_,([]++p)++ [],⟨[]++p,[],trodAll_append (again _ (fun _ _=>rfl)) (hone _ _ _),hvs _,rfl,?_,?_⟩,?_⟩
 ·intro j t r hj hr
  rw [hrl]at hr
  rw [hres]at hj
  cases j with
  |zero=>simp at hj hr;subst hj;subst hr;exact hok
  |succ j=>simp at hr
 ·intro b off hp
  have hin:MemPlace.cell b off∈p:=by simpa using hp
  rw [hb.frozen (hlt _ hin)]
  exact hfz b off hin
 ·intro ha
  cases ha
 ·intro x hx _
  simpa using hx
end
section
variable {P : Program} {n : Nat} {l : List (Nat × Value)} {E : World} {L : List Heaplet} {Q : Exit → Act → World → Prop} {ops : Array Oper} {rest : List Oper} {o : Oper}
end
theorem bits_comp_u64 (x:UInt64):bits .xor .u64 18446744073709551615 (x.toNat:Int)=((~~~x).toNat:Int):=by
 have h:=bits_xor_u64 18446744073709551615 x
 have e:((18446744073709551615:UInt64).toNat:Int)=18446744073709551615:=rfl
 rw [e]at h
 rw [h]
 congr 2
section
variable {P : Program} {n : Nat} {l : List (Nat × Value)} {E : World} {L L1 Ls : List Heaplet} {o : Oper} {X Y : Act → World → Prop} {N M : Heaplet}
variable {d : Nat} {ty t t' t2 e e2 : TypeId} {pos : String} {aft : Array Edge} {g : Option (Nat × Bool)} {v : Value} {x y z : Operand} {k : IntKind} {p q : Int} {b off : Nat}
theorem op_compU {a:UInt64} (s:NxF P n l E L Ls ⟨some d,.unOp .xor t x,ty,pos,aft,g⟩ X Y) (hx:ev l x=some (.int .u64 (a.toNat:Int))) (hn:Nat.ble (d+1) n=true) (h:At n ((d,.int .u64 ((~~~a).toNat:Int))::l) E L Y):At n l E L X:=
 op_val s (fun a' w hf _=>by
  simp only [execOp,hf.eval hx,Op.unary]
  have e:Op.intBits .xor .u64 (if IntKind.u64.signed=true then-1 else IntKind.u64.max) (a.toNat:Int)=(pure (.int .u64 ((~~~a).toNat:Int)):Sem Value):=by
   rw [intBits_xor, ←bits_comp_u64];rfl
  rw [e];rfl) rfl hn h
theorem op_copyB {cs ys:List Value} {dl dc m cap':Nat} {ao':Option Addr} (s:Nx P n l E L ⟨some d,.call ⟨.builtin .copy, #[x,y], #[t,t2]⟩,ty,pos,aft,g⟩ X Y) (ht:selt P t=some (e,1))
 (hx:ev l x=some (.slice (some ⟨b,off,none⟩) dl dc)) (hy:ev l y=some (.slice ao' m cap')) (hb:Blk N b e2 cs) (hs:RSl M 1 ao' m cap' ys) (hM:M∈L) (h1: ∀u∈ys,u.oneCell'=true) (hfit:off+min m dl≤cs.length) (sel:L.Perm (N::L1)) (hn:Nat.ble (d+1) n=true)
 (h: ∀N',Blk N' b e2 (cs.take off++ys.take (min m dl)++cs.drop (off+min m dl))→At n ((d,.int .i64 ((min m dl:Nat):Int))::l) E (N'::L1) Y):At n l E L X:=by
 obtain⟨hu,i,hi,hsz⟩:=selt_spec ht
 have hlen:ys.length=m:=hs.len
 refine op_upd s (fun v L'=> ∃N',v=.int .i64 ((min m dl:Nat):Int)∧L'=N'::L1∧Blk N' b e2 (cs.take off++ys.take (min m dl)++cs.drop (off+min m dl))) (fun a w hf hw=>?_) rfl hn (fun v L' ⟨N',e1,e2,hb'⟩=>by subst e1 e2;exact h N' hb')
 have hw2:=hw.perm sel
 have hheap:=hw2.sub N (List.mem_cons_self ..) _ _ hb
 have hres: ∀u w',(Builtin.copy_ #[t,t2] ty #[.slice (some ⟨b,off,none⟩) dl dc,.slice ao' m cap']).run P w=.ok u w'→(execOp a.eval ⟨some d,.call ⟨.builtin .copy, #[x,y], #[t,t2]⟩,ty,pos,aft,g⟩).run P w=.ok (.value u) w':=fun u w' hr=>by
  simp only [execOp,resolve,invoke,builtin,Sem.run_bind,Sem.run_pure,Result.andThen_ok,List.map_toArray,List.map_cons,List.map_nil,hf.eval hx,hf.eval hy,hr]
 by_cases h0:min m dl=0
 ·have hr:=run_copy_none (P:=P) w t t2 ty e (some ⟨b,off,none⟩) ao' dl dc m cap' hu (by rw [hi];simp [hsz]) h0
  refine⟨_,w,N::L1,hres _ _ hr,hw2,N,by rw [h0];rfl,rfl,?_⟩
  rw [h0,List.take_zero,List.append_nil,Nat.add_zero,List.take_append_drop];exact hb
 ·obtain⟨b',off',rfl,hr'⟩:=hs.2.2.2 (by omega)
  have hsrc: ∀j v,(ys.take (min m dl))[j]? =some v→w.cell? ((⟨b',off',none⟩:Addr).add j)=some v:=fun j v hj=>by
   rw [List.getElem?_take]at hj
   split at hj
   ·obtain⟨hlt,rfl⟩:=List.getElem?_eq_some_iff.1 hj
    rw [addr_add];exact hw.cell hM (hr' j hlt)
   ·cases hj
  have hlt:(ys.take (min m dl)).length=min m dl:=by rw [List.length_take];omega
  have hr:=run_copy_row (P:=P) w t t2 ty e b off dl dc ⟨b',off',none⟩ m cap' cs.toArray e2 (ys.take (min m dl)) hu (by rw [hi];simp [hsz]) hheap (by rw [hlt]) hsrc (by rw [hlt];simpa using hfit) (fun u hu=>h1 u (List.mem_of_mem_take hu))
  rw [hlt]at hr
  refine⟨_,_,upd N b (.cells (cs.take off++ys.take (min m dl)++cs.drop (off+min m dl)).toArray e2 (0,0))::L1,hres _ _ hr,(hw2.put hb rfl rfl rfl ?_ (fun k hk _=>?_)),_,rfl,rfl,upd_self _ _ _⟩
  ·have:=setRow_heap w b cs.toArray (cs.take off++ys.take (min m dl)++cs.drop (off+min m dl)).toArray e2 (0,0) hheap
   simpa using this
  ·simp only [World.setRow,Array.getElem?_modify,if_neg (Ne.symm hk)]
theorem op_ext {f:FuncId} {xs:List Operand} {args:List Value} {ats:Array TypeId} (s:NxA P n l E L ⟨some d,.call ⟨.value (.func f),xs.toArray,ats⟩,ty,pos,aft,g⟩ X Y)
 (ha:Evs l xs args) (hr: ∀w,(callFunc f args.toArray).run P w=.ok (.value v) w) (hn:Nat.ble (d+1) n=true) (h:At n ((d,v)::l) E L Y):At n l E L X:=fun a w hf hw=>by
 refine s a w hf hw ?_
 unfold Oper.wp
 have hrun:(execOp a.eval ⟨some d,.call ⟨.value (.func f),xs.toArray,ats⟩,ty,pos,aft,g⟩).run P w=.ok (.value v) w:=by
  have he:a.eval (.func f)=.func (.func f) #[] #[]:=rfl
  simp only [execOp,resolve,invoke,Sem.run_bind,Sem.run_pure,Result.andThen_ok,List.map_toArray,ha.map hf,he,Deferred.ofValue,Array.empty_append,Array.append_empty,hr]
 rw [hrun]
 exact⟨fun _ _=>rfl,h _ _ (hf.put (Nat.le_of_ble_eq_true hn)) hw⟩
inductive Cps (l:List (Nat×Value)):List Operand→List Value→Prop
 |nil:Cps l [] []
 |cons {x:Operand} {v:Value} {xs:List Operand} {vs:List Value} (h:ev l x=some v) (k:Cps l xs vs):Cps l (x::xs) (v::vs)
theorem Cps.map {xs:List Operand} {vs:List Value} (h:Cps l xs vs) {ds:List Deferred} {a:Act} (hf:Fr ds n l a):xs.map a.eval=vs:=by
 induction h with
 |nil=>rfl
 |cons hx _ ih=>rw [List.map_cons,hf.eval hx,ih]
theorem op_mkF {fn:Go.Fn} {first caps:List Operand} {fs cs:List Value} (s:NxF P n l E L Ls ⟨some d,.makeFunc fn first.toArray caps.toArray,ty,pos,aft,g⟩ X Y) (h1:Cps l first fs) (h2:Cps l caps cs) (hn:Nat.ble (d+1) n=true) (h:At n ((d,.func fn fs.toArray cs.toArray)::l) E L Y):At n l E L X:=
 op_val s (fun a w hf _=>by
  simp [execOp,Instr.makeFunc,List.map_toArray,h1.map hf,h2.map hf]) rfl hn h
theorem op_callV {f:FuncId} {fn:Func} {c:Operand} {xs:List Operand} {args caps:List Value} {ats:Array TypeId} {L0 Lr F:List Heaplet} {Post:Value→List Heaplet→Prop} (s:Nx P n l E L ⟨some d,.call ⟨.value c,xs.toArray,ats⟩,ty,pos,aft,g⟩ X Y)
 (hcv:ev l c=some (.func (.func f) #[] caps.toArray)) (ha:Evs l xs args) (hc:Fn P f (args++caps).toArray L0 Lr Post) (hfn:P.funcs[f]? =some fn) (hb:fn.body.isSome=true) (hne:(fn.name== "runtime.NumGoroutine")=false) (hL:L.Perm (L0++F)) (hr: ∀N∈Lr,N∈F) (hn:Nat.ble (d+1) n=true)
 (h: ∀v L1,Post v L1→At n ((d,v)::l) E (L1++F) Y):At n l E L X:=fun a w hf hw=>by
 refine s a w hf hw ?_
 unfold Oper.wp
 have hw2:=hw.perm hL
 have hrun:(execOp a.eval ⟨some d,.call ⟨.value c,xs.toArray,ats⟩,ty,pos,aft,g⟩).run P w=.ok (.enter f (args++caps).toArray) w:=by
  have hne':fn.name≠ "runtime.NumGoroutine" :=by simpa using hne
  have he:=hf.eval hcv
  have hap:args.toArray++caps.toArray=(args++caps).toArray:=by simp
  simp only [execOp,resolve,invoke,Sem.run_bind,Sem.run_pure,Result.andThen_ok,List.map_toArray,ha.map hf,he,Deferred.ofValue,Array.empty_append,hap,run_call hfn hb hne']
 rw [hrun]
 have hsep:=List.pairwise_append.1 hw2.sep
 let R:Heaplet:=fun k=>if ∃N∈L0,N k≠none then none else w.heap[k]?
 have hRw:R.le (whole w):=fun k o hk=>by
  simp only [R]at hk
  split at hk
  ·cases hk
  ·exact hk
 have hFR: ∀N∈F,N.le R:=fun N hN k o hk=>by
  have hno: ¬ ∃M∈L0,M k≠none:=by
   rintro⟨M,hM,hMk⟩
   rcases hsep.2.2 M hM N hN k with h|h
   ·exact hMk h
   ·rw [hk]at h;cases h
  simp only [R,if_neg hno]
  exact hw2.sub N (List.mem_append_right _ hN) k o hk
 have hwR:Hp E (L0++ [R]) w:=by
  refine⟨hw.os,hw.tape,hw.output,fun N hN=>?_,?_⟩
  ·rcases List.mem_append.1 hN with hN|hN
   ·exact hw2.sub N (List.mem_append_left _ hN)
   ·simp at hN;subst hN;exact hRw
  ·rw [List.pairwise_append]
   refine⟨hsep.1,by simp,fun A hA B hB k=>?_⟩
   simp at hB;subst hB
   by_cases hAk:A k=none
   ·exact .inl hAk
   ·exact .inr (if_pos ⟨A,hA,hAk⟩)
 refine Calls.mono (hc E w R hwR fun N hN=>hFR N (hr N hN)) ?_
 rintro e w' ⟨v,L1,rfl,hP,hw'⟩
 exact h v L1 hP _ _ (hf.put (Nat.le_of_ble_eq_true hn)) (hw'.refine hFR hsep.2.1)
end
def addS (x y c:UInt64):UInt64:=UInt64.ofNat ((x.toNat+y.toNat+c.toNat) % 2^64)
def addC (x y c:UInt64):UInt64:=UInt64.ofNat ((x.toNat+y.toNat+c.toNat)/2^64)
theorem addS_nat (x y c:UInt64):(addS x y c).toNat=(x.toNat+y.toNat+c.toNat) % 2^64:=by rw [addS,UInt64.toNat_ofNat',Nat.mod_mod]
theorem addC_nat (x y c:UInt64) (hc:c.toNat≤1):(addC x y c).toNat=(x.toNat+y.toNat+c.toNat)/2^64:=by
 have hx:=x.toNat_lt
 have hy:=y.toNat_lt
 rw [addC,UInt64.toNat_ofNat',Nat.mod_eq_of_lt]
 omega
def subS (x y c:UInt64):UInt64:=UInt64.ofNat ((x.toNat+2^64- y.toNat- c.toNat) % 2^64)
def subC (x y c:UInt64):UInt64:=if x.toNat<y.toNat+c.toNat then 1 else 0
def mulH (x y:UInt64):UInt64:=UInt64.ofNat (x.toNat*y.toNat/2^64)
def DInv (R u1 y1 y0 q rh:Nat):Prop:=rh+q*y1=R∧rh*4294967296+u1<q*y0+y1*4294967296+y0∧q≤4294967297
def fromStep (l:List UInt8) (k:Nat) (a:List UInt64):List UInt64:=
 a.set ((l.length- 1- k)/8) (a.getD ((l.length- 1- k)/8) 0 |||(UInt64.ofNat ((l.getD k 0).toNat*2^((l.length- 1- k) % 8*8))))
def fromSt (l:List UInt8):Nat→List UInt64
 |0=>List.replicate ((l.length+7)/8) 0
 |k+1=>fromStep l k (fromSt l k)
theorem limb_v64 {a:List UInt64} {i:Nat} (h:i<a.length):v64 a/2^(64*i) % 2^64=a[i].toNat:=by
 have:=val_div_mod (B:=2^64) (by decide) (n64_lt a) i (by simpa using h)
 rw [←Nat.pow_mul]at this
 simpa [v64,n64]using this
def n32 (l:List UInt32):List Nat:=l.map UInt32.toNat
def v32 (l:List UInt32):Nat:=val (2^32) (n32 l)
theorem n32_lt (l:List UInt32): ∀x∈n32 l,x<2^32:=by
 intro x hx;obtain⟨y,_,rfl⟩:=List.mem_map.1 hx;exact y.toNat_lt
@[simp] theorem length_n32 (l:List UInt32):(n32 l).length=l.length:=by simp [n32]
theorem v32_lt (l:List UInt32):v32 l<2^(32*l.length):=by
 have:=val_lt (B:=2^32) (by decide) (n32_lt l)
 rw [length_n32, ←Nat.pow_mul]at this
 exact this
def digsN (k N:Nat):List UInt32:=(List.range k).map fun i=>UInt32.ofNat (N/2^(32*i))
@[simp] theorem length_digsN (k N:Nat):(digsN k N).length=k:=by simp [digsN]
theorem n32_digsN (k N:Nat):n32 (digsN k N)=dig (2^32) k N:=by
 simp only [n32,digsN,dig,List.map_map]
 apply List.map_congr_left
 intro i _
 show(UInt32.ofNat (N/2^(32*i))).toNat=_
 rw [UInt32.toNat_ofNat',Nat.pow_mul]
def digsOf (N:Nat):List UInt32:=digsN ((bitLen N+31)/32) N
def rfromStep (l:List UInt8) (i:Nat) (a:List UInt32):List UInt32:=
 a.set (i/4) (a.getD (i/4) 0 |||(UInt32.ofNat ((l.getD (l.length- 1- i) 0).toNat*2^(8*(i % 4)))))
def rfromSt (l:List UInt8):Nat→List UInt32
 |0=>List.replicate ((l.length+3)/4) 0
 |k+1=>rfromStep l k (rfromSt l k)
end Go.Proofs.YtalmjkcapecpiaaGreat
