/- Several texts in one: see the remarks ahead of each part. No condition but those told there. -/
import Derived.Test.YtjfagifjajielaaGreatX1
import Derived.Test.YtjfagifjajielaaGreatX3
import Derived.WalkKit
import Derived.ProofKit
import Derived.OpenShut
import Derived.Below
import Derived.ChangeSame
import Derived.WideKeyArgs
import Derived.Deep.Slices
import Derived.Test.YtjfagifjajielaaGreatProg
import Derived.Deep.Strs
set_option linter.unusedSimpArgs false
set_option linter.unusedVariables false
namespace Go.Proofs.YtjfagifjajielaaGreat
open Go Go.RowKit
theorem bZ {A:Heaplet} {L:List Heaplet} :A∈A::L:=List.Mem.head _
theorem mem1 {A B:Heaplet} {L:List Heaplet} :A∈B::A::L:=List.Mem.tail _ bZ
theorem mem2 {A B C:Heaplet} {L:List Heaplet} :A∈B::C::A::L:=List.Mem.tail _ mem1
theorem mem3 {A B C D:Heaplet} {L:List Heaplet} :A∈B::C::D::A::L:=List.Mem.tail _ mem2
theorem mem4 {A B C D F:Heaplet} {L:List Heaplet} :A∈B::C::D::F::A::L:=List.Mem.tail _ mem3
theorem mem5 {A B C D F G:Heaplet} {L:List Heaplet} :A∈B::C::D::F::G::A::L:=List.Mem.tail _ mem4
theorem mem6 {A B C D F G H:Heaplet} {L:List Heaplet} :A∈B::C::D::F::G::H::A::L:=List.Mem.tail _ mem5
theorem mem7 {A B C D F G H I:Heaplet} {L:List Heaplet} :A∈B::C::D::F::G::H::I::A::L:=List.Mem.tail _ mem6
theorem mem8 {A B C D F G H I J:Heaplet} {L:List Heaplet} :A∈B::C::D::F::G::H::I::J::A::L:=List.Mem.tail _ mem7
theorem sel5 {A B C D F G:Heaplet} {L:List Heaplet} :(B::C::D::F::G::A::L).Perm (A::B::C::D::F::G::L):=(List.Perm.cons _ sel4).trans (.swap _ _ _)
theorem bY {n:Nat} {l:List (Nat×Value)} {E:World} {K:Act→World→Prop} {L:List Heaplet} {A0 A1 A2 A3 A4 A5:Heaplet} (h:At n l E (A0::A1::A2::A3::A4::A5::L) K):At n l E (A1::A2::A3::A4::A5::A0::L) K:=At.perm sel5 h
theorem sel6 {A B C D F G H:Heaplet} {L:List Heaplet} :(B::C::D::F::G::H::A::L).Perm (A::B::C::D::F::G::H::L):=(List.Perm.cons _ sel5).trans (.swap _ _ _)
theorem bM {n:Nat} {l:List (Nat×Value)} {E:World} {K:Act→World→Prop} {L:List Heaplet} {A0 A1 A2 A3 A4 A5 A6:Heaplet} (h:At n l E (A0::A1::A2::A3::A4::A5::A6::L) K):At n l E (A1::A2::A3::A4::A5::A6::A0::L) K:=At.perm sel6 h
theorem sel7 {A B C D F G H I:Heaplet} {L:List Heaplet} :(B::C::D::F::G::H::I::A::L).Perm (A::B::C::D::F::G::H::I::L):=(List.Perm.cons _ sel6).trans (.swap _ _ _)
theorem bN {n:Nat} {l:List (Nat×Value)} {E:World} {K:Act→World→Prop} {L:List Heaplet} {A0 A1 A2 A3 A4 A5 A6 A7:Heaplet} (h:At n l E (A0::A1::A2::A3::A4::A5::A6::A7::L) K):At n l E (A1::A2::A3::A4::A5::A6::A7::A0::L) K:=At.perm sel7 h
theorem sel8 {A B C D F G H I J:Heaplet} {L:List Heaplet} :(B::C::D::F::G::H::I::J::A::L).Perm (A::B::C::D::F::G::H::I::J::L):=(List.Perm.cons _ sel7).trans (.swap _ _ _)
theorem bL {n:Nat} {l:List (Nat×Value)} {E:World} {K:Act→World→Prop} {L:List Heaplet} {A0 A1 A2 A3 A4 A5 A6 A7 A8:Heaplet} (h:At n l E (A0::A1::A2::A3::A4::A5::A6::A7::A8::L) K):At n l E (A1::A2::A3::A4::A5::A6::A7::A8::A0::L) K:=At.perm sel8 h
theorem sel9 {A B C D F G H I J K:Heaplet} {L:List Heaplet} :(B::C::D::F::G::H::I::J::K::A::L).Perm (A::B::C::D::F::G::H::I::J::K::L):=(List.Perm.cons _ sel8).trans (.swap _ _ _)
theorem bJ {n:Nat} {l:List (Nat×Value)} {E:World} {K:Act→World→Prop} {L:List Heaplet} {A0 A1 A2 A3 A4 A5 A6 A7 A8 A9:Heaplet} (h:At n l E (A0::A1::A2::A3::A4::A5::A6::A7::A8::A9::L) K):At n l E (A1::A2::A3::A4::A5::A6::A7::A8::A9::A0::L) K:=At.perm sel9 h
theorem sel10 {A B C D F G H I J K M:Heaplet} {L:List Heaplet} :(B::C::D::F::G::H::I::J::K::M::A::L).Perm (A::B::C::D::F::G::H::I::J::K::M::L):=(List.Perm.cons _ sel9).trans (.swap _ _ _)
theorem bB {n:Nat} {l:List (Nat×Value)} {E:World} {K:Act→World→Prop} {L:List Heaplet} {A0 A1 A2 A3 A4 A5 A6 A7 A8 A9 A10:Heaplet} (h:At n l E (A0::A1::A2::A3::A4::A5::A6::A7::A8::A9::A10::L) K):At n l E (A1::A2::A3::A4::A5::A6::A7::A8::A9::A10::A0::L) K:=At.perm sel10 h
theorem sel11 {A B C D F G H I J K M O:Heaplet} {L:List Heaplet} :(B::C::D::F::G::H::I::J::K::M::O::A::L).Perm (A::B::C::D::F::G::H::I::J::K::M::O::L):=(List.Perm.cons _ sel10).trans (.swap _ _ _)
theorem permSel11 {n:Nat} {l:List (Nat×Value)} {E:World} {K:Act→World→Prop} {L:List Heaplet} {A0 A1 A2 A3 A4 A5 A6 A7 A8 A9 A10 A11:Heaplet} (h:At n l E (A0::A1::A2::A3::A4::A5::A6::A7::A8::A9::A10::A11::L) K):At n l E (A1::A2::A3::A4::A5::A6::A7::A8::A9::A10::A11::A0::L) K:=At.perm sel11 h
theorem sel12 {A B C D F G H I J K M O P:Heaplet} {L:List Heaplet} :(B::C::D::F::G::H::I::J::K::M::O::P::A::L).Perm (A::B::C::D::F::G::H::I::J::K::M::O::P::L):=(List.Perm.cons _ sel11).trans (.swap _ _ _)
theorem permSel12 {n:Nat} {l:List (Nat×Value)} {E:World} {K:Act→World→Prop} {L:List Heaplet} {A0 A1 A2 A3 A4 A5 A6 A7 A8 A9 A10 A11 A12:Heaplet} (h:At n l E (A0::A1::A2::A3::A4::A5::A6::A7::A8::A9::A10::A11::A12::L) K):At n l E (A1::A2::A3::A4::A5::A6::A7::A8::A9::A10::A11::A12::A0::L) K:=At.perm sel12 h
theorem mem9 {A B C D F G H I J K:Heaplet} {L:List Heaplet} :A∈B::C::D::F::G::H::I::J::K::A::L:=List.Mem.tail _ mem8
theorem mem10 {A B C D F G H I J K M:Heaplet} {L:List Heaplet} :A∈B::C::D::F::G::H::I::J::K::M::A::L:=List.Mem.tail _ mem9
theorem mem11 {A B C D F G H I J K M O:Heaplet} {L:List Heaplet} :A∈B::C::D::F::G::H::I::J::K::M::O::A::L:=List.Mem.tail _ mem10
theorem mem12 {A B C D F G H I J K M O P:Heaplet} {L:List Heaplet} :A∈B::C::D::F::G::H::I::J::K::M::O::P::A::L:=List.Mem.tail _ mem11
theorem mem13 {A B C D F G H I J K M O P Q:Heaplet} {L:List Heaplet} :A∈B::C::D::F::G::H::I::J::K::M::O::P::Q::A::L:=List.Mem.tail _ mem12
theorem lkI {l:List (Nat×Value)} {i:Nat} {k:IntKind} {p q:Int} (h:lk l i=some (.int k p)) (e:p=q):lk l i=some (.int k q):=by rw [h,e]
theorem und_some {P:Program} {t:TypeId} {d:TypeDesc} (h:P.underlying t=some d):(P.underlying t).isSome=true:=by rw [h];rfl
theorem getD_some {α:Type} {l:List α} {j:Nat} {z:α} (h:j<l.length):l[j]? =some (l.getD j z):=by
 rw [List.getD_eq_getElem?_getD,List.getElem?_eq_getElem h];rfl
theorem get8 {bs:List UInt8} {j:Nat} (h:j<bs.length):(u8s bs)[j]? =some (.int .u8 ((bs.getD j 0).toNat:Int)):=by
 rw [u8s,List.getElem?_map,getD_some (z:=0) h];rfl
theorem get64 {bs:List UInt64} {j:Nat} (h:j<bs.length):(u64s bs)[j]? =some (.int .u64 ((bs.getD j 0).toNat:Int)):=by
 rw [u64s,List.getElem?_map,getD_some (z:=0) h];rfl
theorem get32 {bs:List UInt32} {j:Nat} (h:j<bs.length):(u32s bs)[j]? =some (.int .u32 ((bs.getD j 0).toNat:Int)):=by
 rw [u32s,List.getElem?_map,getD_some (z:=0) h];rfl
section
variable {P : Program} {n : Nat} {l l' : List (Nat × Value)} {E : World} {L L1 Ls : List Heaplet} {o : Oper} {X Y K : Act → World → Prop} {N : Heaplet} {Q : Exit → Act → World → Prop}
variable {d : Nat} {ty t t' e : TypeId} {pos : String} {aft : Array Edge} {g : Option (Nat × Bool)} {v : Value} {x y z : Operand} {k : IntKind} {p q : Int} {size len cap : Nat} {ao : Option Addr} {xs : List Value} {b off j : Nat}
theorem At.cut {c:Code} (hk:Keeps l l') (hc:At n ((d,v)::l') E L K) (hb: ∀K',(∀l'',Keeps l'' l'→lk l'' d=some v→At n l'' E L K')→At n l E L (c.wp P (Exit.then K' Q))):At n l E L (c.wp P (Exit.then K Q)):=
 hb K fun l'' h1 h2=>At.keep (.cons h2 h1) hc
theorem bU (s:NxF P n l E L Ls ⟨some d,.indexAddr t x y,ty,pos,aft,g⟩ X Y) (ht:selt P t=some (e,1)) (hx:ev l x=some (.slice ao len cap)) (hy:ev l y=some (.int k p)) (hs:RSl N 1 ao len cap xs) (hj:p=(j:Int)) (hlt:j<len) (hn:Nat.ble (d+1) n=true) (h:At n ((d,eptr ao j)::l) E L Y):At n l E L X:=
 op_idxE s ht hx hy hs hj hlt hn (by rw [Nat.mul_one];exact h)
theorem At.retNE {Post:Value→List Heaplet→Prop} {R:Heaplet} {L2:List Heaplet} {fn:Func} {rs:List ResultVar} {vs:List Value} (hr:fn.results=rs.toArray)
 (hv:Res P l L rs vs) (hn:(vs.length==1)=false) (hs:L2.Sublist L) (hL:L2.Perm (L1++ [R])) (hP:Post (.tuple vs.toArray) L1):
 At n l E L (bodyPostE P fn E R Post .normal):=bV hr hv hn hs hL hP
theorem res_agg {cs ds:List Value} {kk:Nat} (ht:aggOf P t=some kk) (hb:Blk N b e cs) (hd:(cs.drop off).take kk=ds) (hk:ds.length=kk) (hN:N∈L): ∀E w,Hp E L w→(loadVar t ⟨b,off,none⟩).run P w=.ok (.agg ds.toArray) w:=fun E w hw=>
 run_load_agg ht hk fun i hi=>hw.cell hN (by
  have h2:((cs.drop off).take kk)[i]? =some ds[i]:=by rw [hd];exact List.getElem?_eq_getElem hi
  rw [List.getElem?_take,if_pos (by omega),List.getElem?_drop]at h2
  obtain⟨hl,he⟩:=List.getElem?_eq_some_iff.1 h2
  have:=hb.rng (off+i) hl
  rw [Nat.zero_add]at this
  rw [this,he])
inductive Pts (l:List (Nat×Value)):List (Nat×Operand)→List (Nat×Value)→Prop
 |nil:Pts l [] []
 |cons {i:Nat} {x:Operand} {v:Value} {xs:List (Nat×Operand)} {vs:List (Nat×Value)} (h:ev l x=some v) (k:Pts l xs vs):Pts l ((i,x)::xs) ((i,v)::vs)
theorem Pts.map {xs:List (Nat×Operand)} {vs:List (Nat×Value)} (h:Pts l xs vs) {ds:List Deferred} {a:Act} (hf:Fr ds n l a):(xs.map fun p=>(p.1,a.eval p.2))=vs:=by
 induction h with
 |nil=>rfl
 |cons h _ ih=>rw [List.map_cons,ih];simp [hf.eval h]
def fillL (ps:List (Nat×Nat)) (cells:List Value):List (Nat×Value)→Option (List Value)
 | []=>some cells
 |(i,v)::rest=>match ps[i]? with
  |none=>none
  |some (off,size)=>if v.cells.toList.length=size∧off+v.cells.toList.length≤cells.length then fillL ps (setL cells off v.cells.toList) rest else none
theorem foldl_setL (vs:List Value): ∀(cs:List Value) (off i:Nat),((vs.zipIdx i).foldl (fun(cs:Array Value) (c,j)=>cs.setIfInBounds (off+j) c) cs.toArray)=(setL cs (off+i) vs).toArray:=by
 induction vs with
 |nil=>intro cs off i;rfl
 |cons v t ih=>
  intro cs off i
  rw [List.zipIdx_cons,List.foldl_cons,setL]
  have:cs.toArray.setIfInBounds (off+i) v=(cs.set (off+i) v).toArray:=by simp
  show List.foldl _ (cs.toArray.setIfInBounds (off+i) v) _=_
  rw [this,ih];rfl
theorem fill_fillL {ps:List (Nat×Nat)} {place:Nat→Option (Nat×Nat)} (hp: ∀i o,ps[i]? =some o→place i=some o): ∀(parts:List (Nat×Value)) (cells out:List Value),fillL ps cells parts=some out→Instr.fill place cells.toArray parts=some out.toArray:=by
 intro parts
 induction parts with
 |nil=>intro cells out h;cases h;rfl
 |cons pv rest ih=>
  intro cells out h
  obtain⟨i,v⟩:=pv
  simp only [fillL]at h
  split at h
  ·cases h
  ·rename_i o s hs
   split at h
   ·rename_i hc
    simp only [Instr.fill,hp _ _ hs]
    rw [Array.length_toList]at hc
    rw [if_neg (by simp;omega)]
    have e:=foldl_setL v.cells.toList cells o 0
    rw [Nat.add_zero]at e
    have e2:(Array.foldl (fun cs x=>cs.setIfInBounds (o+x.2) x.1) cells.toArray v.cells.zipIdx)=(setL cells o v.cells.toList).toArray:=by
     rw [←e, ←Array.foldl_toList,Array.toList_zipIdx]
    rw [e2]
    exact ih _ _ h
   ·cases h
theorem places_spec {P:Program} {t:TypeId} {ps:List (Nat×Nat)} (h:places P t=some ps) (w:World): ∃fs,P.underlying t=some (.struct fs)∧(fs.mapM (m:=Sem) fun f=>do pure (f.offset, ←sizeOf f.type)).run P w=.ok ps.toArray w:=by
 unfold places at h
 split at h
 ·rename_i fs hu
  refine⟨fs,hu,?_⟩
  have key: ∀(l:List Field) (ps:List (Nat×Nat)),(l.mapM fun f=>(siz P f.type).map fun s=>(f.offset,s))=some ps→(l.mapM (m:=Sem) fun f=>do pure (f.offset, ←sizeOf f.type)).run P w=.ok ps w:=by
   intro l
   induction l with
   |nil=>intro ps h;cases h;rfl
   |cons f t ih=>
    intro ps h
    simp only [List.mapM_cons,Option.bind_eq_bind,Option.bind_eq_some_iff,Option.map_eq_some_iff]at h
    obtain⟨a,⟨s,hs,rfl⟩,qs,hq,h⟩:=h
    cases h
    obtain⟨i,hi,rfl⟩:=Option.map_eq_some_iff.1 hs
    rw [List.mapM_cons,Sem.run_bind,Sem.run_bind,run_sizeOf hi]
    simp only [Result.andThen_ok,Sem.run_pure]
    rw [Sem.run_bind,ih qs hq]
    rfl
  have:=key fs.toList ps h
  rw [Array.mapM_eq_mapM_toList,Sem.run_map,this]
  rfl
 ·cases h
theorem op_build {parts:List (Nat×Operand)} {vs:List (Nat×Value)} {zs out:List Value} {ps:List (Nat×Nat)} (s:NxF P n l E L Ls ⟨some d,.build t parts.toArray,ty,pos,aft,g⟩ X Y) (hz:zer P t=some (.agg zs.toArray)) (hp:places P t=some ps) (hv:Pts l parts vs) (ho:fillL ps zs vs=some out) (hn:Nat.ble (d+1) n=true) (h:At n ((d,.agg out.toArray)::l) E L Y):At n l E L X:=
 op_val s (fun a w hf hw=>by
  obtain⟨i,hi,hiz⟩:=Option.bind_eq_some_iff.1 hz
  obtain⟨fs,hu,hm⟩:=places_spec hp w
  have hzr:(zeroValue t).run P w=.ok (.agg zs.toArray) w:=by simp [zeroValue,typeInfo,hi,hiz]
  have hfill:=fill_fillL (place:=(ps.toArray[·]?)) (fun i o h=>by simpa using h) vs zs out ho
  have hpv:(parts.toArray.map fun(x:Nat×Operand)=>(x.1,a.eval x.2))=vs.toArray:=by rw [List.map_toArray,hv.map hf]
  have hb:(Instr.build t vs.toArray).run P w=.ok (.agg out.toArray) w:=by
   unfold Instr.build
   rw [Sem.run_bind,hzr]
   simp only [Result.andThen_ok]
   rw [Sem.run_bind,run_underlying hu]
   simp only [Result.andThen_ok]
   rw [Sem.run_bind,hm]
   simp only [Result.andThen_ok,Value.cells,hfill,Sem.run_pure]
  show((do pure (.value (←Instr.build t (parts.toArray.map fun(x:Nat×Operand)=>(x.1,a.eval x.2)))):Sem Next)).run P w=_
  rw [hpv,Sem.run_bind,hb]
  rfl) rfl hn h
theorem op_buildSlice {parts:List (Nat×Operand)} {vs:List (Nat×Value)} {zv:Value} {out:List Value} {m:Nat} (s:NxA P n l E L ⟨some d,.buildSlice t m parts.toArray,ty,pos,aft,g⟩ X Y) (ht:P.underlying t=some (.slice e)) (hz:zer P e=some zv) (hsz:siz P e=some size) (hv:Pts l parts vs)
 (ho:fillL ((List.range m).map fun i=>(i*size,size)) (madeCells zv.cells (m*size)).toList vs=some out) (hlen:out.length=m*size) (hm:Nat.ble (m*size) 16777216=true) (hm2:Nat.ble m 16777216=true) (hn:Nat.ble (d+1) n=true)
 (h: ∀N ao,Row N e size ao m m out→At n ((d,.slice ao m m)::l) E (N::L) Y):At n l E L X:=by
 have hm':=Nat.le_of_ble_eq_true hm
 refine op_new s (fun v L'=> ∃N ao,v=.slice ao m m∧L'=N::L∧Row N e size ao m m out) (fun a w hf hw=>?_) rfl hn (fun v L' ⟨N,ao,hv,hL,hB⟩=>by subst hv;subst hL;exact h N ao hB)
 obtain⟨i,hi,hiz⟩:=Option.bind_eq_some_iff.1 hz
 obtain⟨i',hi',hs'⟩:=Option.map_eq_some_iff.1 hsz
 rw [hi]at hi';cases hi'
 have hzr:(zeroValue e).run P w=.ok zv w:=by simp [zeroValue,typeInfo,hi,hiz]
 have hpv:(parts.toArray.map fun(x:Nat×Operand)=>(x.1,a.eval x.2))=vs.toArray:=by rw [List.map_toArray,hv.map hf]
 have hfill:=fill_fillL (place:=fun i=>some (i*size,size)) (fun i o h=>by
  rw [List.getElem?_map,Option.map_eq_some_iff]at h
  obtain⟨i',hi',rfl⟩:=h
  have:=List.getElem?_eq_some_iff.1 hi'
  obtain⟨h1,h2⟩:=this
  simp at h2;subst h2;rfl) vs _ out ho
 refine⟨_,_,_,?_,Agree.alloc w (.cells out.toArray e),hw.alloc _,single w.heap.size (.cells out.toArray e),some ⟨w.heap.size,0,none⟩,rfl,rfl,⟨hlen,Nat.le_refl _,?_,.inr ⟨w.heap.size,_,rfl,single_self _ _,by simpa using hlen,by simp [←hlen]⟩⟩⟩
 ·show((do pure (.value (←Instr.buildSlice t m (parts.toArray.map fun(x:Nat×Operand)=>(x.1,a.eval x.2)))):Sem Next)).run P w=_
  rw [hpv,Sem.run_bind]
  have hb:(Instr.buildSlice t m vs.toArray).run P w=.ok (.slice (some ⟨w.heap.size,0,none⟩) m m) (w.alloc (.cells out.toArray e)):=by
   have hbig: ¬m*size>2^24:=by omega
   unfold Instr.buildSlice
   simp only [Sem.run_bind,run_underlying ht,Result.andThen_ok,run_sizeOf hi,hs',if_neg hbig,Sem.run_pure]
   by_cases h0:m*size=0
   ·have e1:(madeCells zv.cells (m*size))= #[]:=by rw [h0];simp [madeCells]
    rw [e1]at hfill
    have hfill':Instr.fill (fun i=>some (i*size,size)) #[] vs=some out.toArray:=hfill
    have e0: ∀a:Array Value,((Array.range 0).map fun x=>a[x % a.size]!)= #[]:=fun a=>by simp
    simp only [h0,if_true,Sem.run_pure,Result.andThen_ok,e0,hfill',Sem.run_bind,newRow]
    rfl
   ·simp only [if_neg h0,Sem.run_bind,hzr,Result.andThen_ok,Sem.run_pure]
    have e1:((Array.range (m*size)).map fun x=>zv.cells[x % zv.cells.size]!)=madeCells zv.cells (m*size):=rfl
    rw [e1]
    have hfill':Instr.fill (fun i=>some (i*size,size)) (madeCells zv.cells (m*size)) vs=some out.toArray:=by simpa using hfill
    simp only [hfill',Sem.run_bind,newRow,Sem.run_pure]
    rfl
  rw [hb]
  rfl
 ·have:=Nat.le_of_ble_eq_true hm2
  unfold maxLen;omega
end
theorem sadr_zero (ao:Option Addr) (m s:Nat):sadr ao 0 m s=ao:=by
 unfold sadr
 split
 ·rfl
 ·cases ao with
  |none=>rfl
  |some a=>simp [Addr.add]
section
variable {P : Program} {n : Nat} {l l' : List (Nat × Value)} {E : World} {L L1 Ls : List Heaplet} {o : Oper} {X Y K : Act → World → Prop} {N : Heaplet} {Q : Exit → Act → World → Prop}
variable {d : Nat} {ty t t' e : TypeId} {pos : String} {aft : Array Edge} {g : Option (Nat × Bool)} {v : Value} {x y z : Operand} {k : IntKind} {p q : Int} {size len cap : Nat} {ao : Option Addr} {xs : List Value} {b off j : Nat}
theorem op_slice0 {hi mx:Option Operand} {y' z':Nat} (s:NxF P n l E L Ls ⟨some d,.slice t x none hi mx,ty,pos,aft,g⟩ X Y) (ht:selt P t=some (e,size)) (hx:ev l x=some (.slice ao len cap)) (hhi:Bd l hi len y') (hmx:Bd l mx cap z') (h2:y'≤z') (h3:z'≤cap)
 (hm:mx.isSome=true→hi.isSome=true) (hn:Nat.ble (d+1) n=true) (h:At n ((d,.slice ao y' z')::l) E L Y):At n l E L X:=
 op_slice s ht hx .none hhi hmx (Nat.zero_le _) h2 h3 hm hn (by rw [sadr_zero];exact h)
theorem RSl.isSome {N:Heaplet} {size:Nat} {ao:Option Addr} {n cap:Nat} {xs:List Value} (h:RSl N size ao n cap xs) (h0:0<n):ao.isSome=true:=by
 obtain⟨b,off,rfl,_⟩:=h.2.2.2 h0;rfl
theorem RSl.take {N:Heaplet} {size:Nat} {ao:Option Addr} {n cap:Nat} {xs:List Value} (h:RSl N size ao n cap xs) {hi m:Nat} (h2:hi≤m) (h3:m≤cap) (h4:hi≤n):RSl N size ao hi m (xs.take (hi*size)):=by
 have:=h.part (Nat.zero_le hi) h2 h3 h4
 simpa [sadr_zero]using this
theorem RSl.drop {N:Heaplet} {size:Nat} {ao:Option Addr} {n cap:Nat} {xs:List Value} (h:RSl N size ao n cap xs) {lo:Nat} (h4:lo≤n):RSl N size (sadr ao lo cap size) (n- lo) (cap- lo) (xs.drop (lo*size)):=by
 have:=h.part h4 h.2.1 (Nat.le_refl _) (Nat.le_refl _)
 rwa [List.take_of_length_le (by rw [List.length_drop,h.1,Nat.sub_mul];exact Nat.le_refl _)]at this
theorem u8s_take (l:List UInt8) (k:Nat):(u8s l).take k=u8s (l.take k):=by simp [u8s]
theorem u8s_drop (l:List UInt8) (k:Nat):(u8s l).drop k=u8s (l.drop k):=by simp [u8s]
theorem u64s_takeR (l:List UInt64) (k:Nat):(u64s l).take k=u64s (l.take k):=by simp [u64s]
theorem u64s_drop (l:List UInt64) (k:Nat):(u64s l).drop k=u64s (l.drop k):=by simp [u64s]
theorem u32s_take (l:List UInt32) (k:Nat):(u32s l).take k=u32s (l.take k):=by simp [u32s]
theorem RSl.take8 {N:Heaplet} {ao:Option Addr} {n cap:Nat} {bs:List UInt8} (h:RSl N 1 ao n cap (u8s bs)) {hi m:Nat} (h2:hi≤m) (h3:m≤cap) (h4:hi≤n):RSl N 1 ao hi m (u8s (bs.take hi)):=by
 have:=h.take h2 h3 h4;rwa [Nat.mul_one,u8s_take]at this
theorem RSl.drop8 {N:Heaplet} {ao:Option Addr} {n cap:Nat} {bs:List UInt8} (h:RSl N 1 ao n cap (u8s bs)) {lo:Nat} (h4:lo≤n):RSl N 1 (sadr ao lo cap 1) (n- lo) (cap- lo) (u8s (bs.drop lo)):=by
 have:=h.drop h4;rwa [Nat.mul_one,u8s_drop]at this
theorem RSl.part8 {N:Heaplet} {ao:Option Addr} {n cap:Nat} {bs:List UInt8} (h:RSl N 1 ao n cap (u8s bs)) {lo hi m:Nat} (h1:lo≤hi) (h2:hi≤m) (h3:m≤cap) (h4:hi≤n):RSl N 1 (sadr ao lo m 1) (hi- lo) (m- lo) (u8s ((bs.drop lo).take (hi- lo))):=by
 have:=h.part h1 h2 h3 h4;rwa [Nat.mul_one,Nat.mul_one,u8s_drop,u8s_take]at this
theorem RSl.len8 {N:Heaplet} {ao:Option Addr} {n cap:Nat} {bs:List UInt8} (h:RSl N 1 ao n cap (u8s bs)):bs.length=n:=by simpa using h.len
theorem RSl.len64 {N:Heaplet} {ao:Option Addr} {n cap:Nat} {bs:List UInt64} (h:RSl N 1 ao n cap (u64s bs)):bs.length=n:=by simpa using h.len
theorem RSl.len32 {N:Heaplet} {ao:Option Addr} {n cap:Nat} {bs:List UInt32} (h:RSl N 1 ao n cap (u32s bs)):bs.length=n:=by simpa using h.len
theorem RSl.cap63 {N:Heaplet} {size:Nat} {ao:Option Addr} {n cap:Nat} {xs:List Value} (h:RSl N size ao n cap xs):n≤cap∧cap≤9223372036854775807:=⟨h.2.1,h.2.2.1⟩
end
theorem Fn.of_ret {P:Program} {f:FuncId} {args:Array Value} {Lr:List Heaplet} {R:Value→World→Prop} {Post:Value→List Heaplet→Prop}
 (h: ∀w,(∀N∈Lr,N.le (whole w))→Calls P f args w (Ret w R))
 (hp: ∀w v w',R v w'→Below w.heap.size w w'→ ∃L1,Post v L1∧(∀N∈L1,N.le (whole w')∧ ∀k o,N k=some o→w.heap.size≤k)∧L1.Pairwise Apart):Fn P f args [] Lr Post:=by
 intro E w R hw hr
 refine(h w fun N hN=>Heaplet.le_trans (hr N hN) (hw.sub R (by simp))).mono ?_
 rintro e w' ⟨v,rfl,hR,hb⟩
 obtain⟨L1,h1,h2,h3⟩:=hp w v w' hR hb
 refine⟨v,L1,rfl,h1,hb.os.trans hw.os,hb.tape.trans hw.tape,hb.output.trans hw.output,fun N hN=>?_,?_⟩
 ·rcases List.mem_append.1 hN with hN|hN
  ·exact(h2 N hN).1
  ·simp at hN;subst hN
   intro k o hk
   have hlt:=hw.lt (List.mem_append_right _ (List.mem_singleton.2 rfl)) hk
   exact(hb.block k hlt).trans (hw.sub _ (by simp) k o hk)
 ·rw [List.pairwise_append]
  refine⟨h3,by simp,fun A hA B hB k=>?_⟩
  simp at hB;subst hB
  cases hk:A k with
  |none=>exact .inl rfl
  |some o=>
   right
   cases hm:B k with
   |none=>rfl
   |some o'=>
    have:=hw.lt (List.mem_append_right _ (List.mem_singleton.2 rfl)) hm
    have:=(h2 A hA).2 k o hk
    omega
def isIfc (P:Program) (t:TypeId):Bool:=match P.underlying t with
 |some (.interface _)=>true
 |_=>false
def notIfc (P:Program) (t:TypeId):Bool:=match P.underlying t with
 |some (.interface _)=>false
 |none=>false
 |_=>true
section
variable {P : Program} {n : Nat} {l l' : List (Nat × Value)} {E : World} {L L1 Ls : List Heaplet} {o : Oper} {X Y K : Act → World → Prop} {N : Heaplet} {Q : Exit → Act → World → Prop}
variable {d : Nat} {ty t t' e : TypeId} {pos : String} {aft : Array Edge} {g : Option (Nat × Bool)} {v : Value} {x y z : Operand} {k : IntKind} {p q : Int} {size len cap : Nat} {ao : Option Addr} {xs : List Value} {b off j : Nat}
theorem op_mkI (s:NxF P n l E L Ls ⟨some d,.makeInterface t x,ty,pos,aft,g⟩ X Y) (ht:notIfc P t=true) (hx:ev l x=some v) (hn:Nat.ble (d+1) n=true) (h:At n ((d,.iface t v)::l) E L Y):At n l E L X:=
 op_val s (fun a w hf _=>by
  unfold notIfc at ht
  cases hu:P.underlying t with
  |none=>rw [hu]at ht;cases ht
  |some u=>
   rw [hu]at ht
   simp only [execOp,hf.eval hx,Instr.makeInterface,Sem.run_bind,run_underlying hu,Result.andThen_ok]
   cases u<;>first|rfl|cases ht) rfl hn h
theorem run_assert {asserted:TypeId} (ht:notIfc P asserted=true) (w:World) (ok:Bool):(Instr.typeAssert (.iface t v) ty asserted ok).run P w=if t=asserted then .ok (if ok then .tuple #[v,.bool true]else v) w else (Instr.typeAssert (.iface t v) ty asserted ok).run P w:=by
 split
 ·rename_i e
  subst e
  unfold notIfc at ht
  cases hu:P.underlying t with
  |none=>rw [hu]at ht;cases ht
  |some u=>
   rw [hu]at ht
   simp only [Instr.typeAssert,Sem.run_bind,run_underlying hu,Result.andThen_ok]
   cases u<;>first|(cases ht;done)|(simp;rfl)|simp
 ·rfl
theorem op_assertY {tx:TypeId} (s:NxF P n l E L Ls ⟨some d,.typeAssert x tx t true,ty,pos,aft,g⟩ X Y) (ht:notIfc P t=true) (hx:ev l x=some (.iface t v)) (hn:Nat.ble (d+1) n=true) (h:At n ((d,.tuple #[v,.bool true])::l) E L Y):At n l E L X:=
 op_val s (fun a w hf _=>by simp only [execOp,hf.eval hx,Sem.run_bind];rw [run_assert ht];simp) rfl hn h
theorem op_assert1 {tx:TypeId} (s:NxF P n l E L Ls ⟨some d,.typeAssert x tx t false,ty,pos,aft,g⟩ X Y) (ht:notIfc P t=true) (hx:ev l x=some (.iface t v)) (hn:Nat.ble (d+1) n=true) (h:At n ((d,v)::l) E L Y):At n l E L X:=
 op_val s (fun a w hf _=>by simp only [execOp,hf.eval hx,Sem.run_bind];rw [run_assert ht];simp) rfl hn h
theorem op_assertN {tx:TypeId} {zv:Value} (s:NxF P n l E L Ls ⟨some d,.typeAssert x tx t true,ty,pos,aft,g⟩ X Y) (ht:notIfc P t=true) (hz:zer P t=some zv) (hx:ev l x=some (.iface t' v)) (hne:(t'==t)=false) (hn:Nat.ble (d+1) n=true) (h:At n ((d,.tuple #[zv,.bool false])::l) E L Y):At n l E L X:=
 op_val s (fun a w hf _=>by
  obtain⟨i,hi,hiz⟩:=Option.bind_eq_some_iff.1 hz
  have hzr:(zeroValue t).run P w=.ok zv w:=by simp [zeroValue,typeInfo,hi,hiz]
  have hne': ¬t'=t:=by simpa using hne
  unfold notIfc at ht
  cases hu:P.underlying t with
  |none=>rw [hu]at ht;cases ht
  |some u=>
   rw [hu]at ht
   simp only [execOp,hf.eval hx,Instr.typeAssert,Sem.run_bind,run_underlying hu,Result.andThen_ok]
   cases u<;>first|(cases ht;done)|(simp [hne',hzr])) rfl hn h
theorem run_equal_iface_nil (ht:isIfc P t=true) (w:World):(Op.equal t (.iface t' v) .nilIface).run P w=.ok false w:=by
 unfold isIfc at ht
 cases hu:P.underlying t with
 |none=>rw [hu]at ht;cases ht
 |some u=>
  rw [hu]at ht
  unfold Op.equal
  show(Op.equalIn (9999+1) t _ _).run P w=_
  unfold Op.equalIn
  rw [Sem.run_bind,run_underlying hu]
  cases u<;>first|(cases ht;done)|rfl
theorem run_equal_nil_nil (ht:isIfc P t=true) (w:World):(Op.equal t .nilIface .nilIface).run P w=.ok true w:=by
 unfold isIfc at ht
 cases hu:P.underlying t with
 |none=>rw [hu]at ht;cases ht
 |some u=>
  rw [hu]at ht
  unfold Op.equal
  show(Op.equalIn (9999+1) t _ _).run P w=_
  unfold Op.equalIn
  rw [Sem.run_bind,run_underlying hu]
  cases u<;>first|(cases ht;done)|rfl
theorem op_eqNilF (s:NxF P n l E L Ls ⟨some d,.binOp .eql t x (.const .nilIface) t',ty,pos,aft,g⟩ X Y) (ht:isIfc P t=true) (hx:ev l x=some (.iface e v)) (hn:Nat.ble (d+1) n=true) (h:At n ((d,.bool false)::l) E L Y):At n l E L X:=
 op_bin s hx rfl (fun w=>by simp [eqGuard]) (fun w=>by simp [binOp,run_equal_iface_nil ht]) hn h
theorem op_eqNilT (s:NxF P n l E L Ls ⟨some d,.binOp .eql t x (.const .nilIface) t',ty,pos,aft,g⟩ X Y) (ht:isIfc P t=true) (hx:ev l x=some .nilIface) (hn:Nat.ble (d+1) n=true) (h:At n ((d,.bool true)::l) E L Y):At n l E L X:=
 op_bin s hx rfl (fun w=>by simp [eqGuard]) (fun w=>by simp [binOp,run_equal_nil_nil ht]) hn h
theorem op_nilChk {ad:Addr} (s:NxF P n l E L Ls ⟨some d,.nilCheck x,ty,pos,aft,g⟩ X Y) (hx:ev l x=some (.pointer (some ad))) (hn:Nat.ble (d+1) n=true) (h:At n ((d,.pointer (some ad))::l) E L Y):At n l E L X:=
 op_val s (fun a w hf _=>by simp [execOp,hf.eval hx]) rfl hn h
end
def nilH:Heaplet:=fun _=>none
theorem At.empty {n:Nat} {l:List (Nat×Value)} {E:World} {L:List Heaplet} {K:Act→World→Prop} (h:At n l E (nilH::L) K):At n l E L K:=fun a w hf hw=>h a w hf
 ⟨hw.os,hw.tape,hw.output,fun N hN=>by
  rcases List.mem_cons.1 hN with rfl|hN
  ·intro k o hk;cases hk
  ·exact hw.sub N hN,by rw [List.pairwise_cons];exact⟨fun _ _ _=>.inl rfl,hw.sep⟩⟩
theorem At.mergeN {n:Nat} {l:List (Nat×Value)} {E:World} {L:List Heaplet} {K:Act→World→Prop} {A B:Heaplet} (h: ∀J:Heaplet,A.le J→B.le J→At n l E (J::L) K):At n l E (A::B::L) K:=
 At.merge fun hap=>h _ join2_left (join2_right hap)
theorem setL_append (vs:List Value): ∀(a b c:List Value),b.length=vs.length→setL (a++b++c) a.length vs=a++vs++c:=by
 induction vs with
 |nil=>intro a b c h;simp at h;subst h;simp [setL]
 |cons v t ih=>
  intro a b c h
  cases b with
  |nil=>simp at h
  |cons x b=>
   rw [setL]
   have e:(a++x::b++c).set a.length v=(a++ [v])++b++c:=by simp
   rw [e]
   have:=ih (a++ [v]) b c (by simpa using h)
   rw [List.length_append,List.length_singleton]at this
   rw [this];simp
def flatV (vs:List (Nat×Value)):List Value:=vs.flatMap fun p=>p.2.cells.toList
theorem fillL_all (size m:Nat): ∀(vs:List (Nat×Value)) (k:Nat) (a zs:List Value),vs.map (·.1)=List.range' k vs.length→k+vs.length≤m→(∀p∈vs,p.2.cells.toList.length=size)→a.length=k*size→zs.length=vs.length*size→
 fillL ((List.range m).map fun i=>(i*size,size)) (a++zs) vs=some (a++flatV vs):=by
 intro vs
 induction vs with
 |nil=>intro k a zs _ _ _ _ h;simp at h;subst h;simp [fillL,flatV]
 |cons p t ih=>
  intro k a zs hi hm hs ha hz
  obtain⟨i,v⟩:=p
  simp only [List.map_cons,List.length_cons,List.range'_succ,List.cons.injEq]at hi
  obtain⟨rfl,hi⟩:=hi
  simp only [List.length_cons]at hm hz
  have hv:=hs _ (List.mem_cons_self ..)
  simp only at hv
  have hget:((List.range m).map fun i=>(i*size,size))[i]? =some (i*size,size):=by
   rw [List.getElem?_map,List.getElem?_range (by omega)];rfl
  have hz':size≤zs.length:=by rw [hz,Nat.add_mul];omega
  have hcond:v.cells.toList.length=size∧i*size+v.cells.toList.length≤(a++zs).length:=by
   rw [List.length_append];omega
  have hset:setL (a++zs) (i*size) v.cells.toList=(a++v.cells.toList)++zs.drop size:=by
   have:=setL_append v.cells.toList a (zs.take size) (zs.drop size) (by rw [List.length_take];omega)
   rw [List.append_assoc,List.take_append_drop,ha]at this
   exact this
  have hrec:=ih (i+1) (a++v.cells.toList) (zs.drop size) hi (by omega) (fun q hq=>hs q (List.mem_cons_of_mem _ hq)) (by rw [List.length_append,ha,hv,Nat.add_mul,Nat.one_mul]) (by rw [List.length_drop,hz,Nat.add_mul];omega)
  simp only [fillL,hget,if_pos hcond,hset,hrec]
  simp [flatV]
section
variable {P : Program} {n : Nat} {l l' : List (Nat × Value)} {E : World} {L L1 : List Heaplet} {X Y : Act → World → Prop} {d : Nat} {ty t e : TypeId} {pos : String} {aft : Array Edge} {g : Option (Nat × Bool)} {size : Nat}
theorem length_flatV {vs:List (Nat×Value)} (h: ∀p∈vs,p.2.cells.toList.length=size):(flatV vs).length=vs.length*size:=by
 induction vs with
 |nil=>simp [flatV]
 |cons p t ih=>
  have h1:=h p (List.mem_cons_self ..)
  have h2:=ih fun q hq=>h q (List.mem_cons_of_mem _ hq)
  simp only [flatV,List.flatMap_cons,List.length_append,List.length_cons]at h2⊢
  rw [h1,h2,Nat.add_mul,Nat.one_mul,Nat.add_comm]
theorem op_lit {parts:List (Nat×Operand)} {vs:List (Nat×Value)} {zv:Value} {m:Nat} (s:NxA P n l E L ⟨some d,.buildSlice t m parts.toArray,ty,pos,aft,g⟩ X Y) (ht:P.underlying t=some (.slice e)) (hz:zer P e=some zv) (hsz:siz P e=some size) (hv:Pts l parts vs)
 (hi:vs.map (·.1)=List.range' 0 vs.length) (hm0:vs.length=m) (hs: ∀p∈vs,p.2.cells.toList.length=size) (hm:Nat.ble (m*size) 16777216=true) (hm2:Nat.ble m 16777216=true) (hn:Nat.ble (d+1) n=true)
 (h: ∀N ao,Row N e size ao m m (flatV vs)→At n ((d,.slice ao m m)::l) E (N::L) Y):At n l E L X:=by
 refine op_buildSlice s ht hz hsz hv (out:=flatV vs) ?_ (by rw [length_flatV hs,hm0]) hm hm2 hn h
 have:=fillL_all size m vs 0 [] (madeCells zv.cells (m*size)).toList hi (by omega) hs (by simp) (by rw [Array.length_toList,size_madeCells,hm0])
 simpa using this
end
open Go Go.RowKit Go.ChangeShapes Go.WideShapes Go.Deep
theorem add_off (a:Addr) (n:Nat):(a.add n).off=a.off+n:=by unfold Addr.add;split<;>simp_all
theorem add_block (a:Addr) (n:Nat):(a.add n).block=a.block:=by unfold Addr.add;split<;>rfl
theorem cellOf_whole {w:World} {a:Addr} {v:Value} (h:w.cell? a=some v):a.spot=none∧cellOf (whole w) a.block a.off=some v:=by
 unfold World.cell? at h
 unfold cellOf whole
 split at h
 ·rename_i c t fr e
  split at h
  ·cases h
  ·rename_i hs
   rw [e]
   exact⟨by simpa using hs,h⟩
 ·cases h
theorem rng_whole {w:World} {a:Addr} {base n size:Nat} {C:Nat→List Value} (h: ∀i,i<n→w.cells? base (a.add (i*size)) size=some (C i)):
 Rng (whole w) a.block a.off ((List.range n).flatMap C)∧((List.range n).flatMap C).length=n*size:=by
 induction n with
 |zero=>exact⟨fun i hi=>by simp at hi,by simp⟩
 |succ n ih=>
  obtain⟨h1,h2⟩:=ih fun i hi=>h i (by omega)
  obtain⟨_,hl,hc⟩:=World.cells?_some (h n (by omega))
  have e:(List.range (n+1)).flatMap C=(List.range n).flatMap C++C n:=by simp [List.range_succ]
  rw [e]
  refine⟨fun i hi=>?_,by rw [List.length_append,h2,hl,Nat.succ_mul]⟩
  by_cases hlt:i<((List.range n).flatMap C).length
  ·rw [List.getElem_append_left hlt];exact h1 i hlt
  ·rw [List.length_append]at hi
   rw [List.getElem_append_right (by omega)]
   have hk:=hc (i- n*size) (by omega)
   rw [List.getElem?_eq_getElem (by omega)]at hk
   have h3:=(cellOf_whole hk).2
   have e2:((a.add (n*size)).add (i- n*size)).off=a.off+i:=by rw [add_off,add_off];omega
   rw [e2,add_block,add_block]at h3
   have e3:i- ((List.range n).flatMap C).length=i- n*size:=by rw [h2]
   simp only [e3]
   exact h3
section
variable {H : Type} {enc : TypeId × Value → H} {P : Program} {w : World} {spare : Nat → Bool} {held : Bool}
theorem open_rsl {t e:TypeId} {fuel:Nat} {cs:List Value} {x:DataW H×List MemPlace} (ht:P.underlying t=some (.slice e)) (hpos:0<P.cellsOf e) (h:DataW.trod enc P w 0 spare held fuel t cs=some x):
 ∃ao n cap C m,cs= [.slice ao n cap]∧RSl (whole w) (P.cellsOf e) ao n cap ((List.range n).flatMap C)∧(n=0∨fuel=m+1)∧
  ∀i,i<n→(C i).length=P.cellsOf e∧ ∃y,DataW.trod enc P w 0 spare held m e (C i)=some y:=by
 rcases DataW.trod_slice ht h with ⟨rfl,_⟩|⟨a,len,cap,elems,rest,n,hf,rfl,rfl,hb,hl,hm,hlen,hel,hsp,hns⟩
 ·exact⟨none,0,0,fun _=> [],0,rfl,⟨by simp,by omega,by simp [maxLen],fun h=>by omega⟩,Or.inl rfl,fun i hi=>by omega⟩
 ·obtain⟨C,hC⟩:=choose_lt (α:=List Value) (p:=fun i c=>w.cells? 0 (a.add (i*P.cellsOf e)) (P.cellsOf e)=some c∧ ∃y,DataW.trod enc P w 0 spare held n e c=some y) (n:=len) (fun i hi=>by
   have:=hel i hi
   rw [List.getElem?_eq_getElem (by omega)]at this
   obtain⟨c,h1,h2⟩:=Option.bind_eq_some_iff.1 this
   exact⟨c,h1,_,h2⟩)
  obtain⟨h1,h2⟩:=rng_whole (fun i hi=>(hC i hi).1)
  refine⟨some a,len,cap,C,n,rfl,⟨h2,hl,hm,fun h0=>?_⟩,Or.inr hf,fun i hi=>⟨(World.cells?_some (hC i hi).1).2.1,(hC i hi).2⟩⟩
  obtain⟨_,hl0,hc0⟩:=World.cells?_some (hC 0 h0).1
  have hk:=hc0 0 hpos
  rw [List.getElem?_eq_getElem (by omega)]at hk
  have hs:=(cellOf_whole hk).1
  have hs':a.spot=none:=by simpa [Addr.add]using hs
  refine⟨a.block,a.off,?_,h1⟩
  cases a;simp at hs';subst hs';rfl
def u8of:Value→UInt8
 |.int _ q=>UInt8.ofNat q.toNat
 |_=>0
theorem open_u8 {t e:TypeId} {fuel:Nat} {cs:List Value} {x:DataW H×List MemPlace} (ht:P.underlying t=some (.slice e)) (he:P.underlying e=some (.int .u8)) (hc:P.cellsOf e=1) (h:DataW.trod enc P w 0 spare held fuel t cs=some x):
 ∃ao n cap bs,cs= [.slice ao n cap]∧RSl (whole w) 1 ao n cap (u8s bs):=by
 obtain⟨ao,n,cap,C,m,rfl,hr,_,hC⟩:=open_rsl ht (by omega) h
 refine⟨ao,n,cap,((List.range n).flatMap C).map u8of,rfl,?_⟩
 have e:u8s (((List.range n).flatMap C).map u8of)=(List.range n).flatMap C:=by
  unfold u8s
  rw [List.map_map]
  refine(List.map_congr_left (g:=id) fun v hv=>?_).trans (List.map_id _)
  obtain⟨i,hi,hv⟩:=List.mem_flatMap.1 hv
  obtain⟨hl,y,hy⟩:=hC i (List.mem_range.1 hi)
  obtain⟨q,hq,_,hw⟩:=DataW.trod_int he hy
  rw [hq]at hv
  obtain rfl:=List.mem_singleton.1 hv
  have hb:0≤q∧q≤255:=by simpa [Lit.wf,IntKind.min,IntKind.max,IntKind.signed,IntKind.bits]using hw
  simp only [Function.comp,u8of,vb,id]
  have h8:(UInt8.ofNat q.toNat).toNat=q.toNat:=by rw [UInt8.toNat_ofNat'];omega
  rw [h8]
  congr 1
  omega
 rw [e, ←hc]
 exact hr
theorem stays_all {W W':World} {sp:Nat→Bool} (hl:laidOutB P=true): ∀ {ts:List TypeId} {vs:List Value} {ds:List (DataW H)} {ps:List MemPlace},(∀t∈ts,P.readableRec t=true∧t<P.types.size)→
 DataW.TrodAll enc P W 0 (fun _=>true) true ts vs ds ps→(∀p∈ps,W.sameAt W' p)→(∀p∈ps,sp p.block=true)→DataW.TrodAll enc P W' 0 sp true ts vs ds ps
 | [],[],[],_,_,h,_,_=>h
 |t::_,_::_,_::_,_,hr,⟨p,q,h1,h2,e⟩,hs,hb=>⟨p,q,
  Go.WideElems.Trod_stays hl (hr t (by simp)).1 (hr t (by simp)).2 h1 (fun x hx=>hs x (by rw [e];simp [hx])) (fun x hx=>hb x (by rw [e];simp [hx])),
  stays_all hl (fun t ht=>hr t (by simp [ht])) h2 (fun x hx=>hs x (by rw [e];simp [hx])) (fun x hx=>hb x (by rw [e];simp [hx])),e⟩
theorem sameAt_below {W W':World} (h:Below W.heap.size W W') {p:MemPlace} (hp:p.block<W.heap.size):W.sameAt W' p:=by
 cases p with
 |cell b off=>
  show W'.cell? ⟨b,off,none⟩=W.cell? ⟨b,off,none⟩
  have e:W'.heap[b]? =W.heap[b]? :=h.block b hp
  unfold World.cell?
  simp only [e]
 |map b=>exact h.block b hp
theorem law_post {f:Func} {s:ChangeSpec} {W W':World} {args:Array Value} {v:Value} {r:DataW H} {ds gs:List (DataW H)} {before:List MemPlace} {tr:TypeId}
 (hW:DataW.Whole enc P f.params.toList s.vars false W args.toList ds gs before) (hv:s.vars= [])
 (hs:s.fn H (ds++gs)= { results:= [r],args:=ds }) (hone':v.resultList 1= [v]) (hres:f.resultTypes= #[tr])
 (hr: ∀(b:Nat) (sp:Nat→Bool) (hd:Bool),DataW.Trod enc P W' b sp hd tr v r []) (hok:Value.okWide P W' .any 0 tr v)
 (hl:laidOutB P=true) (ht: ∀t∈f.params.toList,P.readableRec t=true∧t<P.types.size) (hb:Below W.heap.size W W'):
 s.post enc P f false true false false W args v W':=by
 have hlt: ∀p∈before,p.block<W.heap.size:=fun p hp=>hW.lt p hp
 have hW':=hW
 obtain⟨p,q,hA,hV,rfl,hfz,hnd⟩:=hW
 rw [hv]at hV
 obtain⟨rfl,rfl⟩:=trodVars_none hV
 simp only [List.append_nil]at hs hlt hW' hfz
 have again: ∀sp:Nat→Bool,(∀x∈p,sp x.block=true)→DataW.TrodAll enc P W' 0 sp true f.params.toList args.toList ds p:=fun sp hsp=>
  stays_all hl ht hA (fun x hx=>sameAt_below hb (hlt x hx)) hsp
 have hrl:v.resultList f.resultTypes.size= [v]:=by rw [hres];exact hone'
 have hone: ∀(b:Nat) (sp:Nat→Bool) (hd:Bool),DataW.TrodAll enc P W' b sp hd f.resultTypes.toList (v.resultList f.resultTypes.size) [r] []:=fun b sp hd=>by
  rw [hrl,hres];exact⟨[],[],hr b sp hd,rfl,rfl⟩
 have hold: ∀x∈p,(fun b=>decide (b<W.heap.size)) x.block=true:=fun x hx=>by simpa using hlt x hx
 have hvs: ∀sp:Nat→Bool,DataW.TrodVars enc P W' sp s.vars [] []:=fun sp=>by rw [hv];rfl
 refine⟨ds,[],p,[],p,[],by simpa using hW',by simp only [List.append_nil];rw [hs];exact hone _ _ _,by simp only [List.append_nil];rw [hs];exact again _ hold,by simp only [List.append_nil];rw [hs];exact hvs _,
  World.keptBut_mono (fun x hx=>⟨hx,Or.inr (Or.inl hx)⟩) (hb.frame (· ∈p)),fun _=>?_⟩
 refine⟨?_,_,_,([]++p)++ [],⟨[]++p,[],trodAll_append (again _ (fun _ _=>rfl)) (hone _ _ _),hvs _,rfl,?_,?_⟩,?_⟩
 ·intro j t r hj hr
  rw [hrl]at hr
  rw [hres]at hj
  cases j with
  |zero=>simp at hj hr;subst hj;subst hr;exact hok
  |succ j=>simp at hr
 ·intro b off hp
  have hin:MemPlace.cell b off∈p:=by simpa using hp
  rw [hb.frozen (hlt _ hin)]
  exact hfz b off hin
 ·intro ha
  cases ha
 ·intro x hx _
  simpa using hx
end
theorem sc3:scal Tryz.prog 3=true:=by kernel_rfl
theorem sc4:scal Tryz.prog 4=true:=by kernel_rfl
theorem sc5:scal Tryz.prog 5=true:=by kernel_rfl
theorem sz5:siz Tryz.prog 5=some 1:=by kernel_rfl
theorem ze5:zer Tryz.prog 5=some (.int .u8 0):=by kernel_rfl
theorem sc22:scal Tryz.prog 22=true:=by kernel_rfl
theorem sz22:siz Tryz.prog 22=some 1:=by kernel_rfl
theorem se22:selt Tryz.prog 22=some (5,1):=by kernel_rfl
theorem sc24:scal Tryz.prog 24=true:=by kernel_rfl
theorem sz24:siz Tryz.prog 24=some 1:=by kernel_rfl
theorem ze24:zer Tryz.prog 24=some (.int .u64 0):=by kernel_rfl
theorem ag26:aggOf Tryz.prog 26=some 4:=by kernel_rfl
theorem sz26:siz Tryz.prog 26=some 4:=by kernel_rfl
theorem ze26:zer Tryz.prog 26=some (.agg #[.int .u64 0,.int .u64 0,.int .u64 0,.int .u64 0]):=by kernel_rfl
theorem ae26:aelt Tryz.prog 26=some (4,24,1):=by kernel_rfl
theorem ag28:aggOf Tryz.prog 28=some 20:=by kernel_rfl
theorem sz28:siz Tryz.prog 28=some 20:=by kernel_rfl
theorem ze28:zer Tryz.prog 28=some (.agg #[.int .u8 0,.int .u8 0,.int .u8 0,.int .u8 0,.int .u8 0,.int .u8 0,.int .u8 0,.int .u8 0,.int .u8 0,.int .u8 0,.int .u8 0,.int .u8 0,.int .u8 0,.int .u8 0,.int .u8 0,.int .u8 0,.int .u8 0,.int .u8 0,.int .u8 0,.int .u8 0]):=by kernel_rfl
theorem ae28:aelt Tryz.prog 28=some (20,5,1):=by kernel_rfl
theorem sc30:scal Tryz.prog 30=true:=by kernel_rfl
theorem se30:selt Tryz.prog 30=some (40,32):=by kernel_rfl
def z31:List Value:= [.int .i64 0]++(List.replicate 11 (.int .u64 0)++([.bool false]++(List.replicate 20 (.int .u8 0)++(List.replicate 4 (.int .u64 0)++([.slice none 0 0,.slice none 0 0]++(List.replicate 4 (.int .u64 0)++([.slice none 0 0]++([.bool false]++(List.replicate 8 (.int .u64 0))))))))))
def z32:List Value:= [.int .i64 0]++(List.replicate 11 (.int .u64 0)++([.bool false]++(List.replicate 20 (.int .u8 0)++(List.replicate 4 (.int .u64 0)++([.slice none 0 0,.slice none 0 0]++(List.replicate 4 (.int .u64 0)++([.slice none 0 0]++([.bool false]++(List.replicate 8 (.int .u64 0))))))))))
theorem ag39:aggOf Tryz.prog 39=some 32:=by kernel_rfl
theorem sz39:siz Tryz.prog 39=some 32:=by kernel_rfl
theorem ze39:zer Tryz.prog 39=some (.agg #[.int .u8 0,.int .u8 0,.int .u8 0,.int .u8 0,.int .u8 0,.int .u8 0,.int .u8 0,.int .u8 0,.int .u8 0,.int .u8 0,.int .u8 0,.int .u8 0,.int .u8 0,.int .u8 0,.int .u8 0,.int .u8 0,.int .u8 0,.int .u8 0,.int .u8 0,.int .u8 0,.int .u8 0,.int .u8 0,.int .u8 0,.int .u8 0,.int .u8 0,.int .u8 0,.int .u8 0,.int .u8 0,.int .u8 0,.int .u8 0,.int .u8 0,.int .u8 0]):=by kernel_rfl
theorem ae39:aelt Tryz.prog 39=some (32,5,1):=by kernel_rfl
theorem ag40:aggOf Tryz.prog 40=some 32:=by kernel_rfl
theorem sz40:siz Tryz.prog 40=some 32:=by kernel_rfl
theorem ze40:zer Tryz.prog 40=some (.agg #[.int .u8 0,.int .u8 0,.int .u8 0,.int .u8 0,.int .u8 0,.int .u8 0,.int .u8 0,.int .u8 0,.int .u8 0,.int .u8 0,.int .u8 0,.int .u8 0,.int .u8 0,.int .u8 0,.int .u8 0,.int .u8 0,.int .u8 0,.int .u8 0,.int .u8 0,.int .u8 0,.int .u8 0,.int .u8 0,.int .u8 0,.int .u8 0,.int .u8 0,.int .u8 0,.int .u8 0,.int .u8 0,.int .u8 0,.int .u8 0,.int .u8 0,.int .u8 0]):=by kernel_rfl
theorem ae40:aelt Tryz.prog 40=some (32,5,1):=by kernel_rfl
def z41:List Value:=List.replicate 256 (.int .u8 0)
theorem ae41:aelt Tryz.prog 41=some (256,5,1):=by kernel_rfl
theorem ae42:aelt Tryz.prog 42=some (8,5,1):=by kernel_rfl
def z43:List Value:= [.int .i64 0]++(List.replicate 436 (.int .u8 0)++(List.replicate 8 (.int .u64 0)++([.slice none 0 0]++(List.replicate 40 (.int .u8 0)++(List.replicate 4 (.int .u64 0)++(List.replicate 32 (.int .u8 0)++([.int .u64 0,.int .u64 0]++(List.replicate 32 (.int .u8 0)))))))))
theorem ag44:aggOf Tryz.prog 44=some 556:=by kernel_rfl
theorem sz44:siz Tryz.prog 44=some 556:=by kernel_rfl
def z44:List Value:= [.int .i64 0]++(List.replicate 436 (.int .u8 0)++(List.replicate 8 (.int .u64 0)++([.slice none 0 0]++(List.replicate 40 (.int .u8 0)++(List.replicate 4 (.int .u64 0)++(List.replicate 32 (.int .u8 0)++([.int .u64 0,.int .u64 0]++(List.replicate 32 (.int .u8 0)))))))))
theorem z44_len:z44.length=556:=by decide+kernel
theorem ze44:zer Tryz.prog 44=some (.agg z44.toArray):=by kernel_rfl
theorem fl44_0:fld Tryz.prog 44 0=some 0:=by kernel_rfl
theorem fl44_1:fld Tryz.prog 44 1=some 1:=by kernel_rfl
theorem fl44_2:fld Tryz.prog 44 2=some 33:=by kernel_rfl
theorem fl44_3:fld Tryz.prog 44 3=some 65:=by kernel_rfl
theorem fl44_4:fld Tryz.prog 44 4=some 85:=by kernel_rfl
theorem fl44_5:fld Tryz.prog 44 5=some 117:=by kernel_rfl
theorem fl44_6:fld Tryz.prog 44 6=some 149:=by kernel_rfl
theorem fl44_7:fld Tryz.prog 44 7=some 181:=by kernel_rfl
theorem fl44_8:fld Tryz.prog 44 8=some 437:=by kernel_rfl
theorem fl44_9:fld Tryz.prog 44 9=some 441:=by kernel_rfl
theorem fl44_10:fld Tryz.prog 44 10=some 442:=by kernel_rfl
theorem fl44_11:fld Tryz.prog 44 11=some 443:=by kernel_rfl
theorem fl44_12:fld Tryz.prog 44 12=some 444:=by kernel_rfl
theorem fl44_13:fld Tryz.prog 44 13=some 445:=by kernel_rfl
theorem fl44_14:fld Tryz.prog 44 14=some 446:=by kernel_rfl
theorem fl44_15:fld Tryz.prog 44 15=some 478:=by kernel_rfl
theorem fl44_16:fld Tryz.prog 44 16=some 486:=by kernel_rfl
theorem fl44_17:fld Tryz.prog 44 17=some 490:=by kernel_rfl
theorem fl44_18:fld Tryz.prog 44 18=some 522:=by kernel_rfl
theorem fl44_19:fld Tryz.prog 44 19=some 523:=by kernel_rfl
theorem fl44_20:fld Tryz.prog 44 20=some 524:=by kernel_rfl
theorem pl44:places Tryz.prog 44=some [(0,1),(1,32),(33,32),(65,20),(85,32),(117,32),(149,32),(181,256),(437,4),(441,1),(442,1),(443,1),(444,1),(445,1),(446,32),(478,8),(486,4),(490,32),(522,1),(523,1),(524,32)]:=by kernel_rfl
theorem sc51:scal Tryz.prog 51=true:=by kernel_rfl
theorem se51:selt Tryz.prog 51=some (44,556):=by kernel_rfl
def z53:List Value:= [.int .i64 0]++(List.replicate 436 (.int .u8 0)++(List.replicate 8 (.int .u64 0)++([.slice none 0 0]++(List.replicate 40 (.int .u8 0)++(List.replicate 4 (.int .u64 0)++(List.replicate 32 (.int .u8 0)++([.int .u64 0,.int .u64 0]++(List.replicate 32 (.int .u8 0)++([.slice none 0 0,.slice none 0 0]++([.bool false]++([.slice none 0 0])))))))))))
def z54:List Value:= [.int .i64 0]++(List.replicate 436 (.int .u8 0)++(List.replicate 8 (.int .u64 0)++([.slice none 0 0]++(List.replicate 40 (.int .u8 0)++(List.replicate 4 (.int .u64 0)++(List.replicate 32 (.int .u8 0)++([.int .u64 0,.int .u64 0]++(List.replicate 32 (.int .u8 0)++([.slice none 0 0,.slice none 0 0]++([.bool false]++([.slice none 0 0])))))))))))
theorem ag71:aggOf Tryz.prog 71=some 14:=by kernel_rfl
theorem ae71:aelt Tryz.prog 71=some (14,24,1):=by kernel_rfl
theorem ag72:aggOf Tryz.prog 72=some 2:=by kernel_rfl
theorem ae72:aelt Tryz.prog 72=some (2,24,1):=by kernel_rfl
theorem sc73:scal Tryz.prog 73=true:=by kernel_rfl
theorem sz73:siz Tryz.prog 73=some 1:=by kernel_rfl
theorem se73:selt Tryz.prog 73=some (28,20):=by kernel_rfl
theorem ag75:aggOf Tryz.prog 75=some 39:=by kernel_rfl
theorem sz75:siz Tryz.prog 75=some 39:=by kernel_rfl
theorem ze75:zer Tryz.prog 75=some (.agg #[.int .u64 0,.int .u64 0,.int .u64 0,.int .u64 0,.int .u64 0,.int .u64 0,.int .u64 0,.int .u64 0,.int .u64 0,.int .u64 0,.int .u64 0,.int .u64 0,.int .u64 0,.int .u64 0,.int .u64 0,.int .u64 0,.int .u64 0,.int .u64 0,.slice none 0 0,.int .u8 0,.int .u8 0,.int .u8 0,.int .u8 0,.int .u8 0,.int .u8 0,.int .u8 0,.int .u8 0,.int .u8 0,.int .u8 0,.int .u8 0,.int .u8 0,.int .u8 0,.int .u8 0,.int .u8 0,.int .u8 0,.int .u8 0,.int .u8 0,.int .u8 0,.int .u8 0]):=by kernel_rfl
theorem fl75_1:fld Tryz.prog 75 1=some 1:=by kernel_rfl
theorem fl75_2:fld Tryz.prog 75 2=some 15:=by kernel_rfl
theorem fl75_4:fld Tryz.prog 75 4=some 18:=by kernel_rfl
def z76:List Value:=List.replicate 18 (.int .u64 0)++([.slice none 0 0]++(List.replicate 20 (.int .u8 0)++([.int .i64 0]++(List.replicate 436 (.int .u8 0)++(List.replicate 8 (.int .u64 0)++([.slice none 0 0]++(List.replicate 40 (.int .u8 0)++(List.replicate 4 (.int .u64 0)++(List.replicate 32 (.int .u8 0)++([.int .u64 0,.int .u64 0]++(List.replicate 32 (.int .u8 0)++([.slice none 0 0,.slice none 0 0]))))))))))))
def z77:List Value:=List.replicate 18 (.int .u64 0)++([.slice none 0 0]++(List.replicate 20 (.int .u8 0)++([.int .i64 0]++(List.replicate 436 (.int .u8 0)++(List.replicate 8 (.int .u64 0)++([.slice none 0 0]++(List.replicate 40 (.int .u8 0)++(List.replicate 4 (.int .u64 0)++(List.replicate 32 (.int .u8 0)++([.int .u64 0,.int .u64 0]++(List.replicate 32 (.int .u8 0)++([.slice none 0 0,.slice none 0 0]))))))))))))
theorem fl77_0:fld Tryz.prog 77 0=some 0:=by kernel_rfl
theorem fl77_1:fld Tryz.prog 77 1=some 39:=by kernel_rfl
theorem fl77_2:fld Tryz.prog 77 2=some 595:=by kernel_rfl
theorem fl77_3:fld Tryz.prog 77 3=some 596:=by kernel_rfl
theorem sc89:scal Tryz.prog 89=true:=by kernel_rfl
theorem sz89:siz Tryz.prog 89=some 1:=by kernel_rfl
theorem se89:selt Tryz.prog 89=some (91,3):=by kernel_rfl
theorem ag91:aggOf Tryz.prog 91=some 3:=by kernel_rfl
theorem sz91:siz Tryz.prog 91=some 3:=by kernel_rfl
theorem ze91:zer Tryz.prog 91=some (.agg #[.bool false,.slice none 0 0,.slice none 0 0]):=by kernel_rfl
theorem fl91_0:fld Tryz.prog 91 0=some 0:=by kernel_rfl
theorem fl91_1:fld Tryz.prog 91 1=some 1:=by kernel_rfl
theorem fl91_2:fld Tryz.prog 91 2=some 2:=by kernel_rfl
theorem pl91:places Tryz.prog 91=some [(0,1),(1,1),(2,1)]:=by kernel_rfl
theorem se168:selt Tryz.prog 168=some (172,1):=by kernel_rfl
theorem sc172:scal Tryz.prog 172=true:=by kernel_rfl
theorem sz172:siz Tryz.prog 172=some 1:=by kernel_rfl
theorem ze172:zer Tryz.prog 172=some (.int .u32 0):=by kernel_rfl
theorem ag186:aggOf Tryz.prog 186=some 25:=by kernel_rfl
theorem sz186:siz Tryz.prog 186=some 25:=by kernel_rfl
theorem ze186:zer Tryz.prog 186=some (.agg #[.int .u64 0,.int .u64 0,.int .u64 0,.int .u64 0,.int .u64 0,.int .u64 0,.int .u64 0,.int .u64 0,.int .u64 0,.int .u64 0,.int .u64 0,.int .u64 0,.int .u64 0,.int .u64 0,.int .u64 0,.int .u64 0,.int .u64 0,.int .u64 0,.int .u64 0,.int .u64 0,.int .u64 0,.int .u64 0,.int .u64 0,.int .u64 0,.int .u64 0]):=by kernel_rfl
theorem ae186:aelt Tryz.prog 186=some (25,24,1):=by kernel_rfl
theorem ag187:aggOf Tryz.prog 187=some 25:=by kernel_rfl
theorem sz187:siz Tryz.prog 187=some 25:=by kernel_rfl
theorem ze187:zer Tryz.prog 187=some (.agg #[.int .u64 0,.int .u64 0,.int .u64 0,.int .u64 0,.int .u64 0,.int .u64 0,.int .u64 0,.int .u64 0,.int .u64 0,.int .u64 0,.int .u64 0,.int .u64 0,.int .u64 0,.int .u64 0,.int .u64 0,.int .u64 0,.int .u64 0,.int .u64 0,.int .u64 0,.int .u64 0,.int .u64 0,.int .u64 0,.int .u64 0,.int .u64 0,.int .u64 0]):=by kernel_rfl
theorem ae187:aelt Tryz.prog 187=some (25,24,1):=by kernel_rfl
theorem ze189:zer Tryz.prog 189=some (.agg #[.int .u64 0,.int .u64 0,.int .u64 0,.int .u64 0,.int .u64 0,.int .u64 0,.int .u64 0,.int .u64 0,.int .u64 0,.int .u64 0,.int .u64 0,.int .u64 0,.int .u64 0,.int .u64 0,.int .u64 0,.int .u64 0,.int .u64 0,.int .u64 0,.int .u64 0,.int .u64 0,.int .u64 0,.int .u64 0,.int .u64 0,.int .u64 0,.int .u64 0,.slice none 0 0]):=by kernel_rfl
theorem fl189_0:fld Tryz.prog 189 0=some 0:=by kernel_rfl
theorem fl189_1:fld Tryz.prog 189 1=some 25:=by kernel_rfl
theorem pl189:places Tryz.prog 189=some [(0,25),(25,1)]:=by kernel_rfl
theorem sz196:siz Tryz.prog 196=some 26:=by kernel_rfl
theorem ze196:zer Tryz.prog 196=some (.agg #[.int .i64 0,.int .u64 0,.int .u64 0,.int .u64 0,.int .u64 0,.int .u64 0,.int .u64 0,.int .u64 0,.int .i64 0,.int .i64 0,.int .u64 0,.int .u64 0,.int .u64 0,.int .u64 0,.int .u64 0,.int .u64 0,.int .u64 0,.int .u64 0,.int .u64 0,.int .u64 0,.int .u64 0,.int .u64 0,.int .u64 0,.int .u64 0,.int .u64 0,.int .u64 0]):=by kernel_rfl
theorem fl196_25:fld Tryz.prog 196 25=some 25:=by kernel_rfl
theorem se200:selt Tryz.prog 200=some (24,1):=by kernel_rfl
theorem ze211:zer Tryz.prog 211=some (.slice none 0 0):=by kernel_rfl
theorem ze226:zer Tryz.prog 226=some (.agg #[]):=by kernel_rfl
theorem pl226:places Tryz.prog 226=some []:=by kernel_rfl
def z229:List Value:=List.replicate 136 (.int .u8 0)
theorem ae229:aelt Tryz.prog 229=some (136,5,1):=by kernel_rfl
theorem ag230:aggOf Tryz.prog 230=some 5:=by kernel_rfl
theorem sz230:siz Tryz.prog 230=some 5:=by kernel_rfl
theorem ze230:zer Tryz.prog 230=some (.agg #[.int .u64 0,.int .u64 0,.int .u64 0,.int .u64 0,.int .u64 0]):=by kernel_rfl
theorem ae230:aelt Tryz.prog 230=some (5,24,1):=by kernel_rfl
theorem ag249:aggOf Tryz.prog 249=some 24:=by kernel_rfl
theorem sz249:siz Tryz.prog 249=some 24:=by kernel_rfl
theorem ze249:zer Tryz.prog 249=some (.agg #[.int .u64 0,.int .u64 0,.int .u64 0,.int .u64 0,.int .u64 0,.int .u64 0,.int .u64 0,.int .u64 0,.int .u64 0,.int .u64 0,.int .u64 0,.int .u64 0,.int .u64 0,.int .u64 0,.int .u64 0,.int .u64 0,.int .u64 0,.int .u64 0,.int .u64 0,.int .u64 0,.int .u64 0,.int .u64 0,.int .u64 0,.int .u64 0]):=by kernel_rfl
theorem ae249:aelt Tryz.prog 249=some (24,24,1):=by kernel_rfl
theorem te5:ElemInfo Tryz.prog 5 (.int .u8 0) 1 1:=elem_of (by kernel_rfl) rfl (by decide)
theorem te24:ElemInfo Tryz.prog 24 (.int .u64 0) 1 8:=elem_of (by kernel_rfl) rfl (by decide)
theorem te28:ElemInfo Tryz.prog 28 (.agg #[.int .u8 0,.int .u8 0,.int .u8 0,.int .u8 0,.int .u8 0,.int .u8 0,.int .u8 0,.int .u8 0,.int .u8 0,.int .u8 0,.int .u8 0,.int .u8 0,.int .u8 0,.int .u8 0,.int .u8 0,.int .u8 0,.int .u8 0,.int .u8 0,.int .u8 0,.int .u8 0]) 20 20:=elem_of (by kernel_rfl) rfl (by decide)
theorem te40:ElemInfo Tryz.prog 40 (.agg #[.int .u8 0,.int .u8 0,.int .u8 0,.int .u8 0,.int .u8 0,.int .u8 0,.int .u8 0,.int .u8 0,.int .u8 0,.int .u8 0,.int .u8 0,.int .u8 0,.int .u8 0,.int .u8 0,.int .u8 0,.int .u8 0,.int .u8 0,.int .u8 0,.int .u8 0,.int .u8 0,.int .u8 0,.int .u8 0,.int .u8 0,.int .u8 0,.int .u8 0,.int .u8 0,.int .u8 0,.int .u8 0,.int .u8 0,.int .u8 0,.int .u8 0,.int .u8 0]) 32 32:=elem_of (by kernel_rfl) rfl (by decide)
set_option maxRecDepth 100000 in
theorem te44:ElemInfo Tryz.prog 44 (.agg z44.toArray) 556 688:=elem_of (by kernel_rfl) (by show z44.length=556;exact z44_len) (by decide)
theorem te91:ElemInfo Tryz.prog 91 (.agg #[.bool false,.slice none 0 0,.slice none 0 0]) 3 56:=elem_of (by kernel_rfl) rfl (by decide)
theorem te172:ElemInfo Tryz.prog 172 (.int .u32 0) 1 4:=elem_of (by kernel_rfl) rfl (by decide)
section
variable {H : Type} {enc : TypeId × Value → H} {w : World} {spare : Nat → Bool} {held : Bool}
end
section
variable {P : Program} {n : Nat} {l : List (Nat × Value)} {E : World} {L : List Heaplet} {Q : Exit → Act → World → Prop} {ops : Array Oper} {rest : List Oper} {o : Oper}
theorem unwanted_of {j:Nat} {b:Bool} {oj:Oper} {d:Nat} {ds:List Deferred} {a:Act} (hf:Fr ds n l a) (hg:o.guard=some (j,b)) (hj:ops[j]? =some oj) (hd:oj.dst=some d) (hv:lk l d=some undef):Region.wanted o (yielded ops a.tmps)=false:=by
 have:=hf.get d _ hv
 simp [Region.wanted,hg,yielded,hj,hd,this,undef]
theorem op_sskipU {i:Nat} {is:List Nat} {sink:Nat→Bool} {S:World→Prop} {j:Nat} {b:Bool} {oj:Oper} {d e:Nat} (ho:ops[i]? =some o) (hg:o.guard=some (j,b)) (hj:ops[j]? =some oj) (hd:oj.dst=some d) (hv:lk l d=some undef) (he:o.dst=some e) (hn:Nat.ble (e+1) n=true)
 (h:At n ((e,undef)::l) E L (St.wpOne P ops S sink Q is)):At n l E L (St.wpOne P ops S sink Q (i::is)):=fun a w hf hw=>
 St.wpOne_skip ho (unwanted_of hf hg hj hd hv) (by rw [he];exact h _ _ (hf.put (Nat.le_of_ble_eq_true hn)) hw)
end
end Go.Proofs.YtjfagifjajielaaGreat
