/- Several texts in one: see the remarks ahead of each part. No condition but those told there. -/
import Derived.Test.YtdpjbefeabokgaaGreatU3
import Derived.Laws.CopyRow
import Derived.Laws.IdiomCopy
import Derived.Laws.Externs
import Derived.Recover
set_option linter.unusedSimpArgs false
set_option linter.unusedVariables false
/- The engine, part 7: what the walker's text leans on. For whatever program. No condition. -/
namespace Go.Proofs.YtdpjbefeabokgaaGreat
open Go Go.RowKit
theorem aL {A:Heaplet} {L:List Heaplet} :A∈A::L:=List.Mem.head _
theorem aZ {A B:Heaplet} {L:List Heaplet} :A∈B::A::L:=List.Mem.tail _ aL
theorem bB {A B C:Heaplet} {L:List Heaplet} :A∈B::C::A::L:=List.Mem.tail _ aZ
theorem bF {A B C D:Heaplet} {L:List Heaplet} :A∈B::C::D::A::L:=List.Mem.tail _ bB
theorem bG {A B C D F:Heaplet} {L:List Heaplet} :A∈B::C::D::F::A::L:=List.Mem.tail _ bF
theorem bH {A B C D F G:Heaplet} {L:List Heaplet} :A∈B::C::D::F::G::A::L:=List.Mem.tail _ bG
theorem bL {A B C D F G H:Heaplet} {L:List Heaplet} :A∈B::C::D::F::G::H::A::L:=List.Mem.tail _ bH
theorem bK {A B C D F G H I:Heaplet} {L:List Heaplet} :A∈B::C::D::F::G::H::I::A::L:=List.Mem.tail _ bL
theorem bJ {A B C D F G H I J:Heaplet} {L:List Heaplet} :A∈B::C::D::F::G::H::I::J::A::L:=List.Mem.tail _ bK
theorem sel5 {A B C D F G:Heaplet} {L:List Heaplet} :(B::C::D::F::G::A::L).Perm (A::B::C::D::F::G::L):=(List.Perm.cons _ sel4).trans (.swap _ _ _)
theorem bV {A B C D F G H:Heaplet} {L:List Heaplet} :(B::C::D::F::G::H::A::L).Perm (A::B::C::D::F::G::H::L):=(List.Perm.cons _ sel5).trans (.swap _ _ _)
theorem sel7 {A B C D F G H I:Heaplet} {L:List Heaplet} :(B::C::D::F::G::H::I::A::L).Perm (A::B::C::D::F::G::H::I::L):=(List.Perm.cons _ bV).trans (.swap _ _ _)
theorem sel8 {A B C D F G H I J:Heaplet} {L:List Heaplet} :(B::C::D::F::G::H::I::J::A::L).Perm (A::B::C::D::F::G::H::I::J::L):=(List.Perm.cons _ sel7).trans (.swap _ _ _)
theorem sel9 {A B C D F G H I J K:Heaplet} {L:List Heaplet} :(B::C::D::F::G::H::I::J::K::A::L).Perm (A::B::C::D::F::G::H::I::J::K::L):=(List.Perm.cons _ sel8).trans (.swap _ _ _)
theorem sel10 {A B C D F G H I J K M:Heaplet} {L:List Heaplet} :(B::C::D::F::G::H::I::J::K::M::A::L).Perm (A::B::C::D::F::G::H::I::J::K::M::L):=(List.Perm.cons _ sel9).trans (.swap _ _ _)
theorem bM {A B C D F G H I J K:Heaplet} {L:List Heaplet} :A∈B::C::D::F::G::H::I::J::K::A::L:=List.Mem.tail _ bJ
theorem aP {l:List (Nat×Value)} {i:Nat} {k:IntKind} {p q:Int} (h:lk l i=some (.int k p)) (e:p=q):lk l i=some (.int k q):=by rw [h,e]
theorem und_some {P:Program} {t:TypeId} {d:TypeDesc} (h:P.underlying t=some d):(P.underlying t).isSome=true:=by rw [h];rfl
theorem getD_some {α:Type} {l:List α} {j:Nat} {z:α} (h:j<l.length):l[j]? =some (l.getD j z):=by
 rw [List.getD_eq_getElem?_getD,List.getElem?_eq_getElem h];rfl
theorem get8 {bs:List UInt8} {j:Nat} (h:j<bs.length):(u8s bs)[j]? =some (.int .u8 ((bs.getD j 0).toNat:Int)):=by
 rw [u8s,List.getElem?_map,getD_some (z:=0) h];rfl
theorem bT {bs:List UInt64} {j:Nat} (h:j<bs.length):(u64s bs)[j]? =some (.int .u64 ((bs.getD j 0).toNat:Int)):=by
 rw [u64s,List.getElem?_map,getD_some (z:=0) h];rfl
theorem bU {bs:List UInt32} {j:Nat} (h:j<bs.length):(u32s bs)[j]? =some (.int .u32 ((bs.getD j 0).toNat:Int)):=by
 rw [u32s,List.getElem?_map,getD_some (z:=0) h];rfl
section
variable {P : Program} {n : Nat} {l l' : List (Nat × Value)} {E : World} {L L1 Ls : List Heaplet} {o : Oper} {X Y K : Act → World → Prop} {N : Heaplet} {Q : Exit → Act → World → Prop}
variable {d : Nat} {ty t t' e : TypeId} {pos : String} {aft : Array Edge} {g : Option (Nat × Bool)} {v : Value} {x y z : Operand} {k : IntKind} {p q : Int} {size len cap : Nat} {ao : Option Addr} {xs : List Value} {b off j : Nat}
theorem At.cut {c:Code} (hk:Keeps l l') (hc:At n ((d,v)::l') E L K) (hb: ∀K',(∀l'',Keeps l'' l'→lk l'' d=some v→At n l'' E L K')→At n l E L (c.wp P (Exit.then K' Q))):At n l E L (c.wp P (Exit.then K Q)):=
 hb K fun l'' h1 h2=>At.keep (.cons h2 h1) hc
theorem bI (s:NxF P n l E L Ls ⟨some d,.indexAddr t x y,ty,pos,aft,g⟩ X Y) (ht:selt P t=some (e,1)) (hx:ev l x=some (.slice ao len cap)) (hy:ev l y=some (.int k p)) (hs:RSl N 1 ao len cap xs) (hj:p=(j:Int)) (hlt:j<len) (hn:Nat.ble (d+1) n=true) (h:At n ((d,eptr ao j)::l) E L Y):At n l E L X:=
 op_idxE s ht hx hy hs hj hlt hn (by rw [Nat.mul_one];exact h)
theorem At.retNE {Post:Value→List Heaplet→Prop} {R:Heaplet} {L2:List Heaplet} {fn:Func} {rs:List ResultVar} {vs:List Value} (hr:fn.results=rs.toArray)
 (hv:Res P l L rs vs) (hn:(vs.length==1)=false) (hs:L2.Sublist L) (hL:L2.Perm (L1++ [R])) (hP:Post (.tuple vs.toArray) L1):
 At n l E L (bodyPostE P fn E R Post .normal):=bP hr hv hn hs hL hP
theorem res_agg {cs ds:List Value} {kk:Nat} (ht:aggOf P t=some kk) (hb:Blk N b e cs) (hd:(cs.drop off).take kk=ds) (hk:ds.length=kk) (hN:N∈L): ∀E w,Hp E L w→(loadVar t ⟨b,off,none⟩).run P w=.ok (.agg ds.toArray) w:=fun E w hw=>
 run_load_agg ht hk fun i hi=>hw.cell hN (by
  have h2:((cs.drop off).take kk)[i]? =some ds[i]:=by rw [hd];exact List.getElem?_eq_getElem hi
  rw [List.getElem?_take,if_pos (by omega),List.getElem?_drop]at h2
  obtain⟨hl,he⟩:=List.getElem?_eq_some_iff.1 h2
  have:=hb.rng (off+i) hl
  rw [Nat.zero_add]at this
  rw [this,he])
/-! aggregates -/
inductive Pts (l:List (Nat×Value)):List (Nat×Operand)→List (Nat×Value)→Prop
 |nil:Pts l [] []
 |cons {i:Nat} {x:Operand} {v:Value} {xs:List (Nat×Operand)} {vs:List (Nat×Value)} (h:ev l x=some v) (k:Pts l xs vs):Pts l ((i,x)::xs) ((i,v)::vs)
theorem Pts.map {xs:List (Nat×Operand)} {vs:List (Nat×Value)} (h:Pts l xs vs) {ds:List Deferred} {a:Act} (hf:Fr ds n l a):(xs.map fun p=>(p.1,a.eval p.2))=vs:=by
 induction h with
 |nil=>rfl
 |cons h _ ih=>rw [List.map_cons,ih];simp [hf.eval h]
/-- The parts of a struct put in place. -/
def fillL (ps:List (Nat×Nat)) (cells:List Value):List (Nat×Value)→Option (List Value)
 | []=>some cells
 |(i,v)::rest=>match ps[i]? with
  |none=>none
  |some (off,size)=>if v.cells.toList.length=size∧off+v.cells.toList.length≤cells.length then fillL ps (setL cells off v.cells.toList) rest else none
theorem foldl_setL (vs:List Value): ∀(cs:List Value) (off i:Nat),((vs.zipIdx i).foldl (fun(cs:Array Value) (c,j)=>cs.setIfInBounds (off+j) c) cs.toArray)=(setL cs (off+i) vs).toArray:=by
 induction vs with
 |nil=>intro cs off i;rfl
 |cons v t ih=>
  intro cs off i
  rw [List.zipIdx_cons,List.foldl_cons,setL]
  have:cs.toArray.setIfInBounds (off+i) v=(cs.set (off+i) v).toArray:=by simp
  show List.foldl _ (cs.toArray.setIfInBounds (off+i) v) _=_
  rw [this,ih];rfl
theorem fill_fillL {ps:List (Nat×Nat)} {place:Nat→Option (Nat×Nat)} (hp: ∀i o,ps[i]? =some o→place i=some o): ∀(parts:List (Nat×Value)) (cells out:List Value),fillL ps cells parts=some out→Instr.fill place cells.toArray parts=some out.toArray:=by
 intro parts
 induction parts with
 |nil=>intro cells out h;cases h;rfl
 |cons pv rest ih=>
  intro cells out h
  obtain⟨i,v⟩:=pv
  simp only [fillL]at h
  split at h
  ·cases h
  ·rename_i o s hs
   split at h
   ·rename_i hc
    simp only [Instr.fill,hp _ _ hs]
    rw [Array.length_toList]at hc
    rw [if_neg (by simp;omega)]
    have e:=foldl_setL v.cells.toList cells o 0
    rw [Nat.add_zero]at e
    have e2:(Array.foldl (fun cs x=>cs.setIfInBounds (o+x.2) x.1) cells.toArray v.cells.zipIdx)=(setL cells o v.cells.toList).toArray:=by
     rw [←e, ←Array.foldl_toList,Array.toList_zipIdx]
    rw [e2]
    exact ih _ _ h
   ·cases h
theorem places_spec {P:Program} {t:TypeId} {ps:List (Nat×Nat)} (h:places P t=some ps) (w:World): ∃fs,P.underlying t=some (.struct fs)∧(fs.mapM (m:=Sem) fun f=>do pure (f.offset, ←sizeOf f.type)).run P w=.ok ps.toArray w:=by
 unfold places at h
 split at h
 ·rename_i fs hu
  refine⟨fs,hu,?_⟩
  have key: ∀(l:List Field) (ps:List (Nat×Nat)),(l.mapM fun f=>(siz P f.type).map fun s=>(f.offset,s))=some ps→(l.mapM (m:=Sem) fun f=>do pure (f.offset, ←sizeOf f.type)).run P w=.ok ps w:=by
   intro l
   induction l with
   |nil=>intro ps h;cases h;rfl
   |cons f t ih=>
    intro ps h
    simp only [List.mapM_cons,Option.bind_eq_bind,Option.bind_eq_some_iff,Option.map_eq_some_iff]at h
    obtain⟨a,⟨s,hs,rfl⟩,qs,hq,h⟩:=h
    cases h
    obtain⟨i,hi,rfl⟩:=Option.map_eq_some_iff.1 hs
    rw [List.mapM_cons,Sem.run_bind,Sem.run_bind,run_sizeOf hi]
    simp only [Result.andThen_ok,Sem.run_pure]
    rw [Sem.run_bind,ih qs hq]
    rfl
  have:=key fs.toList ps h
  rw [Array.mapM_eq_mapM_toList,Sem.run_map,this]
  rfl
 ·cases h
theorem op_build {parts:List (Nat×Operand)} {vs:List (Nat×Value)} {zs out:List Value} {ps:List (Nat×Nat)} (s:NxF P n l E L Ls ⟨some d,.build t parts.toArray,ty,pos,aft,g⟩ X Y) (hz:zer P t=some (.agg zs.toArray)) (hp:places P t=some ps) (hv:Pts l parts vs) (ho:fillL ps zs vs=some out) (hn:Nat.ble (d+1) n=true) (h:At n ((d,.agg out.toArray)::l) E L Y):At n l E L X:=
 op_val s (fun a w hf hw=>by
  obtain⟨i,hi,hiz⟩:=Option.bind_eq_some_iff.1 hz
  obtain⟨fs,hu,hm⟩:=places_spec hp w
  have hzr:(zeroValue t).run P w=.ok (.agg zs.toArray) w:=by simp [zeroValue,typeInfo,hi,hiz]
  have hfill:=fill_fillL (place:=(ps.toArray[·]?)) (fun i o h=>by simpa using h) vs zs out ho
  have hpv:(parts.toArray.map fun(x:Nat×Operand)=>(x.1,a.eval x.2))=vs.toArray:=by rw [List.map_toArray,hv.map hf]
  have hb:(Instr.build t vs.toArray).run P w=.ok (.agg out.toArray) w:=by
   unfold Instr.build
   rw [Sem.run_bind,hzr]
   simp only [Result.andThen_ok]
   rw [Sem.run_bind,run_underlying hu]
   simp only [Result.andThen_ok]
   rw [Sem.run_bind,hm]
   simp only [Result.andThen_ok,Value.cells,hfill,Sem.run_pure]
  show((do pure (.value (←Instr.build t (parts.toArray.map fun(x:Nat×Operand)=>(x.1,a.eval x.2)))):Sem Next)).run P w=_
  rw [hpv,Sem.run_bind,hb]
  rfl) rfl hn h
/-- A slice literal. -/
theorem op_buildSlice {parts:List (Nat×Operand)} {vs:List (Nat×Value)} {zv:Value} {out:List Value} {m:Nat} (s:NxA P n l E L ⟨some d,.buildSlice t m parts.toArray,ty,pos,aft,g⟩ X Y) (ht:P.underlying t=some (.slice e)) (hz:zer P e=some zv) (hsz:siz P e=some size) (hv:Pts l parts vs)
 (ho:fillL ((List.range m).map fun i=>(i*size,size)) (madeCells zv.cells (m*size)).toList vs=some out) (hlen:out.length=m*size) (hm:Nat.ble (m*size) 16777216=true) (hm2:Nat.ble m 16777216=true) (hn:Nat.ble (d+1) n=true)
 (h: ∀N ao,Row N e size ao m m out→At n ((d,.slice ao m m)::l) E (N::L) Y):At n l E L X:=by
 have hm':=Nat.le_of_ble_eq_true hm
 refine op_new s (fun v L'=> ∃N ao,v=.slice ao m m∧L'=N::L∧Row N e size ao m m out) (fun a w hf hw=>?_) rfl hn (fun v L' ⟨N,ao,hv,hL,hB⟩=>by subst hv;subst hL;exact h N ao hB)
 obtain⟨i,hi,hiz⟩:=Option.bind_eq_some_iff.1 hz
 obtain⟨i',hi',hs'⟩:=Option.map_eq_some_iff.1 hsz
 rw [hi]at hi';cases hi'
 have hzr:(zeroValue e).run P w=.ok zv w:=by simp [zeroValue,typeInfo,hi,hiz]
 have hpv:(parts.toArray.map fun(x:Nat×Operand)=>(x.1,a.eval x.2))=vs.toArray:=by rw [List.map_toArray,hv.map hf]
 have hfill:=fill_fillL (place:=fun i=>some (i*size,size)) (fun i o h=>by
  rw [List.getElem?_map,Option.map_eq_some_iff]at h
  obtain⟨i',hi',rfl⟩:=h
  have:=List.getElem?_eq_some_iff.1 hi'
  obtain⟨h1,h2⟩:=this
  simp at h2;subst h2;rfl) vs _ out ho
 refine⟨_,_,_,?_,Agree.alloc w (.cells out.toArray e),hw.alloc _,single w.heap.size (.cells out.toArray e),some ⟨w.heap.size,0,none⟩,rfl,rfl,⟨hlen,Nat.le_refl _,?_,.inr ⟨w.heap.size,_,rfl,single_self _ _,by simpa using hlen,by simp [←hlen]⟩⟩⟩
 ·show((do pure (.value (←Instr.buildSlice t m (parts.toArray.map fun(x:Nat×Operand)=>(x.1,a.eval x.2)))):Sem Next)).run P w=_
  rw [hpv,Sem.run_bind]
  have hb:(Instr.buildSlice t m vs.toArray).run P w=.ok (.slice (some ⟨w.heap.size,0,none⟩) m m) (w.alloc (.cells out.toArray e)):=by
   have hbig: ¬m*size>2^24:=by omega
   unfold Instr.buildSlice
   simp only [Sem.run_bind,run_underlying ht,Result.andThen_ok,run_sizeOf hi,hs',if_neg hbig,Sem.run_pure]
   by_cases h0:m*size=0
   ·have e1:(madeCells zv.cells (m*size))= #[]:=by rw [h0];simp [madeCells]
    rw [e1]at hfill
    have hfill':Instr.fill (fun i=>some (i*size,size)) #[] vs=some out.toArray:=hfill
    have e0: ∀a:Array Value,((Array.range 0).map fun x=>a[x % a.size]!)= #[]:=fun a=>by simp
    simp only [h0,if_true,Sem.run_pure,Result.andThen_ok,e0,hfill',Sem.run_bind,newRow]
    rfl
   ·simp only [if_neg h0,Sem.run_bind,hzr,Result.andThen_ok,Sem.run_pure]
    have e1:((Array.range (m*size)).map fun x=>zv.cells[x % zv.cells.size]!)=madeCells zv.cells (m*size):=rfl
    rw [e1]
    have hfill':Instr.fill (fun i=>some (i*size,size)) (madeCells zv.cells (m*size)) vs=some out.toArray:=by simpa using hfill
    simp only [hfill',Sem.run_bind,newRow,Sem.run_pure]
    rfl
  rw [hb]
  rfl
 ·have:=Nat.le_of_ble_eq_true hm2
  unfold maxLen;omega
end
end Go.Proofs.YtdpjbefeabokgaaGreat
/- The engine, part 8: parts of slices. For whatever program. No condition. -/
namespace Go.Proofs.YtdpjbefeabokgaaGreat
open Go Go.RowKit
theorem sadr_zero (ao:Option Addr) (m s:Nat):sadr ao 0 m s=ao:=by
 unfold sadr
 split
 ·rfl
 ·cases ao with
  |none=>rfl
  |some a=>simp [Addr.add]
section
variable {P : Program} {n : Nat} {l l' : List (Nat × Value)} {E : World} {L L1 Ls : List Heaplet} {o : Oper} {X Y K : Act → World → Prop} {N : Heaplet} {Q : Exit → Act → World → Prop}
variable {d : Nat} {ty t t' e : TypeId} {pos : String} {aft : Array Edge} {g : Option (Nat × Bool)} {v : Value} {x y z : Operand} {k : IntKind} {p q : Int} {size len cap : Nat} {ao : Option Addr} {xs : List Value} {b off j : Nat}
theorem op_slice0 {hi mx:Option Operand} {y' z':Nat} (s:NxF P n l E L Ls ⟨some d,.slice t x none hi mx,ty,pos,aft,g⟩ X Y) (ht:selt P t=some (e,size)) (hx:ev l x=some (.slice ao len cap)) (hhi:Bd l hi len y') (hmx:Bd l mx cap z') (h2:y'≤z') (h3:z'≤cap)
 (hm:mx.isSome=true→hi.isSome=true) (hn:Nat.ble (d+1) n=true) (h:At n ((d,.slice ao y' z')::l) E L Y):At n l E L X:=
 op_slice s ht hx .none hhi hmx (Nat.zero_le _) h2 h3 hm hn (by rw [sadr_zero];exact h)
theorem RSl.isSome {N:Heaplet} {size:Nat} {ao:Option Addr} {n cap:Nat} {xs:List Value} (h:RSl N size ao n cap xs) (h0:0<n):ao.isSome=true:=by
 obtain⟨b,off,rfl,_⟩:=h.2.2.2 h0;rfl
theorem RSl.take {N:Heaplet} {size:Nat} {ao:Option Addr} {n cap:Nat} {xs:List Value} (h:RSl N size ao n cap xs) {hi m:Nat} (h2:hi≤m) (h3:m≤cap) (h4:hi≤n):RSl N size ao hi m (xs.take (hi*size)):=by
 have:=h.part (Nat.zero_le hi) h2 h3 h4
 simpa [sadr_zero]using this
theorem RSl.drop {N:Heaplet} {size:Nat} {ao:Option Addr} {n cap:Nat} {xs:List Value} (h:RSl N size ao n cap xs) {lo:Nat} (h4:lo≤n):RSl N size (sadr ao lo cap size) (n- lo) (cap- lo) (xs.drop (lo*size)):=by
 have:=h.part h4 h.2.1 (Nat.le_refl _) (Nat.le_refl _)
 rwa [List.take_of_length_le (by rw [List.length_drop,h.1,Nat.sub_mul];exact Nat.le_refl _)]at this
theorem u8s_take (l:List UInt8) (k:Nat):(u8s l).take k=u8s (l.take k):=by simp [u8s]
theorem u8s_drop (l:List UInt8) (k:Nat):(u8s l).drop k=u8s (l.drop k):=by simp [u8s]
theorem u64s_takeR (l:List UInt64) (k:Nat):(u64s l).take k=u64s (l.take k):=by simp [u64s]
theorem u32s_take (l:List UInt32) (k:Nat):(u32s l).take k=u32s (l.take k):=by simp [u32s]
theorem RSl.take8 {N:Heaplet} {ao:Option Addr} {n cap:Nat} {bs:List UInt8} (h:RSl N 1 ao n cap (u8s bs)) {hi m:Nat} (h2:hi≤m) (h3:m≤cap) (h4:hi≤n):RSl N 1 ao hi m (u8s (bs.take hi)):=by
 have:=h.take h2 h3 h4;rwa [Nat.mul_one,u8s_take]at this
theorem RSl.drop8 {N:Heaplet} {ao:Option Addr} {n cap:Nat} {bs:List UInt8} (h:RSl N 1 ao n cap (u8s bs)) {lo:Nat} (h4:lo≤n):RSl N 1 (sadr ao lo cap 1) (n- lo) (cap- lo) (u8s (bs.drop lo)):=by
 have:=h.drop h4;rwa [Nat.mul_one,u8s_drop]at this
theorem RSl.part8 {N:Heaplet} {ao:Option Addr} {n cap:Nat} {bs:List UInt8} (h:RSl N 1 ao n cap (u8s bs)) {lo hi m:Nat} (h1:lo≤hi) (h2:hi≤m) (h3:m≤cap) (h4:hi≤n):RSl N 1 (sadr ao lo m 1) (hi- lo) (m- lo) (u8s ((bs.drop lo).take (hi- lo))):=by
 have:=h.part h1 h2 h3 h4;rwa [Nat.mul_one,Nat.mul_one,u8s_drop,u8s_take]at this
theorem RSl.len8 {N:Heaplet} {ao:Option Addr} {n cap:Nat} {bs:List UInt8} (h:RSl N 1 ao n cap (u8s bs)):bs.length=n:=by simpa using h.len
theorem RSl.len64 {N:Heaplet} {ao:Option Addr} {n cap:Nat} {bs:List UInt64} (h:RSl N 1 ao n cap (u64s bs)):bs.length=n:=by simpa using h.len
theorem RSl.len32 {N:Heaplet} {ao:Option Addr} {n cap:Nat} {bs:List UInt32} (h:RSl N 1 ao n cap (u32s bs)):bs.length=n:=by simpa using h.len
theorem RSl.cap63 {N:Heaplet} {size:Nat} {ao:Option Addr} {n cap:Nat} {xs:List Value} (h:RSl N size ao n cap xs):n≤cap∧cap≤9223372036854775807:=⟨h.2.1,h.2.2.1⟩
end
/-! What was proved of a call in the elder words. -/
/-- It gives bytes (or limbs) in a slice that owns its block. -/
theorem Fn.of_ownb {P:Program} {f:FuncId} {args:Array Value} {Lr:List Heaplet} {e:TypeId} {xs:List Value} (h: ∀w,(∀N∈Lr,N.le (whole w))→Calls P f args w (Ret w (OwnB w.heap.size e xs))):
 Fn P f args [] Lr (fun v L=> ∃N ao cap,v=.slice ao xs.length cap∧L= [N]∧Row N e 1 ao xs.length cap xs):=by
 intro E w R hw hr
 refine(h w fun N hN=>Heaplet.le_trans (hr N hN) (hw.sub R (by simp))).mono ?_
 rintro e w' ⟨v,rfl,⟨ao,cap,rfl,ho⟩,hb⟩
 have ho0:=owns_mono ho (Nat.zero_le _)
 have hbase: ∀b,ao=some b→w.heap.size≤b.block:=fun b hb'=>by
  obtain⟨_,⟨hv,_⟩|⟨g,cap',cur,hv,hg,_⟩⟩:=ho
  ·subst hb';cases hv
  ·subst hb'
   simp only [Value.slice.injEq,Option.some.injEq]at hv
   obtain⟨rfl,_⟩:=hv
   exact hg
 have hR:Hp E [R] w':=by
  refine⟨hb.os.trans hw.os,hb.tape.trans hw.tape,hb.output.trans hw.output,fun N hN k o hk=>?_,by simp⟩
  simp at hN;subst hN
  have hlt:=hw.lt (List.mem_append_right _ (List.mem_singleton.2 rfl)) hk
  exact(hb.block k hlt).trans (hw.sub _ (by simp) k o hk)
 rcases owns_row ho0 with ⟨rfl,hrow⟩|⟨b,cur,rfl,hheap,hrow⟩
 ·refine⟨_,[fun _=>none],rfl,⟨_,_,_,rfl,rfl,hrow _⟩,⟨hR.os,hR.tape,hR.output,fun N hN=>?_,?_⟩⟩
  ·rcases List.mem_cons.1 hN with rfl|hN
   ·intro k o hk;cases hk
   ·exact hR.sub N hN
  ·simp [Apart]
 ·refine⟨_,[single b (.cells cur e (0,0))],rfl,⟨_,_,_,rfl,rfl,hrow _ (single_self _ _)⟩,⟨hR.os,hR.tape,hR.output,fun N hN=>?_,?_⟩⟩
  ·rcases List.mem_cons.1 hN with rfl|hN
   ·intro k o hk
    unfold single at hk
    split at hk
    ·rename_i e;subst e;cases hk;exact hheap
    ·cases hk
   ·exact hR.sub N hN
  ·simp only [List.cons_append,List.nil_append,List.pairwise_cons,List.mem_singleton,List.not_mem_nil,false_imp_iff,implies_true,and_true,List.Pairwise.nil,forall_eq]
   intro k
   unfold single
   split
   ·rename_i e
    right
    cases hm:R k with
    |none=>rfl
    |some o'=>
     have h1:=hw.lt (List.mem_append_right _ (List.mem_singleton.2 rfl)) hm
     have h2:=hbase _ rfl
     simp at h2
     omega
   ·exact .inl rfl
end Go.Proofs.YtdpjbefeabokgaaGreat
/- The engine, part 9: interfaces, byte strings out of literals, pointers. For whatever program. No condition. -/
namespace Go.Proofs.YtdpjbefeabokgaaGreat
open Go Go.RowKit
def isIfc (P:Program) (t:TypeId):Bool:=match P.underlying t with
 |some (.interface _)=>true
 |_=>false
def notIfc (P:Program) (t:TypeId):Bool:=match P.underlying t with
 |some (.interface _)=>false
 |none=>false
 |_=>true
section
variable {P : Program} {n : Nat} {l l' : List (Nat × Value)} {E : World} {L L1 Ls : List Heaplet} {o : Oper} {X Y K : Act → World → Prop} {N : Heaplet} {Q : Exit → Act → World → Prop}
variable {d : Nat} {ty t t' e : TypeId} {pos : String} {aft : Array Edge} {g : Option (Nat × Bool)} {v : Value} {x y z : Operand} {k : IntKind} {p q : Int} {size len cap : Nat} {ao : Option Addr} {xs : List Value} {b off j : Nat}
theorem op_mkI (s:NxF P n l E L Ls ⟨some d,.makeInterface t x,ty,pos,aft,g⟩ X Y) (ht:notIfc P t=true) (hx:ev l x=some v) (hn:Nat.ble (d+1) n=true) (h:At n ((d,.iface t v)::l) E L Y):At n l E L X:=
 op_val s (fun a w hf _=>by
  unfold notIfc at ht
  cases hu:P.underlying t with
  |none=>rw [hu]at ht;cases ht
  |some u=>
   rw [hu]at ht
   simp only [execOp,hf.eval hx,Instr.makeInterface,Sem.run_bind,run_underlying hu,Result.andThen_ok]
   cases u<;>first|rfl|cases ht) rfl hn h
theorem run_assert {asserted:TypeId} (ht:notIfc P asserted=true) (w:World) (ok:Bool):(Instr.typeAssert (.iface t v) ty asserted ok).run P w=if t=asserted then .ok (if ok then .tuple #[v,.bool true]else v) w else (Instr.typeAssert (.iface t v) ty asserted ok).run P w:=by
 split
 ·rename_i e
  subst e
  unfold notIfc at ht
  cases hu:P.underlying t with
  |none=>rw [hu]at ht;cases ht
  |some u=>
   rw [hu]at ht
   simp only [Instr.typeAssert,Sem.run_bind,run_underlying hu,Result.andThen_ok]
   cases u<;>first|(cases ht;done)|(simp;rfl)|simp
 ·rfl
theorem op_assertY {tx:TypeId} (s:NxF P n l E L Ls ⟨some d,.typeAssert x tx t true,ty,pos,aft,g⟩ X Y) (ht:notIfc P t=true) (hx:ev l x=some (.iface t v)) (hn:Nat.ble (d+1) n=true) (h:At n ((d,.tuple #[v,.bool true])::l) E L Y):At n l E L X:=
 op_val s (fun a w hf _=>by simp only [execOp,hf.eval hx,Sem.run_bind];rw [run_assert ht];simp) rfl hn h
theorem op_assert1 {tx:TypeId} (s:NxF P n l E L Ls ⟨some d,.typeAssert x tx t false,ty,pos,aft,g⟩ X Y) (ht:notIfc P t=true) (hx:ev l x=some (.iface t v)) (hn:Nat.ble (d+1) n=true) (h:At n ((d,v)::l) E L Y):At n l E L X:=
 op_val s (fun a w hf _=>by simp only [execOp,hf.eval hx,Sem.run_bind];rw [run_assert ht];simp) rfl hn h
theorem op_assertN {tx:TypeId} {zv:Value} (s:NxF P n l E L Ls ⟨some d,.typeAssert x tx t true,ty,pos,aft,g⟩ X Y) (ht:notIfc P t=true) (hz:zer P t=some zv) (hx:ev l x=some (.iface t' v)) (hne:(t'==t)=false) (hn:Nat.ble (d+1) n=true) (h:At n ((d,.tuple #[zv,.bool false])::l) E L Y):At n l E L X:=
 op_val s (fun a w hf _=>by
  obtain⟨i,hi,hiz⟩:=Option.bind_eq_some_iff.1 hz
  have hzr:(zeroValue t).run P w=.ok zv w:=by simp [zeroValue,typeInfo,hi,hiz]
  have hne': ¬t'=t:=by simpa using hne
  unfold notIfc at ht
  cases hu:P.underlying t with
  |none=>rw [hu]at ht;cases ht
  |some u=>
   rw [hu]at ht
   simp only [execOp,hf.eval hx,Instr.typeAssert,Sem.run_bind,run_underlying hu,Result.andThen_ok]
   cases u<;>first|(cases ht;done)|(simp [hne',hzr])) rfl hn h
theorem run_equal_iface_nil (ht:isIfc P t=true) (w:World):(Op.equal t (.iface t' v) .nilIface).run P w=.ok false w:=by
 unfold isIfc at ht
 cases hu:P.underlying t with
 |none=>rw [hu]at ht;cases ht
 |some u=>
  rw [hu]at ht
  unfold Op.equal
  show(Op.equalIn (9999+1) t _ _).run P w=_
  unfold Op.equalIn
  rw [Sem.run_bind,run_underlying hu]
  cases u<;>first|(cases ht;done)|rfl
theorem run_equal_nil_nil (ht:isIfc P t=true) (w:World):(Op.equal t .nilIface .nilIface).run P w=.ok true w:=by
 unfold isIfc at ht
 cases hu:P.underlying t with
 |none=>rw [hu]at ht;cases ht
 |some u=>
  rw [hu]at ht
  unfold Op.equal
  show(Op.equalIn (9999+1) t _ _).run P w=_
  unfold Op.equalIn
  rw [Sem.run_bind,run_underlying hu]
  cases u<;>first|(cases ht;done)|rfl
/-- x == nil, x an interface that holds something, or nil. -/
theorem op_eqNilF (s:NxF P n l E L Ls ⟨some d,.binOp .eql t x (.const .nilIface) t',ty,pos,aft,g⟩ X Y) (ht:isIfc P t=true) (hx:ev l x=some (.iface e v)) (hn:Nat.ble (d+1) n=true) (h:At n ((d,.bool false)::l) E L Y):At n l E L X:=
 op_bin s hx rfl (fun w=>by simp [eqGuard]) (fun w=>by simp [binOp,run_equal_iface_nil ht]) hn h
theorem op_eqNilT (s:NxF P n l E L Ls ⟨some d,.binOp .eql t x (.const .nilIface) t',ty,pos,aft,g⟩ X Y) (ht:isIfc P t=true) (hx:ev l x=some .nilIface) (hn:Nat.ble (d+1) n=true) (h:At n ((d,.bool true)::l) E L Y):At n l E L X:=
 op_bin s hx rfl (fun w=>by simp [eqGuard]) (fun w=>by simp [binOp,run_equal_nil_nil ht]) hn h
theorem aQ {ad:Addr} (s:NxF P n l E L Ls ⟨some d,.nilCheck x,ty,pos,aft,g⟩ X Y) (hx:ev l x=some (.pointer (some ad))) (hn:Nat.ble (d+1) n=true) (h:At n ((d,.pointer (some ad))::l) E L Y):At n l E L X:=
 op_val s (fun a w hf _=>by simp [execOp,hf.eval hx]) rfl hn h
/-- []byte of a literal: the block is marked, the bytes stand. -/
theorem op_convB (s:Nx P n l E L ⟨some d,.convert t t x,ty,pos,aft,g⟩ X Y) (ht:P.underlying t=some (.slice e)) (he:P.underlying e=some (.int .u8)) (hx:ev l x=some (.slice ao len cap)) (hr:Row N t' 1 ao len cap xs) (h0:0<len) (sel:L.Perm (N::L1)) (hn:Nat.ble (d+1) n=true)
 (h: ∀N,RSl N 1 ao len cap xs→At n ((d,.slice ao len cap)::l) E (N::L1) Y):At n l E L X:=by
 refine op_upd s (fun v L'=> ∃N,v=.slice ao len cap∧L'=N::L1∧RSl N 1 ao len cap xs) (fun a w hf hw=>?_) rfl hn (fun v L' ⟨N,hv,hL,hB⟩=>by subst hv;subst hL;exact h N hB)
 have hw2:=hw.perm sel
 have hr':=hr
 obtain⟨h1,h2,h3,⟨rfl,hz,_⟩|⟨b,cur,rfl,hN,hcs,htk⟩⟩:=hr
 ·omega
 have hheap:w.heap[b]? =some (.cells cur t' (0,0)):=hw2.sub N (List.mem_cons_self ..) _ _ hN
 let w':=w.freeze ⟨b,cur.size,none⟩ 1
 have hnew:w'.heap[b]? =some (.cells cur t' (cur.size,cur.size+1)):=by
  simp only [w',World.freeze]
  simp [Array.getElem?_modify,hheap]
 have hold: ∀k,k≠b→k<w.heap.size→w'.heap[k]? =w.heap[k]? :=fun k hk _=>by
  simp only [w',World.freeze]
  simp [Array.getElem?_modify,Ne.symm hk]
 refine⟨_,w',_,?_,hw2.put (o':=.cells cur t' (cur.size,cur.size+1)) hN (by simp [w',World.freeze]) (by simp [w',World.freeze]) (by simp [w',World.freeze]) hnew hold,_,rfl,rfl,?_⟩
 ·simp only [execOp,hf.eval hx,convert,Sem.run_bind,run_underlying ht,Result.andThen_ok,run_underlying he]
  have hm:(markStringish ⟨b,0,none⟩).run P w=.ok () w':=by
   have hsh:w.shape? b=some (t',cur.size):=by simp [World.shape?,hheap]
   simp [markStringish,shape,freeze,Sem.run,hsh,w']
  simp [hm]
 ·have hs:=hr'.rsl
  obtain⟨a1,a2,a3,a4⟩:=hs
  refine⟨a1,a2,a3,fun hp=>?_⟩
  obtain⟨b',off',e',hrg⟩:=a4 hp
  refine⟨b',off',e',fun i hi=>?_⟩
  have:=hrg i hi
  simp only [Option.some.injEq,Addr.mk.injEq]at e'
  obtain⟨rfl,rfl,_⟩:=e'
  unfold cellOf at this⊢
  rw [hN]at this
  rw [upd_self]
  exact this
end
end Go.Proofs.YtdpjbefeabokgaaGreat
/- The engine, part 10: slice literals. For whatever program. No condition. -/
namespace Go.Proofs.YtdpjbefeabokgaaGreat
open Go Go.RowKit
/-- The heaplet that holds nothing. -/
def nilH:Heaplet:=fun _=>none
theorem At.empty {n:Nat} {l:List (Nat×Value)} {E:World} {L:List Heaplet} {K:Act→World→Prop} (h:At n l E (nilH::L) K):At n l E L K:=fun a w hf hw=>h a w hf
 ⟨hw.os,hw.tape,hw.output,fun N hN=>by
  rcases List.mem_cons.1 hN with rfl|hN
  ·intro k o hk;cases hk
  ·exact hw.sub N hN,by rw [List.pairwise_cons];exact⟨fun _ _ _=>.inl rfl,hw.sep⟩⟩
theorem At.mergeN {n:Nat} {l:List (Nat×Value)} {E:World} {L:List Heaplet} {K:Act→World→Prop} {A B:Heaplet} (h: ∀J:Heaplet,A.le J→B.le J→At n l E (J::L) K):At n l E (A::B::L) K:=
 At.merge fun hap=>h _ join2_left (join2_right hap)
theorem setL_append (vs:List Value): ∀(a b c:List Value),b.length=vs.length→setL (a++b++c) a.length vs=a++vs++c:=by
 induction vs with
 |nil=>intro a b c h;simp at h;subst h;simp [setL]
 |cons v t ih=>
  intro a b c h
  cases b with
  |nil=>simp at h
  |cons x b=>
   rw [setL]
   have e:(a++x::b++c).set a.length v=(a++ [v])++b++c:=by simp
   rw [e]
   have:=ih (a++ [v]) b c (by simpa using h)
   rw [List.length_append,List.length_singleton]at this
   rw [this];simp
def flatV (vs:List (Nat×Value)):List Value:=vs.flatMap fun p=>p.2.cells.toList
theorem fillL_all (size m:Nat): ∀(vs:List (Nat×Value)) (k:Nat) (a zs:List Value),vs.map (·.1)=List.range' k vs.length→k+vs.length≤m→(∀p∈vs,p.2.cells.toList.length=size)→a.length=k*size→zs.length=vs.length*size→
 fillL ((List.range m).map fun i=>(i*size,size)) (a++zs) vs=some (a++flatV vs):=by
 intro vs
 induction vs with
 |nil=>intro k a zs _ _ _ _ h;simp at h;subst h;simp [fillL,flatV]
 |cons p t ih=>
  intro k a zs hi hm hs ha hz
  obtain⟨i,v⟩:=p
  simp only [List.map_cons,List.length_cons,List.range'_succ,List.cons.injEq]at hi
  obtain⟨rfl,hi⟩:=hi
  simp only [List.length_cons]at hm hz
  have hv:=hs _ (List.mem_cons_self ..)
  simp only at hv
  have hget:((List.range m).map fun i=>(i*size,size))[i]? =some (i*size,size):=by
   rw [List.getElem?_map,List.getElem?_range (by omega)];rfl
  have hz':size≤zs.length:=by rw [hz,Nat.add_mul];omega
  have hcond:v.cells.toList.length=size∧i*size+v.cells.toList.length≤(a++zs).length:=by
   rw [List.length_append];omega
  have hset:setL (a++zs) (i*size) v.cells.toList=(a++v.cells.toList)++zs.drop size:=by
   have:=setL_append v.cells.toList a (zs.take size) (zs.drop size) (by rw [List.length_take];omega)
   rw [List.append_assoc,List.take_append_drop,ha]at this
   exact this
  have hrec:=ih (i+1) (a++v.cells.toList) (zs.drop size) hi (by omega) (fun q hq=>hs q (List.mem_cons_of_mem _ hq)) (by rw [List.length_append,ha,hv,Nat.add_mul,Nat.one_mul]) (by rw [List.length_drop,hz,Nat.add_mul];omega)
  simp only [fillL,hget,if_pos hcond,hset,hrec]
  simp [flatV]
section
variable {P : Program} {n : Nat} {l l' : List (Nat × Value)} {E : World} {L L1 : List Heaplet} {X Y : Act → World → Prop} {d : Nat} {ty t e : TypeId} {pos : String} {aft : Array Edge} {g : Option (Nat × Bool)} {size : Nat}
theorem length_flatV {vs:List (Nat×Value)} (h: ∀p∈vs,p.2.cells.toList.length=size):(flatV vs).length=vs.length*size:=by
 induction vs with
 |nil=>simp [flatV]
 |cons p t ih=>
  have h1:=h p (List.mem_cons_self ..)
  have h2:=ih fun q hq=>h q (List.mem_cons_of_mem _ hq)
  simp only [flatV,List.flatMap_cons,List.length_append,List.length_cons]at h2⊢
  rw [h1,h2,Nat.add_mul,Nat.one_mul,Nat.add_comm]
/-- A slice literal, all of whose places are written out. -/
theorem op_lit {parts:List (Nat×Operand)} {vs:List (Nat×Value)} {zv:Value} {m:Nat} (s:NxA P n l E L ⟨some d,.buildSlice t m parts.toArray,ty,pos,aft,g⟩ X Y) (ht:P.underlying t=some (.slice e)) (hz:zer P e=some zv) (hsz:siz P e=some size) (hv:Pts l parts vs)
 (hi:vs.map (·.1)=List.range' 0 vs.length) (hm0:vs.length=m) (hs: ∀p∈vs,p.2.cells.toList.length=size) (hm:Nat.ble (m*size) 16777216=true) (hm2:Nat.ble m 16777216=true) (hn:Nat.ble (d+1) n=true)
 (h: ∀N ao,Row N e size ao m m (flatV vs)→At n ((d,.slice ao m m)::l) E (N::L) Y):At n l E L X:=by
 refine op_buildSlice s ht hz hsz hv (out:=flatV vs) ?_ (by rw [length_flatV hs,hm0]) hm hm2 hn h
 have:=fillL_all size m vs 0 [] (madeCells zv.cells (m*size)).toList hi (by omega) hs (by simp) (by rw [Array.length_toList,size_madeCells,hm0])
 simpa using this
end
end Go.Proofs.YtdpjbefeabokgaaGreat
/- The engine, part 11: what is guarded by what was left out is left out. For whatever program. No condition. -/
namespace Go.Proofs.YtdpjbefeabokgaaGreat
open Go Go.RowKit
section
variable {P : Program} {n : Nat} {l : List (Nat × Value)} {E : World} {L : List Heaplet} {Q : Exit → Act → World → Prop} {ops : Array Oper} {rest : List Oper} {o : Oper}
theorem unwanted_of {j:Nat} {b:Bool} {oj:Oper} {d:Nat} {ds:List Deferred} {a:Act} (hf:Fr ds n l a) (hg:o.guard=some (j,b)) (hj:ops[j]? =some oj) (hd:oj.dst=some d) (hv:lk l d=some undef):Region.wanted o (yielded ops a.tmps)=false:=by
 have:=hf.get d _ hv
 simp [Region.wanted,hg,yielded,hj,hd,this,undef]
theorem op_skipU {j:Nat} {b:Bool} {oj:Oper} {d e:Nat} (hg:o.guard=some (j,b)) (hj:ops[j]? =some oj) (hd:oj.dst=some d) (hv:lk l d=some undef) (he:o.dst=some e) (hn:Nat.ble (e+1) n=true)
 (h:At n ((e,undef)::l) E L (wpList P ops Q rest)):At n l E L (wpList P ops Q (o::rest)):=fun a w hf hw=>
 wpList_step fun K hK=>by
  rw [unwanted_of hf hg hj hd hv]
  simp only [Bool.false_eq_true,if_false]
  rw [he]
  exact hK _ _ (h _ _ (hf.put (Nat.le_of_ble_eq_true hn)) hw)
end
end Go.Proofs.YtdpjbefeabokgaaGreat
/- The engine, part 12: words' other operations, copy, functions as values. For whatever program. No condition. -/
namespace Go.Proofs.YtdpjbefeabokgaaGreat
open Go Go.RowKit
theorem bits_comp_u64 (x:UInt64):bits .xor .u64 18446744073709551615 (x.toNat:Int)=((~~~x).toNat:Int):=by
 have h:=bits_xor_u64 18446744073709551615 x
 have e:((18446744073709551615:UInt64).toNat:Int)=18446744073709551615:=rfl
 rw [e]at h
 rw [h]
 congr 2
section
variable {P : Program} {n : Nat} {l : List (Nat × Value)} {E : World} {L L1 Ls : List Heaplet} {o : Oper} {X Y : Act → World → Prop} {N M : Heaplet}
variable {d : Nat} {ty t t' t2 e e2 : TypeId} {pos : String} {aft : Array Edge} {g : Option (Nat × Bool)} {v : Value} {x y z : Operand} {k : IntKind} {p q : Int} {b off : Nat}
theorem op_compU {a:UInt64} (s:NxF P n l E L Ls ⟨some d,.unOp .xor t x,ty,pos,aft,g⟩ X Y) (hx:ev l x=some (.int .u64 (a.toNat:Int))) (hn:Nat.ble (d+1) n=true) (h:At n ((d,.int .u64 ((~~~a).toNat:Int))::l) E L Y):At n l E L X:=
 op_val s (fun a' w hf _=>by
  simp only [execOp,hf.eval hx,Op.unary]
  have e:Op.intBits .xor .u64 (if IntKind.u64.signed=true then-1 else IntKind.u64.max) (a.toNat:Int)=(pure (.int .u64 ((~~~a).toNat:Int)):Sem Value):=by
   rw [intBits_xor, ←bits_comp_u64];rfl
  rw [e];rfl) rfl hn h
/-- copy into a block that is known whole. -/
theorem op_copyB {cs ys:List Value} {dl dc m cap':Nat} {ao':Option Addr} (s:Nx P n l E L ⟨some d,.call ⟨.builtin .copy, #[x,y], #[t,t2]⟩,ty,pos,aft,g⟩ X Y) (ht:selt P t=some (e,1))
 (hx:ev l x=some (.slice (some ⟨b,off,none⟩) dl dc)) (hy:ev l y=some (.slice ao' m cap')) (hb:Blk N b e2 cs) (hs:RSl M 1 ao' m cap' ys) (hM:M∈L) (h1: ∀u∈ys,u.oneCell'=true) (hfit:off+min m dl≤cs.length) (sel:L.Perm (N::L1)) (hn:Nat.ble (d+1) n=true)
 (h: ∀N',Blk N' b e2 (cs.take off++ys.take (min m dl)++cs.drop (off+min m dl))→At n ((d,.int .i64 ((min m dl:Nat):Int))::l) E (N'::L1) Y):At n l E L X:=by
 obtain⟨hu,i,hi,hsz⟩:=selt_spec ht
 have hlen:ys.length=m:=hs.len
 refine op_upd s (fun v L'=> ∃N',v=.int .i64 ((min m dl:Nat):Int)∧L'=N'::L1∧Blk N' b e2 (cs.take off++ys.take (min m dl)++cs.drop (off+min m dl))) (fun a w hf hw=>?_) rfl hn (fun v L' ⟨N',e1,e2,hb'⟩=>by subst e1 e2;exact h N' hb')
 have hw2:=hw.perm sel
 have hheap:=hw2.sub N (List.mem_cons_self ..) _ _ hb
 have hres: ∀u w',(Builtin.copy_ #[t,t2] ty #[.slice (some ⟨b,off,none⟩) dl dc,.slice ao' m cap']).run P w=.ok u w'→(execOp a.eval ⟨some d,.call ⟨.builtin .copy, #[x,y], #[t,t2]⟩,ty,pos,aft,g⟩).run P w=.ok (.value u) w':=fun u w' hr=>by
  simp only [execOp,resolve,invoke,builtin,Sem.run_bind,Sem.run_pure,Result.andThen_ok,List.map_toArray,List.map_cons,List.map_nil,hf.eval hx,hf.eval hy,hr]
 by_cases h0:min m dl=0
 ·have hr:=run_copy_none (P:=P) w t t2 ty e (some ⟨b,off,none⟩) ao' dl dc m cap' hu (by rw [hi];simp [hsz]) h0
  refine⟨_,w,N::L1,hres _ _ hr,hw2,N,by rw [h0];rfl,rfl,?_⟩
  rw [h0,List.take_zero,List.append_nil,Nat.add_zero,List.take_append_drop];exact hb
 ·obtain⟨b',off',rfl,hr'⟩:=hs.2.2.2 (by omega)
  have hsrc: ∀j v,(ys.take (min m dl))[j]? =some v→w.cell? ((⟨b',off',none⟩:Addr).add j)=some v:=fun j v hj=>by
   rw [List.getElem?_take]at hj
   split at hj
   ·obtain⟨hlt,rfl⟩:=List.getElem?_eq_some_iff.1 hj
    rw [addr_add];exact hw.cell hM (hr' j hlt)
   ·cases hj
  have hlt:(ys.take (min m dl)).length=min m dl:=by rw [List.length_take];omega
  have hr:=run_copy_row (P:=P) w t t2 ty e b off dl dc ⟨b',off',none⟩ m cap' cs.toArray e2 (ys.take (min m dl)) hu (by rw [hi];simp [hsz]) hheap (by rw [hlt]) hsrc (by rw [hlt];simpa using hfit) (fun u hu=>h1 u (List.mem_of_mem_take hu))
  rw [hlt]at hr
  refine⟨_,_,upd N b (.cells (cs.take off++ys.take (min m dl)++cs.drop (off+min m dl)).toArray e2 (0,0))::L1,hres _ _ hr,(hw2.put hb rfl rfl rfl ?_ (fun k hk _=>?_)),_,rfl,rfl,upd_self _ _ _⟩
  ·have:=setRow_heap w b cs.toArray (cs.take off++ys.take (min m dl)++cs.drop (off+min m dl)).toArray e2 (0,0) hheap
   simpa using this
  ·simp only [World.setRow,Array.getElem?_modify,if_neg (Ne.symm hk)]
/-! Functions as values. -/
inductive Cps (l:List (Nat×Value)):List Operand→List Value→Prop
 |nil:Cps l [] []
 |cons {x:Operand} {v:Value} {xs:List Operand} {vs:List Value} (h:ev l x=some v) (k:Cps l xs vs):Cps l (x::xs) (v::vs)
theorem Cps.map {xs:List Operand} {vs:List Value} (h:Cps l xs vs) {ds:List Deferred} {a:Act} (hf:Fr ds n l a):xs.map a.eval=vs:=by
 induction h with
 |nil=>rfl
 |cons hx _ ih=>rw [List.map_cons,hf.eval hx,ih]
theorem op_mkF {fn:Go.Fn} {first caps:List Operand} {fs cs:List Value} (s:NxF P n l E L Ls ⟨some d,.makeFunc fn first.toArray caps.toArray,ty,pos,aft,g⟩ X Y) (h1:Cps l first fs) (h2:Cps l caps cs) (hn:Nat.ble (d+1) n=true) (h:At n ((d,.func fn fs.toArray cs.toArray)::l) E L Y):At n l E L X:=
 op_val s (fun a w hf _=>by
  simp [execOp,Instr.makeFunc,List.map_toArray,h1.map hf,h2.map hf]) rfl hn h
theorem op_callV {f:FuncId} {fn:Func} {c:Operand} {xs:List Operand} {args caps:List Value} {ats:Array TypeId} {L0 Lr F:List Heaplet} {Post:Value→List Heaplet→Prop} (s:Nx P n l E L ⟨some d,.call ⟨.value c,xs.toArray,ats⟩,ty,pos,aft,g⟩ X Y)
 (hcv:ev l c=some (.func (.func f) #[] caps.toArray)) (ha:Evs l xs args) (hc:Fn P f (args++caps).toArray L0 Lr Post) (hfn:P.funcs[f]? =some fn) (hb:fn.body.isSome=true) (hne:(fn.name== "runtime.NumGoroutine")=false) (hL:L.Perm (L0++F)) (hr: ∀N∈Lr,N∈F) (hn:Nat.ble (d+1) n=true)
 (h: ∀v L1,Post v L1→At n ((d,v)::l) E (L1++F) Y):At n l E L X:=fun a w hf hw=>by
 refine s a w hf hw ?_
 unfold Oper.wp
 have hw2:=hw.perm hL
 have hrun:(execOp a.eval ⟨some d,.call ⟨.value c,xs.toArray,ats⟩,ty,pos,aft,g⟩).run P w=.ok (.enter f (args++caps).toArray) w:=by
  have hne':fn.name≠ "runtime.NumGoroutine" :=by simpa using hne
  have he:=hf.eval hcv
  have hap:args.toArray++caps.toArray=(args++caps).toArray:=by simp
  simp only [execOp,resolve,invoke,Sem.run_bind,Sem.run_pure,Result.andThen_ok,List.map_toArray,ha.map hf,he,Deferred.ofValue,Array.empty_append,hap,run_call hfn hb hne']
 rw [hrun]
 have hsep:=List.pairwise_append.1 hw2.sep
 let R:Heaplet:=fun k=>if ∃N∈L0,N k≠none then none else w.heap[k]?
 have hRw:R.le (whole w):=fun k o hk=>by
  simp only [R]at hk
  split at hk
  ·cases hk
  ·exact hk
 have hFR: ∀N∈F,N.le R:=fun N hN k o hk=>by
  have hno: ¬ ∃M∈L0,M k≠none:=by
   rintro⟨M,hM,hMk⟩
   rcases hsep.2.2 M hM N hN k with h|h
   ·exact hMk h
   ·rw [hk]at h;cases h
  simp only [R,if_neg hno]
  exact hw2.sub N (List.mem_append_right _ hN) k o hk
 have hwR:Hp E (L0++ [R]) w:=by
  refine⟨hw.os,hw.tape,hw.output,fun N hN=>?_,?_⟩
  ·rcases List.mem_append.1 hN with hN|hN
   ·exact hw2.sub N (List.mem_append_left _ hN)
   ·simp at hN;subst hN;exact hRw
  ·rw [List.pairwise_append]
   refine⟨hsep.1,by simp,fun A hA B hB k=>?_⟩
   simp at hB;subst hB
   by_cases hAk:A k=none
   ·exact .inl hAk
   ·exact .inr (if_pos ⟨A,hA,hAk⟩)
 refine Calls.mono (hc E w R hwR fun N hN=>hFR N (hr N hN)) ?_
 rintro e w' ⟨v,L1,rfl,hP,hw'⟩
 exact h v L1 hP _ _ (hf.put (Nat.le_of_ble_eq_true hn)) (hw'.refine hFR hsep.2.1)
end
end Go.Proofs.YtdpjbefeabokgaaGreat
/- The engine, part 13: longer lists of heaplets. For whatever program. No condition. -/
namespace Go.Proofs.YtdpjbefeabokgaaGreat
open Go
end Go.Proofs.YtdpjbefeabokgaaGreat
/- The engine, part 14: calls that give up by a panic; a frame that has deferred one call; recover. For whatever program. No condition. -/
namespace Go.Proofs.YtdpjbefeabokgaaGreat
open Go Go.RowKit
/-- A panic's chain. -/
def pnk (v:Value):List PanicEntry:= [{ v:=v,recovered:=false }]
/-- The end: a value, or a panic. -/
def DoneX (E:World) (R:Heaplet) (Post Pan:Value→List Heaplet→Prop) (e:Ending) (w':World):Prop:=
 (∃v L1,e=.returned v∧Post v L1∧Hp E (L1++ [R]) w')∨ ∃v L1,e=.panicked (pnk v)∧Pan v L1∧Hp E (L1++ [R]) w'
/-- A call that gives a value or panics. -/
def FnE (P:Program) (f:FuncId) (args:Array Value) (L0 Lr:List Heaplet) (Post Pan:Value→List Heaplet→Prop):Prop:=
 ∀(E w:World) (R:Heaplet),Hp E (L0++ [R]) w→(∀N∈Lr,N.le R)→Calls P f args w (DoneX E R Post Pan)
def bodyPostX (P:Program) (fn:Func) (E:World) (R:Heaplet) (Post Pan:Value→List Heaplet→Prop) (e:Exit) (a:Act) (w:World):Prop:=dfOf E= []→bodyPost P fn (DoneX E R Post Pan) e a w
section
variable {P : Program} {f : FuncId} {args : Array Value} {L0 Lr : List Heaplet} {Post Pan : Value → List Heaplet → Prop}
theorem Fn.x (h:Fn P f args L0 Lr Post):FnE P f args L0 Lr Post Pan:=fun E w R hw hr=>(h E w R hw hr).mono fun _ _ h=>.inl h
theorem FnE.fn (h:FnE P f args L0 Lr Post fun _ _=>False):Fn P f args L0 Lr Post:=fun E w R hw hr=>(h E w R hw hr).mono fun _ _ h=>by
 rcases h with h|⟨_,_,_,h,_⟩
 ·exact h
 ·exact h.elim
theorem FnE.mono {Post' Pan':Value→List Heaplet→Prop} (h:FnE P f args L0 Lr Post Pan) (hp: ∀v L,Post v L→Post' v L) (hq: ∀v L,Pan v L→Pan' v L):FnE P f args L0 Lr Post' Pan':=fun E w R hw hr=>
 (h E w R hw hr).mono fun _ _ h=>h.elim (fun⟨v,L1,he,hP,hh⟩=>.inl ⟨v,L1,he,hp _ _ hP,hh⟩) (fun⟨v,L1,he,hP,hh⟩=>.inr ⟨v,L1,he,hq _ _ hP,hh⟩)
theorem FnE.more {Lr':List Heaplet} (h:FnE P f args L0 Lr Post Pan) (hs: ∀N∈Lr,N∈Lr'):FnE P f args L0 Lr' Post Pan:=fun E w R hw hr=>h E w R hw fun N hN=>hr N (hs N hN)
theorem FnE.enter {vs:List Value} {fn:Func} {c:Code} {n:Nat} (hf:P.funcs[f]? =some fn) (hb:fn.body=some c) (hn:fn.ntmps=n) (hs:Nat.ble vs.length n=true)
 (h: ∀(E:World) (R:Heaplet),(∀N∈Lr,N.le R)→At n (slots 0 vs) E (L0++ [R]) (c.wp P (bodyPostX P fn E R Post Pan))):FnE P f vs.toArray L0 Lr Post Pan:=by
 intro E w R hw hr
 refine calls_of_wp hf hb ?_
 subst hn
 refine wp_body_mono ?_ (h (dfNo E) R hr _ _ (Fr.init (by simpa using hs) (fun i v hi=>by have:=(slots_get vs 0 i v hi).2;simpa using this)) (hw.env rfl rfl rfl))
 intro e a w hq
 exact bodyPost_mono (fun e w h=>h.elim (fun⟨v,L1,h1,h2,h3⟩=>.inl ⟨v,L1,h1,h2,h3.env rfl rfl rfl⟩) (fun⟨v,L1,h1,h2,h3⟩=>.inr ⟨v,L1,h1,h2,h3.env rfl rfl rfl⟩)) (hq (dfOf_no E))
end
section
variable {P : Program} {n : Nat} {l l' : List (Nat × Value)} {E : World} {L L' L1 L2 : List Heaplet} {K K' : Act → World → Prop} {Q : Exit → Act → World → Prop}
variable {fn : Func} {R : Heaplet} {Post Pan : Value → List Heaplet → Prop} {ops : Array Oper} {rest : List Oper} {d : Nat} {ty : TypeId} {pos : String} {aft : Array Edge} {v : Value}
/-- What is not used up by a call, as one heaplet. -/
theorem Hp.apartRest {L0 F:List Heaplet} {w:World} (hw:Hp E (L0++F) w): ∃R:Heaplet,Hp E (L0++ [R]) w∧(∀N∈F,N.le R)∧F.Pairwise Apart:=by
 have hsep:=List.pairwise_append.1 hw.sep
 refine⟨fun k=>if ∃N∈L0,N k≠none then none else w.heap[k]?,⟨hw.os,hw.tape,hw.output,fun N hN=>?_,?_⟩,fun N hN k o hk=>?_,hsep.2.1⟩
 ·rcases List.mem_append.1 hN with hN|hN
  ·exact hw.sub N (List.mem_append_left _ hN)
  ·simp at hN;subst hN
   intro k o hk
   simp only at hk
   split at hk
   ·cases hk
   ·exact hk
 ·rw [List.pairwise_append]
  refine⟨hsep.1,by simp,fun A hA B hB k=>?_⟩
  simp at hB;subst hB
  by_cases hAk:A k=none
  ·exact .inl hAk
  ·exact .inr (if_pos ⟨A,hA,hAk⟩)
 ·have hno: ¬ ∃M∈L0,M k≠none:=by
   rintro⟨M,hM,hMk⟩
   rcases hsep.2.2 M hM N hN k with h|h
   ·exact hMk h
   ·rw [hk]at h;cases h
  simp only [if_neg hno]
  exact hw.sub N (List.mem_append_right _ hN) k o hk
end
/-- The deferred closure, where the frame below panics: it recovers; where it returns: nothing is done. -/
def FnRec (P:Program) (f:FuncId) (args:Array Value) (v:Value) (L0:List Heaplet) (Post:List Heaplet→Prop):Prop:=
 ∀(E w:World) (R:Heaplet),Hp E (L0++ [R]) w→CallsD P f args (.panicking (pnk v)) w fun e u' w'=>u'=.panicking [{ v:=v,recovered:=true }]∧ ∃x L1,e=.returned x∧Post L1∧Hp E (L1++ [R]) w'
def FnRet (P:Program) (f:FuncId) (args:Array Value):Prop:=
 ∀(E w:World) (L:List Heaplet),Hp E L w→CallsD P f args .returning w fun e u' w'=>u'=.returning∧ ∃x,e=.returned x∧Hp E L w'
section
variable {P : Program} {n : Nat} {l : List (Nat × Value)} {E : World} {L L0 F : List Heaplet} {fn : Func} {R : Heaplet} {Post : Value → List Heaplet → Prop} {v : Value}
end
section
variable {P : Program} {f : FuncId} {fn : Func} {c : Code} {vs : List Value} {n d d2 id : Nat} {ats : Array TypeId} {ty ty2 : TypeId} {pos pos2 : String} {aft aft2 : Array Edge}
theorem rec_ops {Q:Exit→Act→List Frame→World→Prop} {ops:Array Oper} {a:Act} {cs cs':List Frame} {w:World} {v:Value}
 (hops:ops= #[⟨some d,.call ⟨.builtin .recover, #[],ats⟩,ty,pos,aft,none⟩,⟨some d2,.assign (.tmp d),ty2,pos2,aft2,none⟩])
 (hr:recoverD cs=some (v,cs')∨(recoverD cs=none∧v=.nilIface∧cs'=cs)) (hd:d<a.tmps.size)
 (h:Q .normal ((a.put (some d) v).put (some d2) v) cs' w):wpOpsS P ops Q (List.range ops.size) a cs w:=by
 subst hops
 have e1:(execOp a.eval ⟨some d,.call ⟨.builtin .recover, #[],ats⟩,ty,pos,aft,none⟩).run P w=.ok .recover w:=by
  simp [execOp,resolve,invoke,builtin]
 have e2:((a.put (some d) v).eval (.tmp d))=v:=by
  simp [Act.put,Act.eval,Array.getD_eq_getD_getElem?,hd]
 have w1:Region.wanted (⟨some d,.call ⟨.builtin .recover, #[],ats⟩,ty,pos,aft,none⟩:Oper) (yielded #[⟨some d,.call ⟨.builtin .recover, #[],ats⟩,ty,pos,aft,none⟩,⟨some d2,.assign (.tmp d),ty2,pos2,aft2,none⟩] a.tmps)=true:=by simp [Region.wanted]
 have hlast:wpOpsS P #[⟨some d,.call ⟨.builtin .recover, #[],ats⟩,ty,pos,aft,none⟩,⟨some d2,.assign (.tmp d),ty2,pos2,aft2,none⟩] Q [1] (a.put (some d) v) cs' w:=by
  have w2:Region.wanted (⟨some d2,.assign (.tmp d),ty2,pos2,aft2,none⟩:Oper) (yielded #[⟨some d,.call ⟨.builtin .recover, #[],ats⟩,ty,pos,aft,none⟩,⟨some d2,.assign (.tmp d),ty2,pos2,aft2,none⟩] (a.put (some d) v).tmps)=true:=by simp [Region.wanted]
  simp only [wpOpsS,List.getElem?_toArray,List.getElem?_cons_succ,List.getElem?_cons_zero,w2,if_true]
  simp only [execOp,e2,Sem.run_pure]
  exact h
 show wpOpsS P _ Q [0,1] a cs w
 rw [wpOpsS]
 simp only [List.getElem?_toArray,List.getElem?_cons_zero,w1,if_true,e1]
 rcases hr with hr|⟨hr,rfl,rfl⟩
 ·rw [hr];exact hlast
 ·rw [hr];exact hlast
theorem Fr.two {v:Value} (hn:fn.ntmps=n) (hs:Nat.ble vs.length n=true) (h1:Nat.ble (d+1) n=true) (h2:Nat.ble (d2+1) n=true):
 Fr [] n ((d2,v)::(d,v)::slots 0 vs) (({ tmps:=vs.toArray++Array.replicate (fn.ntmps- vs.toArray.size) undef,defers:= [] } :Act).put (some d) v |>.put (some d2) v):=by
 subst hn
 have h0:Fr [] fn.ntmps (slots 0 vs) { tmps:=vs.toArray++Array.replicate (fn.ntmps- vs.toArray.size) undef,defers:= [] } :=
  Fr.init (by simpa using hs) (fun i v hi=>by have:=(slots_get vs 0 i v hi).2;simpa using this)
 exact(h0.put (Nat.le_of_ble_eq_true h1)).put (Nat.le_of_ble_eq_true h2)
theorem FnRec.enter {v:Value} {L0:List Heaplet} {PostC:List Heaplet→Prop} (hf:P.funcs[f]? =some fn)
 (hb:fn.body=some (Code.seq (Code.region id #[⟨some d,.call ⟨.builtin .recover, #[],ats⟩,ty,pos,aft,none⟩,⟨some d2,.assign (.tmp d),ty2,pos2,aft2,none⟩] false) c)) (hn:fn.ntmps=n) (hs:Nat.ble vs.length n=true) (h1:Nat.ble (d+1) n=true) (h2:Nat.ble (d2+1) n=true)
 (h: ∀(E:World) (R:Heaplet),At n ((d2,v)::(d,v)::slots 0 vs) E (L0++ [R]) (c.wp P (bodyPostE P fn E R fun _ L=>PostC L))):FnRec P f vs.toArray v L0 PostC:=by
 intro E w R hw
 refine callsD_of_wpS hf hb fun c₀ cs hu=>?_
 apply wpS_seq
 apply wpS_region
 have hfr:=Fr.two (d:=d) (d2:=d2) (v:=v) hn hs h1 h2
 refine rec_ops (v:=v) (cs':= { c₀ with mode:=.panicking [{ v:=v,recovered:=true }] } ::cs) rfl (.inl (by simp [recoverD,hu,pnk])) ?_ ?_
 ·have:=Nat.le_of_ble_eq_true h1
  have hs':vs.length≤n:=Nat.le_of_ble_eq_true hs
  simp;omega
 show Code.wpS P c _ _ _ _
 refine wpS_of_wp (wp_body_mono ?_ (h (dfNo E) R _ w hfr (hw.env rfl rfl rfl)))
 intro e a w' hq
 have hq:=hq (dfOf_no E)
 cases e with
 |normal=>obtain⟨hd,x,h3,y,L1,h4,h5,h6⟩:=hq;exact⟨hd,_,rfl,x,h3,rfl,y,L1,h4,h5,h6.env rfl rfl rfl⟩
 |ret=>obtain⟨hd,x,h3,y,L1,h4,h5,h6⟩:=hq;exact⟨hd,_,rfl,x,h3,rfl,y,L1,h4,h5,h6.env rfl rfl rfl⟩
 |panic ch=>obtain⟨hd,y,L1,h4,_⟩:=hq;cases h4
 |exit id=>exact hq
 |goto l=>exact hq
 |outgrown=>obtain⟨y,L1,h4,_⟩:=hq;cases h4
theorem FnRet.enter (hf:P.funcs[f]? =some fn)
 (hb:fn.body=some (Code.seq (Code.region id #[⟨some d,.call ⟨.builtin .recover, #[],ats⟩,ty,pos,aft,none⟩,⟨some d2,.assign (.tmp d),ty2,pos2,aft2,none⟩] false) c)) (hn:fn.ntmps=n) (hs:Nat.ble vs.length n=true) (h1:Nat.ble (d+1) n=true) (h2:Nat.ble (d2+1) n=true)
 (h: ∀(E:World) (R:Heaplet),At n ((d2,.nilIface)::(d,.nilIface)::slots 0 vs) E [R] (c.wp P (bodyPostE P fn E R fun _ L=>L= []))):FnRet P f vs.toArray:=by
 intro E w L hw
 obtain⟨R,hR,hle,hsep⟩:=Hp.apartRest (L0:= []) (F:=L) hw
 refine callsD_of_wpS hf hb fun c₀ cs hu=>?_
 apply wpS_seq
 apply wpS_region
 have hfr:=Fr.two (d:=d) (d2:=d2) (v:=.nilIface) hn hs h1 h2
 refine rec_ops (v:=.nilIface) (cs':=c₀::cs) rfl (.inr ⟨by simp [recoverD,hu],rfl,rfl⟩) ?_ ?_
 ·have:=Nat.le_of_ble_eq_true h1
  have hs':vs.length≤n:=Nat.le_of_ble_eq_true hs
  simp;omega
 show Code.wpS P c _ _ _ _
 refine wpS_of_wp (wp_body_mono ?_ (h (dfNo E) R _ w hfr (hR.env rfl rfl rfl)))
 intro e a w' hq
 have hq:=hq (dfOf_no E)
 have hc:c₀= { c₀ with mode:=.returning } :=by cases c₀;simp_all
 cases e with
 |normal=>obtain⟨hd,x,h3,y,L1,h4,rfl,h6⟩:=hq;exact⟨hd,.returning,by rw [←hc],x,h3,rfl,y,h4,Hp.refine (L:= []) (h6.env rfl rfl rfl) hle hsep⟩
 |ret=>obtain⟨hd,x,h3,y,L1,h4,rfl,h6⟩:=hq;exact⟨hd,.returning,by rw [←hc],x,h3,rfl,y,h4,Hp.refine (L:= []) (h6.env rfl rfl rfl) hle hsep⟩
 |panic ch=>obtain⟨hd,y,L1,h4,_⟩:=hq;cases h4
 |exit id=>exact hq
 |goto l=>exact hq
 |outgrown=>obtain⟨y,L1,h4,_⟩:=hq;cases h4
end
end Go.Proofs.YtdpjbefeabokgaaGreat
