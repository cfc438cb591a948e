/- Several texts in one: see the remarks ahead of each part. No condition but those told there. -/
import Derived.Test.YtalmjkcapecpiaaGreatX1
import Derived.Test.YtalmjkcapecpiaaGreatX4
import Derived.Test.YtalmjkcapecpiaaGreatX6
import Derived.Test.YtalmjkcapecpiaaGreatX5
set_option linter.unusedSimpArgs false
set_option linter.unusedVariables false
namespace Go.Proofs.YtalmjkcapecpiaaGreat
open Go
theorem sel13 {A0 A1 A2 A3 A4 A5 A6 A7 A8 A9 A10 A11 A12 A13:Heaplet} {L:List Heaplet} :(A1::A2::A3::A4::A5::A6::A7::A8::A9::A10::A11::A12::A13::A0::L).Perm (A0::A1::A2::A3::A4::A5::A6::A7::A8::A9::A10::A11::A12::A13::L):=(List.Perm.cons _ sel12).trans (.swap _ _ _)
theorem dI {n:Nat} {l:List (Nat×Value)} {E:World} {K:Act→World→Prop} {L:List Heaplet} {A0 A1 A2 A3 A4 A5 A6 A7 A8 A9 A10 A11 A12 A13:Heaplet} (h:At n l E (A0::A1::A2::A3::A4::A5::A6::A7::A8::A9::A10::A11::A12::A13::L) K):At n l E (A1::A2::A3::A4::A5::A6::A7::A8::A9::A10::A11::A12::A13::A0::L) K:=At.perm sel13 h
theorem sel14 {A0 A1 A2 A3 A4 A5 A6 A7 A8 A9 A10 A11 A12 A13 A14:Heaplet} {L:List Heaplet} :(A1::A2::A3::A4::A5::A6::A7::A8::A9::A10::A11::A12::A13::A14::A0::L).Perm (A0::A1::A2::A3::A4::A5::A6::A7::A8::A9::A10::A11::A12::A13::A14::L):=(List.Perm.cons _ sel13).trans (.swap _ _ _)
theorem permSel14 {n:Nat} {l:List (Nat×Value)} {E:World} {K:Act→World→Prop} {L:List Heaplet} {A0 A1 A2 A3 A4 A5 A6 A7 A8 A9 A10 A11 A12 A13 A14:Heaplet} (h:At n l E (A0::A1::A2::A3::A4::A5::A6::A7::A8::A9::A10::A11::A12::A13::A14::L) K):At n l E (A1::A2::A3::A4::A5::A6::A7::A8::A9::A10::A11::A12::A13::A14::A0::L) K:=At.perm sel14 h
theorem sel15 {A0 A1 A2 A3 A4 A5 A6 A7 A8 A9 A10 A11 A12 A13 A14 A15:Heaplet} {L:List Heaplet} :(A1::A2::A3::A4::A5::A6::A7::A8::A9::A10::A11::A12::A13::A14::A15::A0::L).Perm (A0::A1::A2::A3::A4::A5::A6::A7::A8::A9::A10::A11::A12::A13::A14::A15::L):=(List.Perm.cons _ sel14).trans (.swap _ _ _)
theorem permSel15 {n:Nat} {l:List (Nat×Value)} {E:World} {K:Act→World→Prop} {L:List Heaplet} {A0 A1 A2 A3 A4 A5 A6 A7 A8 A9 A10 A11 A12 A13 A14 A15:Heaplet} (h:At n l E (A0::A1::A2::A3::A4::A5::A6::A7::A8::A9::A10::A11::A12::A13::A14::A15::L) K):At n l E (A1::A2::A3::A4::A5::A6::A7::A8::A9::A10::A11::A12::A13::A14::A15::A0::L) K:=At.perm sel15 h
theorem sel16 {A0 A1 A2 A3 A4 A5 A6 A7 A8 A9 A10 A11 A12 A13 A14 A15 A16:Heaplet} {L:List Heaplet} :(A1::A2::A3::A4::A5::A6::A7::A8::A9::A10::A11::A12::A13::A14::A15::A16::A0::L).Perm (A0::A1::A2::A3::A4::A5::A6::A7::A8::A9::A10::A11::A12::A13::A14::A15::A16::L):=(List.Perm.cons _ sel15).trans (.swap _ _ _)
theorem cI {n:Nat} {l:List (Nat×Value)} {E:World} {K:Act→World→Prop} {L:List Heaplet} {A0 A1 A2 A3 A4 A5 A6 A7 A8 A9 A10 A11 A12 A13 A14 A15 A16:Heaplet} (h:At n l E (A0::A1::A2::A3::A4::A5::A6::A7::A8::A9::A10::A11::A12::A13::A14::A15::A16::L) K):At n l E (A1::A2::A3::A4::A5::A6::A7::A8::A9::A10::A11::A12::A13::A14::A15::A16::A0::L) K:=At.perm sel16 h
theorem sel17 {A0 A1 A2 A3 A4 A5 A6 A7 A8 A9 A10 A11 A12 A13 A14 A15 A16 A17:Heaplet} {L:List Heaplet} :(A1::A2::A3::A4::A5::A6::A7::A8::A9::A10::A11::A12::A13::A14::A15::A16::A17::A0::L).Perm (A0::A1::A2::A3::A4::A5::A6::A7::A8::A9::A10::A11::A12::A13::A14::A15::A16::A17::L):=(List.Perm.cons _ sel16).trans (.swap _ _ _)
theorem cP {n:Nat} {l:List (Nat×Value)} {E:World} {K:Act→World→Prop} {L:List Heaplet} {A0 A1 A2 A3 A4 A5 A6 A7 A8 A9 A10 A11 A12 A13 A14 A15 A16 A17:Heaplet} (h:At n l E (A0::A1::A2::A3::A4::A5::A6::A7::A8::A9::A10::A11::A12::A13::A14::A15::A16::A17::L) K):At n l E (A1::A2::A3::A4::A5::A6::A7::A8::A9::A10::A11::A12::A13::A14::A15::A16::A17::A0::L) K:=At.perm sel17 h
theorem sel18 {A0 A1 A2 A3 A4 A5 A6 A7 A8 A9 A10 A11 A12 A13 A14 A15 A16 A17 A18:Heaplet} {L:List Heaplet} :(A1::A2::A3::A4::A5::A6::A7::A8::A9::A10::A11::A12::A13::A14::A15::A16::A17::A18::A0::L).Perm (A0::A1::A2::A3::A4::A5::A6::A7::A8::A9::A10::A11::A12::A13::A14::A15::A16::A17::A18::L):=(List.Perm.cons _ sel17).trans (.swap _ _ _)
theorem permSel18 {n:Nat} {l:List (Nat×Value)} {E:World} {K:Act→World→Prop} {L:List Heaplet} {A0 A1 A2 A3 A4 A5 A6 A7 A8 A9 A10 A11 A12 A13 A14 A15 A16 A17 A18:Heaplet} (h:At n l E (A0::A1::A2::A3::A4::A5::A6::A7::A8::A9::A10::A11::A12::A13::A14::A15::A16::A17::A18::L) K):At n l E (A1::A2::A3::A4::A5::A6::A7::A8::A9::A10::A11::A12::A13::A14::A15::A16::A17::A18::A0::L) K:=At.perm sel18 h
theorem mem14 {A0 A1 A2 A3 A4 A5 A6 A7 A8 A9 A10 A11 A12 A13 A14:Heaplet} {L:List Heaplet} :A0∈A1::A2::A3::A4::A5::A6::A7::A8::A9::A10::A11::A12::A13::A14::A0::L:=List.Mem.tail _ mem13
theorem mem15 {A0 A1 A2 A3 A4 A5 A6 A7 A8 A9 A10 A11 A12 A13 A14 A15:Heaplet} {L:List Heaplet} :A0∈A1::A2::A3::A4::A5::A6::A7::A8::A9::A10::A11::A12::A13::A14::A15::A0::L:=List.Mem.tail _ mem14
theorem mem16 {A0 A1 A2 A3 A4 A5 A6 A7 A8 A9 A10 A11 A12 A13 A14 A15 A16:Heaplet} {L:List Heaplet} :A0∈A1::A2::A3::A4::A5::A6::A7::A8::A9::A10::A11::A12::A13::A14::A15::A16::A0::L:=List.Mem.tail _ mem15
theorem mem17 {A0 A1 A2 A3 A4 A5 A6 A7 A8 A9 A10 A11 A12 A13 A14 A15 A16 A17:Heaplet} {L:List Heaplet} :A0∈A1::A2::A3::A4::A5::A6::A7::A8::A9::A10::A11::A12::A13::A14::A15::A16::A17::A0::L:=List.Mem.tail _ mem16
open Go Go.RowKit
open Go.Maps (Keyed)
set_option maxRecDepth 100000
theorem kd33:Keyed Tryz.prog 33:=Keyed.of_law (deep_law_laid (m:=3) (by kernel_rfl) (by decide) (of_decide_eq_true (by kernel_rfl)) (by kernel_rfl) (by kernel_rfl))
theorem kd36:Keyed Tryz.prog 36:=Keyed.of_law (deep_law_laid (m:=3) (by kernel_rfl) (by decide) (of_decide_eq_true (by kernel_rfl)) (by kernel_rfl) (by kernel_rfl))
theorem kd105:Keyed Tryz.prog 105:=Keyed.of_law (deep_law_laid (m:=4) (by kernel_rfl) (by decide) (of_decide_eq_true (by kernel_rfl)) (by kernel_rfl) (by kernel_rfl))
theorem cY (l:List UInt8):(u8s l).length=l.length:=by simp [u8s]
theorem u64s_lenS (l:List UInt64):(u64s l).length=l.length:=by simp [u64s]
theorem u8_wf (x:UInt8):(Lit.int .u8 (x.toNat:Int)).wf=true:=by
 have:=x.toNat_lt
 simp [Lit.wf,IntKind.min,IntKind.max,IntKind.signed,IntKind.bits]
 omega
theorem u64_wf (x:UInt64):(Lit.int .u64 (x.toNat:Int)).wf=true:=by
 have:=x.toNat_lt
 simp [Lit.wf,IntKind.min,IntKind.max,IntKind.signed,IntKind.bits]
 omega
theorem mapM_some {α β:Type} {f:α→Option β} : ∀ {is:List α},(∀i∈is, ∃y,f i=some y)→ ∃ls,is.mapM f=some ls
 | [],_=>⟨[],rfl⟩
 |i::t,h=>by
  obtain⟨y,hy⟩:=h i List.mem_cons_self
  obtain⟨ls,hls⟩:=mapM_some (is:=t) fun j hj=>h j (List.mem_cons_of_mem _ hj)
  exact⟨y::ls,by rw [List.mapM_cons,hy,hls];rfl⟩
theorem cell_8 {a:List UInt8} {i:Nat} (h:i<a.length):((u8s a).drop (i*1)).take 1= [.int .u8 ((a.getD i 0).toNat:Int)]:=by
 have:=get8 h
 obtain⟨h1,h2⟩:=List.getElem?_eq_some_iff.1 this
 rw [Nat.mul_one,List.drop_eq_getElem_cons h1,List.take_succ_cons,List.take_zero,h2]
theorem cell_64 {a:List UInt64} {i:Nat} (h:i<a.length):((u64s a).drop (i*1)).take 1= [.int .u64 ((a.getD i 0).toNat:Int)]:=by
 have:=get64 h
 obtain⟨h1,h2⟩:=List.getElem?_eq_some_iff.1 this
 rw [Nat.mul_one,List.drop_eq_getElem_cons h1,List.take_succ_cons,List.take_zero,h2]
theorem lits_8 {d:Nat} (x:UInt8):Tryz.prog.keyLits (d+1) 5 [.int .u8 (x.toNat:Int)]=some [.int .u8 (x.toNat:Int)]:=by
 simp [Program.keyLits,Tryz.underlying5,u8_wf]
theorem lits_64 {d:Nat} (x:UInt64):Tryz.prog.keyLits (d+1) 34 [.int .u64 (x.toNat:Int)]=some [.int .u64 (x.toNat:Int)]:=by
 simp [Program.keyLits,Tryz.underlying34,u64_wf]
theorem lits_addr {d:Nat} {a:List UInt8} (h:a.length=20): ∃ls,Tryz.prog.keyLits (d+2) 33 (u8s a)=some ls:=by
 have hc:Tryz.prog.cellsOf 33=20:=by kernel_rfl
 have hc1:Tryz.prog.cellsOf 5=1:=by kernel_rfl
 obtain⟨ls,hls⟩:=mapM_some (f:=fun i=>Tryz.prog.keyLits (d+1) 5 (((u8s a).drop (i*1)).take 1)) (is:=List.range 20) fun i hi=>⟨_,by rw [cell_8 (by have:=List.mem_range.1 hi;omega)];exact lits_8 _⟩
 refine⟨ls.flatten,?_⟩
 rw [Program.keyLits.eq_def]
 simp only [Tryz.underlying33]
 rw [if_pos (by rw [cY,hc,h]),hc1,hls]
 rfl
theorem lits_word {d:Nat} {a:List UInt64} (h:a.length=4): ∃ls,Tryz.prog.keyLits (d+2) 36 (u64s a)=some ls:=by
 have hc:Tryz.prog.cellsOf 36=4:=by kernel_rfl
 have hc1:Tryz.prog.cellsOf 34=1:=by kernel_rfl
 obtain⟨ls,hls⟩:=mapM_some (f:=fun i=>Tryz.prog.keyLits (d+1) 34 (((u64s a).drop (i*1)).take 1)) (is:=List.range 4) fun i hi=>⟨_,by rw [cell_64 (by have:=List.mem_range.1 hi;omega)];exact lits_64 _⟩
 refine⟨ls.flatten,?_⟩
 rw [Program.keyLits.eq_def]
 simp only [Tryz.underlying36]
 rw [if_pos (by rw [u64s_lenS,hc,h]),hc1,hls]
 rfl
theorem lits_place {d:Nat} {a:List UInt8} {k:List UInt64} (h:a.length=20) (hk:k.length=4): ∃ls,Tryz.prog.keyLits (d+3) 105 (u8s a++u64s k)=some ls:=by
 have hc:Tryz.prog.cellsOf 105=24:=by kernel_rfl
 have h1:Tryz.prog.cellsOf 33=20:=by kernel_rfl
 have h2:Tryz.prog.cellsOf 36=4:=by kernel_rfl
 obtain⟨l1,e1⟩:=lits_addr (d:=d) h
 obtain⟨l2,e2⟩:=lits_word (d:=d) hk
 have t1:((u8s a++u64s k).drop 0).take 20=u8s a:=by rw [List.drop_zero,List.take_left' (by rw [cY,h])]
 have t2:((u8s a++u64s k).drop 20).take 4=u64s k:=by
  rw [List.drop_left' (by rw [cY,h]),List.take_of_length_le (by rw [u64s_lenS,hk];exact Nat.le_refl _)]
 refine⟨[l1,l2].flatten,?_⟩
 rw [Program.keyLits.eq_def]
 simp only [Tryz.underlying105]
 rw [if_pos ⟨by rw [List.length_append,cY,u64s_lenS,hc,h,hk],by simp⟩]
 rw [List.drop_zero]at t1
 simp [List.mapM_cons,h1,h2,t1,t2,e1,e2]
theorem key_of {t:TypeId} {cs:List Value} {ls:List Lit} (hd:(match Tryz.prog.underlying t with|some (.array _ _)|some (.struct _)=>true|_=>false)=true) (hk:Tryz.prog.keyType t=true) (hc:cs.length=Tryz.prog.cellsOf t) (hl:Tryz.prog.keyLits (Tryz.prog.types.size+1) t cs=some ls):keyOf Tryz.prog t (.agg cs.toArray)=some (.string (keyBytes ls)):=by
 unfold keyOf
 have hf:Value.formed Tryz.prog t (.agg cs.toArray)=true:=by
  simp only [Value.formed]
  split at hd<;>simp_all
 split at hd
 ·rename_i e;rw [e];simp only;rw [if_pos (by rw [hk,hf];rfl)]
  show(Tryz.prog.keyLits (Tryz.prog.types.size+1) t cs).map _=_
  rw [hl];rfl
 ·rename_i e;rw [e];simp only;rw [if_pos (by rw [hk,hf];rfl)]
  show(Tryz.prog.keyLits (Tryz.prog.types.size+1) t cs).map _=_
  rw [hl];rfl
 ·cases hd
theorem types_big: ∃m,Tryz.prog.types.size+1=m+3:=⟨Tryz.prog.types.size- 2,by have:2<Tryz.prog.types.size:=of_decide_eq_true (by kernel_rfl);omega⟩
noncomputable def keyA (a:List UInt8):Lit:=(keyOf Tryz.prog 33 (.agg (u8s a).toArray)).getD (.bool true)
noncomputable def keyW (x:Nat):Lit:=(keyOf Tryz.prog 36 (.agg (u64s (wl x)).toArray)).getD (.bool true)
noncomputable def keyP (a:List UInt8) (x:Nat):Lit:=(keyOf Tryz.prog 105 (.agg (u8s a++u64s (wl x)).toArray)).getD (.bool true)
theorem keyA_spec {a:List UInt8} (h:a.length=20):keyOf Tryz.prog 33 (.agg (u8s a).toArray)=some (keyA a):=by
 obtain⟨m,hm⟩:=types_big
 obtain⟨ls,hls⟩:=lits_addr (d:=m+1) h
 rw [keyA,key_of (by kernel_rfl) (by kernel_rfl) (by rw [cY,h];kernel_rfl) (by rw [hm];exact hls)];rfl
theorem keyW_spec (x:Nat):keyOf Tryz.prog 36 (.agg (u64s (wl x)).toArray)=some (keyW x):=by
 obtain⟨m,hm⟩:=types_big
 obtain⟨ls,hls⟩:=lits_word (d:=m+1) (length_wl x)
 rw [keyW,key_of (by kernel_rfl) (by kernel_rfl) (by rw [u64s_lenS,length_wl];kernel_rfl) (by rw [hm];exact hls)];rfl
theorem keyP_spec {a:List UInt8} (h:a.length=20) (x:Nat):keyOf Tryz.prog 105 (.agg (u8s a++u64s (wl x)).toArray)=some (keyP a x):=by
 obtain⟨m,hm⟩:=types_big
 obtain⟨ls,hls⟩:=lits_place (d:=m) h (length_wl x)
 rw [keyP,key_of (by kernel_rfl) (by kernel_rfl) (by rw [List.length_append,cY,u64s_lenS,h,length_wl];kernel_rfl) (by rw [hm];exact hls)];rfl
theorem u8s_injS {a b:List UInt8} (h:u8s a=u8s b):a=b:=by
 have hl:a.length=b.length:=by rw [←cY a,h,cY]
 apply List.ext_getElem hl
 intro i h1 h2
 have e1:=get8 (bs:=a) (j:=i) h1
 have e2:=get8 (bs:=b) (j:=i) h2
 rw [h,e2]at e1
 simp only [Option.some.injEq,Value.int.injEq,true_and]at e1
 rw [List.getD_eq_getElem?_getD,List.getD_eq_getElem?_getD,List.getElem?_eq_getElem h1,List.getElem?_eq_getElem h2,Option.getD_some,Option.getD_some]at e1
 exact UInt8.toNat_inj.1 (by omega)
theorem u64s_injS {a b:List UInt64} (h:u64s a=u64s b):a=b:=by
 have hl:a.length=b.length:=by rw [←u64s_lenS a,h,u64s_lenS]
 apply List.ext_getElem hl
 intro i h1 h2
 have e1:=get64 (bs:=a) (j:=i) h1
 have e2:=get64 (bs:=b) (j:=i) h2
 rw [h,e2]at e1
 simp only [Option.some.injEq,Value.int.injEq,true_and]at e1
 rw [List.getD_eq_getElem?_getD,List.getD_eq_getElem?_getD,List.getElem?_eq_getElem h1,List.getElem?_eq_getElem h2,Option.getD_some,Option.getD_some]at e1
 exact UInt64.toNat_inj.1 (by omega)
theorem agg_injS {a b:List Value} (h:Value.agg a.toArray=Value.agg b.toArray):a=b:=by
 injection h with h
 exact List.toArray_inj h
def okAd (a:List UInt8):Prop:=a.length=20
def okWd (x:Nat):Prop:=x<WW
theorem keE_A:KeyE keyA okAd:=⟨fun a b ha hb h=>u8s_injS (agg_injS (kd33.inj (keyA_spec ha) (by rw [h];exact keyA_spec hb))),fun a ha=>kd33.key (keyA_spec ha)⟩
theorem wl_injS {x y:Nat} (hx:x<WW) (hy:y<WW) (h:wl x=wl y):x=y:=by
 rw [←v64_wl_lt hx, ←v64_wl_lt hy,h]
theorem keE_W:KeyE keyW okWd:=⟨fun a b ha hb h=>wl_injS ha hb (u64s_injS (agg_injS (kd36.inj (keyW_spec a) (by rw [h];exact keyW_spec b)))),fun a _=>kd36.key (keyW_spec a)⟩
section
variable {P : Program} {n : Nat} {l : List (Nat × Value)} {E : World} {L L1 Ls Ns : List Heaplet} {o : Oper} {X Y : Act → World → Prop} {N : Heaplet}
variable {d : Nat} {ty t t' e : TypeId} {pos : String} {aft : Array Edge} {g : Option (Nat × Bool)} {v : Value} {x y z : Operand} {k : IntKind} {p q : Int} {size len cap : Nat} {ao : Option Addr} {xs : List Value} {b off j : Nat}
theorem At.ex {K:Act→World→Prop} {φ:Heaplet→Prop} (hφ: ∀J:Heaplet,(∀N∈Ns,N.le J)→φ J) (hN: ∀N∈Ns,N∈L) (h: ∀J,φ J→At n l E L K):At n l E L K:=fun a w hf hw=>
 h (whole w) (hφ (whole w) fun N hn=>hw.sub N (hN N hn)) a w hf hw
end
def stK (ma mt mm mw md ws tr og:Nat) (rf:UInt64) (lg un mk:Value) (tl:Int):List Value:= [.map (some ma),.map (some mt),.map (some mm),.map (some mw),.map (some md),.map (some ws),.map (some tr),.map (some og),.int .u64 (rf.toNat:Int),lg,un,mk,.int .i64 tl]
def unitV (_:Unit):Value:=.agg #[]
def wordV (x:Nat):Value:=.agg (u64s (wl x)).toArray
theorem bJ {cs:List Value} {k:Nat} (h:cs.length=k):(cs.drop 0).take k=cs:=by rw [List.drop_zero,List.take_of_length_le (by omega)]
noncomputable def keyPP (p:List UInt8×Nat):Lit:=keyP p.1 p.2
def okPl (p:List UInt8×Nat):Prop:=p.1.length=20∧p.2<WW
section
variable {NS NU Nm : Heaplet} {sp ma mt mm mw md ws tr og : Nat} {rf : UInt64} {lg mk : Value} {tl : Int} {ua : Option Addr} {un uc : Nat} {us : List Value} {f : FuncId} {caps : Array Value}
theorem st_un {u v:Value} :setL (stK ma mt mm mw md ws tr og rf lg u mk tl) (0+1+9) [v]=stK ma mt mm mw md ws tr og rf lg v mk tl:=rfl
theorem st_lg {u v:Value} :setL (stK ma mt mm mw md ws tr og rf lg u mk tl) (0+1+8) [v]=stK ma mt mm mw md ws tr og rf v u mk tl:=rfl
theorem st_rf {u:Value} {x:UInt64} :setL (stK ma mt mm mw md ws tr og rf lg u mk tl) (0+1+7) [.int .u64 (x.toNat:Int)]=stK ma mt mm mw md ws tr og x lg u mk tl:=rfl
theorem st_mk {u v:Value} :setL (stK ma mt mm mw md ws tr og rf lg u mk tl) (0+1+10) [v]=stK ma mt mm mw md ws tr og rf lg u v tl:=rfl
theorem keE_P:KeyE keyPP okPl:=⟨fun a b ha hb h=>by
 have e:=agg_injS (kd105.inj (keyP_spec ha.1 a.2) (by rw [show keyP a.1 a.2=keyP b.1 b.2 from h];exact keyP_spec hb.1 b.2))
 have e1:=List.append_inj e (by rw [cY,cY,ha.1,hb.1])
 exact Prod.ext (u8s_injS e1.1) (wl_injS ha.2 hb.2 (u64s_injS e1.2)),fun a ha=>kd105.key (keyP_spec ha.1 a.2)⟩
section
variable {D : DataW Value} {mb c : Nat} {k : List UInt8} {l : List (List UInt8 × Unit)}
end
end
structure AcS where
 no:UInt64
 ba:Nat
 co:List UInt8
 st:List (Nat×Nat)
def AcS.z:AcS:=⟨0,0,[],[]⟩
abbrev AcL:=List (List UInt8×AcS)
def AcS.Same (x y:AcS):Prop:=x.no=y.no∧x.ba=y.ba∧x.co=y.co∧ ∀k,getA k x.st=getA k y.st
def AcEq (l m:AcL):Prop:= ∀a,match getA a l,getA a m with
 |none,none=>True
 |some x,some y=>x.Same y
 |_,_=>False
structure AcGood (l:AcL):Prop where
 dis:DisA l
 st: ∀p∈l,DisA p.2.st∧ ∀q∈p.2.st,q.2≠0
section
variable {α : Type} {le : α → α → Bool}
theorem sort_same {xs ys:List α} (hx:xs.Nodup) (hy:ys.Nodup) (h: ∀a,a∈xs↔a∈ys) (tr: ∀a b c,le a b=true→le b c=true→le a c=true) (tot: ∀a b,(le a b ||le b a)=true) (ay: ∀a b,le a b=true→le b a=true→a=b):xs.mergeSort le=ys.mergeSort le:=by
 have p:(xs.mergeSort le).Perm (ys.mergeSort le):=(List.mergeSort_perm _ _).trans (((List.perm_ext_iff_of_nodup hx hy).2 h).trans (List.mergeSort_perm _ _).symm)
 exact p.eq_of_pairwise (le:=fun a b=>le a b=true) (fun a b _ _ h1 h2=>ay a b h1 h2) (List.pairwise_mergeSort tr tot _) (List.pairwise_mergeSort tr tot _)
theorem sort_of {xs ys:List α} (p:ys.Perm xs) (s:ys.Pairwise (fun a b=>le a b=true)) (tr: ∀a b c,le a b=true→le b c=true→le a c=true) (tot: ∀a b,(le a b ||le b a)=true) (ay: ∀a b,le a b=true→le b a=true→a=b):ys=xs.mergeSort le:=
 (p.trans (List.mergeSort_perm _ _).symm).eq_of_pairwise (le:=fun a b=>le a b=true) (fun a b _ _ h1 h2=>ay a b h1 h2) s (List.pairwise_mergeSort tr tot _)
end
def leN (a b:Nat):Bool:=decide (a≤b)
def leB (a b:List UInt8):Bool:=decide (a≤b)
theorem leN_tr (a b c:Nat) (h:leN a b=true) (k:leN b c=true):leN a c=true:=by
 simp only [leN,decide_eq_true_eq]at*;omega
theorem leN_tot (a b:Nat):(leN a b ||leN b a)=true:=by
 simp only [leN,Bool.or_eq_true,decide_eq_true_eq];omega
theorem leN_as (a b:Nat) (h:leN a b=true) (k:leN b a=true):a=b:=by
 simp only [leN,decide_eq_true_eq]at*;omega
theorem leB_tr (a b c:List UInt8) (h:leB a b=true) (k:leB b c=true):leB a c=true:=by
 simp only [leB,decide_eq_true_eq]at*;exact List.le_trans h k
theorem leB_tot (a b:List UInt8):(leB a b ||leB b a)=true:=by
 simp only [leB,Bool.or_eq_true,decide_eq_true_eq];exact List.le_total a b
theorem leB_as (a b:List UInt8) (h:leB a b=true) (k:leB b a=true):a=b:=by
 simp only [leB,decide_eq_true_eq]at*;exact List.le_antisymm h k
def srtW (st:List (Nat×Nat)):List Nat:=(st.map Prod.fst).mergeSort leN
def srtB (l:AcL):List (List UInt8):=(l.map Prod.fst).mergeSort leB
def stC (st:List (Nat×Nat)):List (Nat×Nat):=(srtW st).map fun k=>(k,(getA k st).getD 0)
structure AcA where
 ad:List UInt8
 no:UInt64
 ba:Nat
 co:List UInt8
 sl:List (Nat×Nat)
def AcS.told (a:List UInt8) (x:AcS):AcA:=⟨a,x.no,x.ba,x.co,stC x.st⟩
def acC (l:AcL):List AcA:=(srtB l).map fun a=>((getA a l).getD AcS.z).told a
theorem mem_keys {α β:Type} [DecidableEq α] {l:List (α×β)} {k:α} :k∈l.map Prod.fst↔(getA k l).isSome=true:=by
 cases h:getA k l with
 |none=>
  simp only [Option.isSome_none,Bool.false_eq_true,iff_false]
  intro hk
  obtain⟨p,hp,rfl⟩:=List.mem_map.1 hk
  exact getA_none.1 h p hp U
 |some v=>simpa using ⟨v,getA_mem h⟩
theorem stC_same {x y:List (Nat×Nat)} (hx:DisA x) (hy:DisA y) (h: ∀k,getA k x=getA k y):stC x=stC y:=by
 have e:srtW x=srtW y:=sort_same hx hy (fun a=>by rw [mem_keys,mem_keys,h a]) leN_tr leN_tot leN_as
 unfold stC
 rw [e]
 exact List.map_congr_left fun k _=>by rw [h k]
def AcA.ac (x:AcA):AcS:=⟨x.no,x.ba,x.co,x.sl.filter fun p=>decide (p.2≠0)⟩
def ofA (b:List AcA):AcL:=b.map fun x=>(x.ad,x.ac)
def LoadOk (b:List AcA):Prop:=(b.map AcA.ad).Nodup∧ ∀x∈b,DisA x.sl
section
variable {α β : Type} [DecidableEq α]
def updA (a:α) (f:β→β) (l:List (α×β)):List (α×β):=l.map fun p=>if p.1=a then (p.1,f p.2)else p
theorem updA_keys {a:α} {f:β→β} {l:List (α×β)} :(updA a f l).map Prod.fst=l.map Prod.fst:=by
 unfold updA
 rw [List.map_map]
 refine List.map_congr_left fun p _=>?_
 simp only [Function.comp_def]
 split<;>rfl
theorem DisA.upd {l:List (α×β)} (h:DisA l) (a:α) (f:β→β):DisA (updA a f l):=by
 unfold DisA;rw [updA_keys];exact h
theorem getA_upd {a j:α} {f:β→β} {l:List (α×β)} :getA j (updA a f l)=if j=a then (getA a l).map f else getA j l:=by
 induction l with
 |nil=>simp [updA,getA]
 |cons p r ih=>
  have e:updA a f (p::r)=(if p.1=a then (p.1,f p.2)else p)::updA a f r:=rfl
  rw [e,getA,ih]
  by_cases h1:p.1=a
  ·rw [if_pos h1]
   by_cases h2:j=a
   ·rw [if_pos (show p.1=j from h1.trans h2.symm),if_pos h2,getA,if_pos h1];rfl
   ·rw [if_neg (show ¬p.1=j from fun h=>h2 (h.symm.trans h1)),if_neg h2,if_neg h2,getA,if_neg fun h=>h2 (h.symm.trans h1)]
  ·rw [if_neg h1]
   by_cases h2:j=a
   ·rw [if_neg (fun h=>h1 (h.trans h2)),if_pos h2,if_pos h2,getA,if_neg h1]
   ·rw [if_neg h2,if_neg h2,getA]
theorem mem_upd {a:α} {f:β→β} {l:List (α×β)} {p:α×β} (h:p∈updA a f l): ∃q∈l,p.1=q.1∧(p.2=q.2∨(q.1=a∧p.2=f q.2)):=by
 obtain⟨q,hq,rfl⟩:=List.mem_map.1 h
 refine⟨q,hq,?_⟩
 split
 ·rename_i e;exact⟨rfl,.inr ⟨e,rfl⟩⟩
 ·exact⟨rfl,.inl rfl⟩
end
def opnA (a:List UInt8) (l:AcL):AcL:=if (getA a l).isSome=true then l else l++ [(a,AcS.z)]
theorem getA_opn {a j:List UInt8} {l:AcL} :getA j (opnA a l)=if j=a then some ((getA a l).getD AcS.z)else getA j l:=by
 unfold opnA
 cases hg:getA a l with
 |none=>
  simp only [Option.isSome_none,Bool.false_eq_true,if_false,Option.getD_none]
  rw [getA_app]
  by_cases e:j=a
  ·rw [if_pos e,e,hg];simp [getA]
  ·rw [if_neg e,getA,if_neg (fun h=>e h.symm),getA];simp
 |some v=>
  simp only [Option.isSome_some,if_true,Option.getD_some]
  by_cases e:j=a
  ·rw [if_pos e,e,hg]
  ·rw [if_neg e]
theorem AcGood.opn {l:AcL} (h:AcGood l) (a:List UInt8):AcGood (opnA a l):=by
 unfold opnA
 split
 ·exact h
 ·rename_i hn
  have hg:getA a l=none:=by
   cases hg:getA a l with
   |none=>rfl
   |some v=>rw [hg]at hn;exact absurd rfl hn
  refine⟨?_,fun p hp=>?_⟩
  ·unfold DisA
   rw [List.map_append,List.nodup_append]
   refine⟨h.dis,by simp,fun x hx y hy e=>?_⟩
   obtain⟨p,hp,rfl⟩:=List.mem_map.1 hx
   simp only [List.map_cons,List.map_nil,List.mem_singleton]at hy
   exact getA_none.1 hg p hp (e.trans hy)
  ·rcases List.mem_append.1 hp with hp|hp
   ·exact h.st p hp
   ·rw [List.mem_singleton.1 hp]
    exact⟨List.nodup_nil,fun _ h=>absurd h List.not_mem_nil⟩
def turnA (a:List UInt8) (f:AcS→AcS) (l:AcL):AcL:=updA a f (opnA a l)
theorem getA_turn {a j:List UInt8} {f:AcS→AcS} {l:AcL} :getA j (turnA a f l)=if j=a then some (f ((getA a l).getD AcS.z))else getA j l:=by
 unfold turnA
 rw [getA_upd,getA_opn,if_pos rfl,getA_opn]
 by_cases e:j=a
 ·rw [if_pos e,if_pos e];rfl
 ·rw [if_neg e,if_neg e,if_neg e]
theorem AcGood.turn {l:AcL} (h:AcGood l) (a:List UInt8) {f:AcS→AcS} (hf: ∀x:AcS,DisA x.st∧(∀q∈x.st,q.2≠0)→DisA (f x).st∧ ∀q∈(f x).st,q.2≠0):AcGood (turnA a f l):=by
 have ho:=h.opn a
 refine⟨ho.dis.upd a f,fun p hp=>?_⟩
 obtain⟨q,hq,_,h2|⟨_,h2⟩⟩:=mem_upd hp
 ·rw [h2];exact ho.st q hq
 ·rw [h2];exact hf _ (ho.st q hq)
def setSt (k v:Nat) (st:List (Nat×Nat)):List (Nat×Nat):=if v=0 then delA k st else putA k v st
def AcS.setNo (n:UInt64) (x:AcS):AcS:= { x with no:=n }
def AcS.setBa (n:Nat) (x:AcS):AcS:= { x with ba:=n }
def AcS.setCo (c:List UInt8) (x:AcS):AcS:= { x with co:=c }
def AcS.setSl (k v:Nat) (x:AcS):AcS:= { x with st:=setSt k v x.st }
def slotsS (sl:List (Nat×Nat)) (x:AcS):AcS:=sl.foldl (fun x p=>x.setSl p.1 p.2) x
def writeS (K:Nat) (w:AcA) (x:AcS):AcS:=(((slotsS w.sl (((x.setNo (w.no+1)).setSl K 1).setSl K 0)).setCo w.co).setBa w.ba).setNo w.no
def writeL (K:Nat):List AcA→AcL→AcL
 | [],l=>l
 |w::r,l=>writeL K r (turnA w.ad (writeS K w) l)
def ptrV (p:Nat×AcS):Value:=.pointer (some ⟨p.1,0,none⟩)
section
variable {NS NU Nm : Heaplet} {sp ma mt mm mw md ws tr og : Nat} {rf : UInt64} {lg mk : Value} {tl : Int} {ua : Option Addr} {un uc : Nat} {us : List Value} {D : DataW Value} {mb c : Nat}
theorem one_wl (x:Nat):(u64s (wl x)).all (·.oneCell')=true:=by rw [List.all_eq_true];exact one_u64s _
theorem bQ (x:Nat):(u64s (wl x)).length=4:=by rw [u64s_lenS,length_wl]
theorem place_len {k:List UInt8×Nat} (hk:okPl k):(u8s k.1++u64s (wl k.2)).length=24:=by rw [List.length_append,cY,bQ,hk.1]
end
structure SAb where
 lt:List (List UInt8×Unit)
 lm:List (List UInt8×Unit)
 lw:List (List UInt8×Unit)
 ld:List (List UInt8×Unit)
 lp:List ((List UInt8×Nat)×Unit)
 lq:List ((List UInt8×Nat)×Nat)
 lo:List ((List UInt8×Nat)×Nat)
 rf:UInt64
 tl:Int
 oc:Nat
structure SJ where
 ab:SAb
 mt:Nat
 mm:Nat
 mw:Nat
 md:Nat
 ws:Nat
 tr:Nat
 og:Nat
 la:Option Addr
 ln:Nat
 lc:Nat
 ua:Option Addr
 un:Nat
 uc:Nat
 ka:Option Addr
 kn:Nat
 kc:Nat
 DT:DataW Value
 DM:DataW Value
 DW:DataW Value
 DD:DataW Value
 DP:DataW Value
 DQ:DataW Value
 DO:DataW Value
 ls:List Value
 us:List Value
 ks:List Value
def SJ.cells (t:SJ) (ma:Nat):List Value:=stK ma t.mt t.mm t.mw t.md t.ws t.tr t.og t.ab.rf (.slice t.la t.ln t.lc) (.slice t.ua t.un t.uc) (.slice t.ka t.kn t.kc) t.ab.tl
structure SJ.On (t:SJ) (NS NT NM NW ND NP NQ NO NL NU NK:Heaplet) (sp ma c:Nat):Prop where
 S:Blk NS sp 85 (t.cells ma)
 T:MapV Tryz.prog 33 NT t.mt c t.DT
 M:MapV Tryz.prog 33 NM t.mm c t.DM
 W:MapV Tryz.prog 33 NW t.mw c t.DW
 D:MapV Tryz.prog 33 ND t.md c t.DD
 P:MapV Tryz.prog 105 NP t.ws c t.DP
 Q:MapV Tryz.prog 105 NQ t.tr c t.DQ
 O:MapV Tryz.prog 105 NO t.og t.ab.oc t.DO
 aT:MapA keyA okAd unitV t.DT t.ab.lt
 aM:MapA keyA okAd unitV t.DM t.ab.lm
 aW:MapA keyA okAd unitV t.DW t.ab.lw
 aD:MapA keyA okAd unitV t.DD t.ab.ld
 aP:MapA keyPP okPl unitV t.DP t.ab.lp
 aQ:MapA keyPP okPl wordV t.DQ t.ab.lq
 aO:MapA keyPP okPl wordV t.DO t.ab.lo
 L:Row NL 93 22 t.la t.ln t.lc t.ls
 Uq:Row NU 1 1 t.ua t.un t.uc t.us
 K:Row NK 108 2 t.ka t.kn t.kc t.ks
 oL: ∀u∈t.ls,u.oneCell'=true
 bL:t.ln≤c
 bU:t.un≤c
 bK:t.kn≤c
def SJP (v0:Value) (ab:SAb) (sp ma c:Nat) (v:Value) (L:List Heaplet):Prop:= ∃(t:SJ) (NS NT NM NW ND NP NQ NO NL NU NK:Heaplet),v=v0∧L= [NS,NT,NM,NW,ND,NP,NQ,NO,NL,NU,NK]∧t.On NS NT NM NW ND NP NQ NO NL NU NK sp ma c∧t.ab=ab
section
variable {NS NT NM NW ND NP NQ NO NL NU NK : Heaplet} {t : SJ} {sp ma c : Nat} {k : List UInt8} {x : Nat}
theorem SJ.On.mono {d:Nat} (h:t.On NS NT NM NW ND NP NQ NO NL NU NK sp ma c) (hl:c≤d):t.On NS NT NM NW ND NP NQ NO NL NU NK sp ma d:=⟨h.S,h.T.mono hl,h.M.mono hl,h.W.mono hl,h.D.mono hl,h.P.mono hl,h.Q.mono hl,h.O,h.aT,h.aM,h.aW,h.aD,h.aP,h.aQ,h.aO,h.L,h.Uq,h.K,h.oL,Nat.le_trans h.bL hl,Nat.le_trans h.bU hl,Nat.le_trans h.bK hl⟩
end
end Go.Proofs.YtalmjkcapecpiaaGreat
