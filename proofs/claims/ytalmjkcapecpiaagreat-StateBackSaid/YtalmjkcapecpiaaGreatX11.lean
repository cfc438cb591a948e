/- Several texts in one: see the remarks ahead of each part. No condition but those told there. -/
import Derived.Test.YtalmjkcapecpiaaGreatX1
import Derived.Test.YtalmjkcapecpiaaGreatX10
import Derived.Test.YtalmjkcapecpiaaGreatX8
import Derived.Test.YtalmjkcapecpiaaGreatX9
import Derived.Test.YtalmjkcapecpiaaGreatX6
set_option linter.unusedSimpArgs false
set_option linter.unusedVariables false
namespace Go.Proofs.YtalmjkcapecpiaaGreat
open Go Go.RowKit
set_option maxRecDepth 100000
theorem MapV.size_leS {P:Program} {k:TypeId} {N:Heaplet} {b n:Nat} {D:DataW Value} (h:MapV P k N b n D):Maps.size D≤n:=by
 obtain⟨es,clock,_,hall⟩:=h
 let w:World:= { (default:World)with heap:=(Array.replicate b (Obj.map #[] 0)).push (.map es clock) }
 exact(hall w (by show((Array.replicate b (Obj.map #[] 0)).push (.map es clock))[b]? =_;rw [Array.getElem?_push,if_pos (by simp)])).size_le
abbrev AdT:= {k:List UInt8 //k.length=20}
instance:Inhabited AdT:=⟨⟨List.replicate 20 0,rfl⟩⟩
theorem swo_A:Sort.SWO (Go.Proofs.ltOf fun x y:AdT=>Lib.compareBytes x.1 y.1):=by
 have e: ∀x y:AdT,Go.Proofs.ltOf (fun x y:AdT=>Lib.compareBytes x.1 y.1) x y=decide (x.1<y.1):=fun x y=>by
  unfold Go.Proofs.ltOf
  exact decide_eq_decide.2 (cmpB_lt _ _)
 refine⟨fun x=>?_,fun x y z h1 h2=>?_,fun x y z h1 h2=>?_⟩
 ·rw [e];exact decide_eq_false (List.lt_irrefl _)
 ·rw [e,decide_eq_true_eq]at*;exact List.lt_trans h1 h2
 ·rw [e,decide_eq_false_iff_not]at*
  intro h
  exact h2 (Classical.byContradiction fun h3=>by
   have a1:=List.not_lt.1 h1
   have a2:=List.not_lt.1 h3
   exact h1 (Classical.byContradiction fun h4=>by
    have:=List.le_trans a2 a1
    exact absurd h (List.not_lt.2 (this))))
theorem cmpN_neg4 (x y:Nat):cmpN x y<0↔x<y:=by
 unfold cmpN
 split
 ·simp [*]
 ·split<;>simp<;>omega
theorem swo_W:Sort.SWO (Go.Proofs.ltOf fun x y:Nat=>cmpN (x % WW) (y % WW)):=by
 have e: ∀x y:Nat,Go.Proofs.ltOf (fun x y:Nat=>cmpN (x % WW) (y % WW)) x y=decide (x % WW<y % WW):=fun x y=>by
  unfold Go.Proofs.ltOf
  exact decide_eq_decide.2 (cmpN_neg4 _ _)
 refine⟨fun x=>?_,fun x y z h1 h2=>?_,fun x y z h1 h2=>?_⟩
 ·rw [e];simp
 ·rw [e,decide_eq_true_eq]at*;omega
 ·rw [e,decide_eq_false_iff_not]at*;omega
theorem isagg33: ∀w,(isAgg 33).run Tryz.prog w=.ok true w:=fun w=>by
 simp [isAgg,run_underlying Tryz.underlying33]
theorem isagg36: ∀w,(isAgg 36).run Tryz.prog w=.ok true w:=fun w=>by
 simp [isAgg,run_underlying Tryz.underlying36]
theorem size_run {P:Program} {t:TypeId} {k:Nat} (h:siz P t=some k) (w:World):(Go.sizeOf t).run P w=.ok k w:=by
 obtain⟨i,hi,hs⟩:=Option.map_eq_some_iff.1 h
 rw [run_sizeOf hi,hs]
set_option maxHeartbeats 4000000 in
theorem FSortA {NR:Heaplet} {ao:Option Addr} {cap:Nat} {ks:List (List UInt8)} (hok: ∀k∈ks,okAd k) (hr:Row NR 33 20 ao ks.length cap (ks.flatMap u8s)) (hn:ks.length≤1099511627776):
 Fn Tryz.prog 96 #[.slice ao ks.length cap,.func (.func 74) #[] #[]] [NR] [] (fun v L=> ∃N,v=.tuple #[]∧L= [N]∧Row N 33 20 ao ks.length cap ((ks.mergeSort leB).flatMap u8s)):=by
 obtain⟨xs,rfl⟩: ∃xs:List AdT,ks=xs.map Subtype.val:=⟨ks.attach.map fun x=>(⟨x.1,(by have h:=hok x.1 x.2;exact h)⟩:AdT),by rw [List.map_map];simp [Function.comp_def]⟩
 have hfl: ∀xs:List AdT,(xs.map Subtype.val).flatMap u8s=xs.flatMap fun x=>u8s x.1:=fun xs=>by rw [List.flatMap_map]
 rw [hfl,List.length_map]at hr
 rw [List.length_map]at hn⊢
 have h:=sort_fn (k:=20) (ρ:=Tryz.sortF96_ren) Tryz.sortF96 (t:=33) isagg33 (size_run sz33) (enc:=fun x:AdT=>u8s x.1) (fun x=>by rw [cY];exact x.2) (fun x v hv=>one_u8s _ v hv) swo_A (g:=74) (enters_of Tryz.func74 (by kernel_rfl) rfl) (fun x y w=>(XCmpA x.2 y.2).grows w |>.mono fun e w' ⟨⟨v,he,hv⟩,hg⟩=>⟨by rw [he,hv],hg⟩) hr (by omega)
 refine h.mono fun v L ⟨N,ys,hv,hL,hp,hs,hrow⟩=>⟨N,hv,hL,?_⟩
 have e:(ys.map Subtype.val)=(xs.map Subtype.val).mergeSort leB:=sort_of (hp.map _) (by
  rw [List.pairwise_map]
  refine hs.imp fun {a b} hab=>?_
  unfold Go.Proofs.ltOf at hab
  have h1: ¬b.1<a.1:=fun hl=>by
   have:=(cmpB_lt _ _).2 hl
   simp [this]at hab
  exact decide_eq_true (List.not_lt.1 h1)) leB_tr leB_tot leB_as
 rw [←e,hfl, ←hp.length_eq]
 exact hrow
set_option maxHeartbeats 4000000 in
theorem FSortW {NR:Heaplet} {ao:Option Addr} {cap:Nat} {ks:List Nat} (hok: ∀k∈ks,okWd k) (hr:Row NR 36 4 ao ks.length cap (ks.flatMap fun x=>u64s (wl x))) (hn:ks.length≤1099511627776):
 Fn Tryz.prog 100 #[.slice ao ks.length cap,.func (.func 78) #[] #[]] [NR] [] (fun v L=> ∃N,v=.tuple #[]∧L= [N]∧Row N 36 4 ao ks.length cap ((ks.mergeSort leN).flatMap fun x=>u64s (wl x))):=by
 have h:=sort_fn (k:=4) (ρ:=Tryz.sortF100_ren) Tryz.sortF100 (t:=36) isagg36 (size_run sz36) (enc:=fun x:Nat=>u64s (wl x)) (fun x=>rfl) (fun x v hv=>one_u64s _ v hv) swo_W (g:=78) (enters_of Tryz.func78 (by kernel_rfl) rfl) (fun x y w=>by
  have hx:=(XCmpW (Nat.mod_lt x WW_pos) (Nat.mod_lt y WW_pos)).grows w
  rw [wo_mod,wo_mod]at hx
  exact hx.mono fun e w' ⟨⟨v,he,hv⟩,hg⟩=>⟨by rw [he,hv],hg⟩) hr (by omega)
 refine h.mono fun v L ⟨N,ys,hv,hL,hp,hs,hrow⟩=>⟨N,hv,hL,?_⟩
 have e:ys=ks.mergeSort leN:=sort_of hp (hs.imp_of_mem fun {a b} ha hb hab=>by
  unfold Go.Proofs.ltOf at hab
  have h1: ¬b % WW<a % WW:=fun hl=>by
   have:=(cmpN_neg4 _ _).2 hl
   simp [this]at hab
  have a1:=hok a (hp.mem_iff.1 ha)
  have b1:=hok b (hp.mem_iff.1 hb)
  rw [Nat.mod_eq_of_lt a1,Nat.mod_eq_of_lt b1]at h1
  exact decide_eq_true (Nat.le_of_not_lt h1)) leN_tr leN_tot leN_as
 rw [←e, ←hp.length_eq]
 exact hrow
set_option maxHeartbeats 4000000 in
theorem FSortedA {NB NM:Heaplet} {blk mb c:Nat} {D:DataW Value} {l:List (List UInt8×(Nat×AcS))} (B:Blk NB blk 74 [.map (some mb)]) (hM:MapV Tryz.prog 33 NM mb c D) (hA:MapA keyA okAd ptrV D l) (hc:c≤1000000):
 Fn Tryz.prog 72 #[.func (.func 97) #[] #[.pointer (some ⟨blk,0,none⟩)],.func (.func 74) #[] #[]] [] [NB,NM] (fun v L=> ∃N ao cap,v=.slice ao l.length cap∧L= [N]∧Row N 33 20 ao l.length cap (((l.map Prod.fst).mergeSort leB).flatMap u8s)):=by
 have hsz:l.length≤c:=by rw [←hA.size];exact hM.size_leS
 have hg:=keysA_gives B hM hA
 refine Fn.enter (vs:= [.func (.func 97) #[] #[.pointer (some ⟨blk,0,none⟩)],.func (.func 74) #[] #[]]) Tryz.func72 U U U ?_
 intro E R hR
 change At _ _ E [R] _
 refine aH fun _ s_1=>aB (bV U U (aI (s_1 (aH fun _ s_2=>aB (bC U U (bG bT (.cons U .nil) ((FCollectA hg (by omega) (enters_of Tryz.func97 (by kernel_rfl) U)).liftQ hR) Tryz.func95 U U (by simp) U ?_))))))
 rintro _ _ ⟨N7,a7,c7,xs7,rfl,rfl,h7,r7⟩
 show At _ _ _ [N7,R] _
 have hl7:xs7.length=l.length:=by rw [h7.length_eq,List.length_map]
 have hok7: ∀k∈xs7,okAd k:=fun k hk=>by
  obtain⟨p,hp,rfl⟩:=List.mem_map.1 (h7.mem_iff.1 hk)
  exact hA.key p hp
 refine bV U U (aI (s_2 (aH fun _ s_3=>aB (bC U U (bC U U (cR nxQ (.cons U (.cons U .nil)) (FSortA hok7 r7 (by omega)) (F:= [R]) Tryz.func96 U U aZ (by simp) U ?_))))))
 rintro _ _ ⟨N10,rfl,rfl,r10⟩
 show At _ _ _ [N10,R] _
 skip
 refine aI (s_3 (aH fun _ s_4=>aB (bC U U (bV U U (aI (s_4 (cK ((cF (L1:= [N10]) U (.tmp U .nil) (.refl _) aZ ?_)))))))))
 have e:xs7.mergeSort leB=(l.map Prod.fst).mergeSort leB:=sort_of (((List.mergeSort_perm _ _).trans h7)) (List.pairwise_mergeSort leB_tr leB_tot _) leB_tr leB_tot leB_as
 rw [e]at r10
 exact⟨N10,a7,c7,by rw [hl7],rfl,by rw [hl7]at r10;exact r10⟩
set_option maxHeartbeats 4000000 in
theorem FSortedW {NB NM:Heaplet} {blk mb c:Nat} {D:DataW Value} {l:List (Nat×Nat)} (B:Blk NB blk 69 [.map (some mb)]) (hM:MapV Tryz.prog 36 NM mb c D) (hA:MapA keyW okWd wordV D l) (hc:c≤1000000):
 Fn Tryz.prog 76 #[.func (.func 101) #[] #[.pointer (some ⟨blk,0,none⟩)],.func (.func 78) #[] #[]] [] [NB,NM] (fun v L=> ∃N ao cap,v=.slice ao l.length cap∧L= [N]∧Row N 36 4 ao l.length cap (((l.map Prod.fst).mergeSort leN).flatMap (fun x=>u64s (wl x)))):=by
 have hsz:l.length≤c:=by rw [←hA.size];exact hM.size_leS
 have hg:=keysW_gives B hM hA
 refine Fn.enter (vs:= [.func (.func 101) #[] #[.pointer (some ⟨blk,0,none⟩)],.func (.func 78) #[] #[]]) Tryz.func76 U U U ?_
 intro E R hR
 change At _ _ E [R] _
 refine aH fun _ s_1=>aB (bV U U (aI (s_1 (aH fun _ s_2=>aB (bC U U (bG bT (.cons U .nil) ((FCollectW hg (by omega) (enters_of Tryz.func101 (by kernel_rfl) U)).liftQ hR) Tryz.func99 U U (by simp) U ?_))))))
 rintro _ _ ⟨N7,a7,c7,xs7,rfl,rfl,h7,r7⟩
 show At _ _ _ [N7,R] _
 have hl7:xs7.length=l.length:=by rw [h7.length_eq,List.length_map]
 have hok7: ∀k∈xs7,okWd k:=fun k hk=>by
  obtain⟨p,hp,rfl⟩:=List.mem_map.1 (h7.mem_iff.1 hk)
  exact hA.key p hp
 refine bV U U (aI (s_2 (aH fun _ s_3=>aB (bC U U (bC U U (cR nxQ (.cons U (.cons U .nil)) (FSortW hok7 r7 (by omega)) (F:= [R]) Tryz.func100 U U aZ (by simp) U ?_))))))
 rintro _ _ ⟨N10,rfl,rfl,r10⟩
 show At _ _ _ [N10,R] _
 skip
 refine aI (s_3 (aH fun _ s_4=>aB (bC U U (bV U U (aI (s_4 (cK ((cF (L1:= [N10]) U (.tmp U .nil) (.refl _) aZ ?_)))))))))
 have e:xs7.mergeSort leN=(l.map Prod.fst).mergeSort leN:=sort_of (((List.mergeSort_perm _ _).trans h7)) (List.pairwise_mergeSort leN_tr leN_tot _) leN_tr leN_tot leN_as
 rw [e]at r10
 exact⟨N10,a7,c7,by rw [hl7],rfl,by rw [hl7]at r10;exact r10⟩
open Go.Maps (Keyed)
open Go.MapKept Go.ChangeShapes Go.WideShapes Go.ChangeMaps
section
variable {P : Program} {n : Nat} {l : List (Nat × Value)} {E : World} {L L1 Ls : List Heaplet} {X Y : Act → World → Prop} {t ty k e : TypeId} {x y : Operand} {N M : Heaplet} {b c r cnt : Nat} {D : DataW Value} {left : Lit → Bool}
theorem op_deleteR {pos:_} {aft:_} {g:_} {key:Value} {kl:Lit} (s:Nx P n l E L ⟨none,.call ⟨.builtin .delete, #[x,y], #[t,k]⟩,ty,pos,aft,g⟩ X Y) (K:Keyed P k) (ht:P.underlying t=some (.map k e)) (hm:ev l x=some (.map (some b))) (hx:ev l y=some key) (hb:RngN P k M r N b c D left cnt) (hk:keyOf P k key=some kl) (hs:L.Perm (N::M::L1))
 (h: ∀N' cnt',MapV P k N' b c (D.del kl)→RngN P k M r N' b c (D.del kl) (fun x=>left x&& !x.sameKey kl) cnt'→cnt'≤cnt→At n l E (N'::M::L1) Y):At n l E L X:=fun a w hf hw=>by
 have hw2:=hw.perm hs
 obtain⟨om,es,clock,hMr,hNb,hall⟩:=hb
 have hwb:=hw2.sub N (List.mem_cons_self ..) _ _ hNb
 have hwr:=hw2.sub M (List.mem_cons_of_mem _ (List.mem_cons_self ..)) _ _ hMr
 have hrg:=hall w hwr hwb
 have hne:=hrg.ne
 obtain⟨w',cnt',hrun,hrg',hle,htu⟩:=hrg.drop K ht hk ty
 obtain⟨es0,cl0,es',cl',hb0,rfl⟩:=htu
 have hlt:=(Array.getElem?_eq_some_iff.1 hwb).1
 have hb':(setBlock w b (.map es' cl')).heap[b]? =some (.map es' cl'):=heap_setBlock_same hwb _
 have ho': ∀j,j≠b→(setBlock w b (.map es' cl')).heap[j]? =w.heap[j]? :=fun j hj=>heap_setBlock_other hwb _ hj
 refine s a w hf hw ?_
 unfold Oper.wp
 have hrun2:(execOp a.eval ⟨none,.call ⟨.builtin .delete, #[x,y], #[t,k]⟩,ty,pos,aft,g⟩).run P w=.ok (.value (.tuple #[])) (setBlock w b (.map es' cl')):=by
  simp only [execOp,resolve,invoke,builtin,Sem.run_bind,Sem.run_pure,Result.andThen_ok,List.map_toArray,List.map_cons,List.map_nil,hf.eval hm,hf.eval hx,hrun]
 rw [hrun2]
 refine h (upd N b (.map es' cl')) cnt' ?_ ?_ hle a _ hf (hw2.put hNb U U U hb' fun j hj _=>ho' j hj)
 ·refine⟨es',cl',upd_self _ _ _,fun w2 hw2=>?_⟩
  obtain⟨es2,cl2,since,seen,c0,q1,q2,q3,q4,q5⟩:=id hrg'
  rw [hb']at q1
  cases q1
  exact⟨es',cl',hw2,q2,q3,q4⟩
 ·exact⟨om,es',cl',hMr,upd_self _ _ _,rng_all hrg' ((ho' r hne).trans hwr) hb'⟩
end
theorem FLoad1 {x y:Nat} (hy:y<WW):Fn Tryz.prog 32 #[.agg (u64s (wl x)).toArray,.agg (u64s (wl y)).toArray] [] [] (fun v L=>v=.bool (decide (y=0))∧L= []):=by
 have e:decide (wl y= [0,0,0,0])=decide (y=0):=decide_eq_decide.2 (wl_zero4 hy)
 refine Fn.enter (vs:= [.agg (u64s (wl x)).toArray,.agg (u64s (wl y)).toArray]) Tryz.func32 U U U ?_
 intro E R hR
 change At _ _ E [R] _
 refine aH fun _ s_1=>aB (cU bT U U U (fun N2 b2 B2=>cU bT U U U (fun N3 b3 B3=>bV U U (aI (s_1 (aH fun _ s_2=>aB (aK (ds:=u64s (wl y)) aN ag36 U B3 (by exact bJ (bQ y)) (by exact bQ y) cO U ?_)))))))
 refine op_buildA (out:= [.int .u64 0,.int .u64 0,.int .u64 0,.int .u64 0]) aN ze36 ae36 .nil U U (op_eqW (a:=wl y) (b:= [0,0,0,0]) aN ae36 Tryz.underlying34 (by kernel_rfl) U U U U U (bV U U (aI (s_2 (cK ((cT (dropAt0 (cF (L1:= []) U (.tmp U .nil) (.refl _) aZ ?_)))))))))
 exact⟨by rw [e],rfl⟩
noncomputable def leftZ (st:List (Nat×Nat)) (left:Lit→Bool):List (Nat×Nat):=st.filter fun p=>decide (p.2≠0)||left (keyW p.1)
theorem leftZ_all {D:DataW Value} {st:List (Nat×Nat)} (hA:MapA keyW okWd wordV D st):leftZ st (Maps.has D)=st:=List.filter_eq_self.2 fun p hp=>by
 rw [hA.has p.1 (hA.key p hp),getA_of hA.dis (show(p.1,p.2)∈st from hp)];simp
theorem leftZ_none {st:List (Nat×Nat)} {left:Lit→Bool} (h: ∀q,left q=false):leftZ st left=st.filter fun p=>decide (p.2≠0):=by
 unfold leftZ
 exact List.filter_congr fun p _=>by rw [h,Bool.or_false]
theorem same_W {a b:Nat} (ha:okWd a) (hb:okWd b):(keyW a).sameKey (keyW b)=decide (a=b):=by
 by_cases e:a=b
 ·rw [e,same_self (keE_W.lit b hb)];simp
 ·cases h:(keyW a).sameKey (keyW b)with
  |false=>simp [e]
  |true=>exact absurd (keE_W.inj a b ha hb (WideAt.sameKey_eq h)) e
theorem leftZ_keep {st:List (Nat×Nat)} {left:Lit→Bool} {k v:Nat} (hd:DisA st) (hok: ∀p∈st,okWd p.1) (hk:okWd k) (hm:(k,v)∈st) (hv:v≠0):leftZ st (fun x=>left x&& !x.sameKey (keyW k))=leftZ st left:=by
 unfold leftZ
 refine List.filter_congr fun p hp=>?_
 have hs:=same_W (hok p hp) hk
 simp only [hs]
 by_cases e:p.1=k
 ·have:p.2=v:=by
   have h1:=getA_of hd (show(p.1,p.2)∈st from hp)
   rw [e,getA_of hd hm]at h1
   exact(Option.some.inj h1).symm
  simp [e,this,hv]
 ·simp [e]
theorem leftZ_del {st:List (Nat×Nat)} {left:Lit→Bool} {k:Nat} (hd:DisA st) (hok: ∀p∈st,okWd p.1) (hk:okWd k) (hm:(k,0)∈st):leftZ st (fun x=>(left x&& !x.sameKey (keyW k))&& !x.sameKey (keyW k))=delA k (leftZ st left):=by
 unfold leftZ delA
 rw [List.filter_filter]
 refine List.filter_congr fun p hp=>?_
 have hs:=same_W (hok p hp) hk
 simp only [hs]
 by_cases e:p.1=k
 ·have:p.2=0:=by
   have h1:=getA_of hd (show(p.1,p.2)∈st from hp)
   rw [e,getA_of hd hm]at h1
   exact(Option.some.inj h1).symm
  simp [e,this]
 ·simp [e]
theorem mapA_at {D:DataW Value} {st:List (Nat×Nat)} (hA:MapA keyW okWd wordV D st) {k:Nat} (hk:okWd k) {v:Value} (hat: ∀zd,D.atKey (keyW k) zd=.held v): ∃y,v=wordV y∧(k,y)∈st:=by
 have h1:=hat (.held (.bool true))
 have h2:=hat (.held (.bool false))
 rw [hA.look hk]at h1 h2
 cases hg:getA k st with
 |none=>
  rw [hg]at h1 h2
  have a:=DataW.held.inj h1
  have b:=DataW.held.inj h2
  rw [←a]at b;cases b
 |some y=>
  rw [hg]at h1
  exact⟨y,(DataW.held.inj h1).symm,getA_mem hg⟩
set_option maxHeartbeats 8000000 in
theorem FDeleteZ {NB:Heaplet} {mb c:Nat} {D:DataW Value} {st:List (Nat×Nat)} (hM:MapV Tryz.prog 36 NB mb c D) (hA:MapA keyW okWd wordV D st) (hst: ∀p∈st,p.2<WW):
 Fn Tryz.prog 31 #[.map (some mb),.func (.func 32) #[] #[]] [NB] [] (fun v L=> ∃N D',v=.tuple #[]∧L= [N]∧MapV Tryz.prog 36 N mb c D'∧MapA keyW okWd wordV D' (st.filter fun p=>decide (p.2≠0))):=by
 have hd:=hA.dis
 have hko:=hA.key
 refine Fn.enter (vs:= [.map (some mb),.func (.func 32) #[] #[]]) Tryz.func31 U U U ?_
 intro E R hR
 change At _ _ E [NB,R] _
 refine aH fun _ s_1=>aB (bC U U (op_range bT kd36 Tryz.underlying69 U hM (by simp) U (fun N7 b7 g7=>aI (s_1 (bX ?_)))))
 refine At.loop (fun fr_ hp_ ms_=> ∃(left:Lit→Bool) (cnt:Nat) (NG NI:Heaplet) (DI:DataW Value),fr_= [(0,.map (some mb)),(1,.func (.func 32) #[] #[]),(7,.pointer (some ⟨b7,0,none⟩))]∧hp_= [NG,NI,R]∧cnt=ms_∧(RngN Tryz.prog 36 NG b7 NI mb c DI left cnt)∧(MapV Tryz.prog 36 NI mb c DI)∧(MapA keyW okWd wordV DI (leftZ st left))) ?_ aZ ⟨_,_,N7,NB,D,rfl,rfl,rfl,g7,hM,by rw [leftZ_all hA];exact hA⟩ ?_
 ·repeat first|apply cW|exact .nil|exact lkI rfl (by omega)|rfl
 rintro _ _ _ ⟨left,cnt,NG,NI,DI,rfl,rfl,rfl,hg,hI,hAI⟩
 refine aH fun _ s_2=>aB (op_next nxQ kd36 U hg sel0 (by simp) U (fun z8 e8=>?_) (fun k8 v8 q8 N8 n8 ke8 lf8 at8 g8 lt8 en8=>?_))
 ·show At _ _ _ [NG,NI,R] _
  refine bW aN U U U (aI (s_2 (aH fun _ s_3=>At.condF U (At.exit (bD (bD (dE (dropAt0 (cQ (L1:= [NI]) U .nil U (.refl _) aZ ?_)))))))))
  exact⟨NI,DI,rfl,rfl,hI,by rw [←leftZ_none e8];exact hAI⟩
 show At _ _ _ [N8,NI,R] _
 obtain⟨kk,hok,rfl,rfl⟩:=keyW_inv ke8
 obtain⟨v0,rfl,hmem⟩:=mapA_at hAI hok at8
 have hmst:(kk,v0)∈st:=(List.mem_filter.1 hmem).1
 have hv0:=hst _ hmst
 refine bW aN U U U (aI (s_2 (aH fun _ s_4=>At.condT U (cG (aS (s_4 (bX (aH fun _ s_5=>aB (op_entry aN U en8 (by simp) (by simp) U (bW aN U U U (bW aN U U U (bZ bT ze36 U (fun N4 b4 B4=>?_)))))))))))))
 change Blk N4 b4 _ [.int .u64 0,.int .u64 0,.int .u64 0,.int .u64 0]at B4
 refine bZ bT ze36 U (fun N5 b5 B5=>?_)
 change Blk N5 b5 _ [.int .u64 0,.int .u64 0,.int .u64 0,.int .u64 0]at B5
 refine bP nxQ sz36 U U U (bQ kk) (one_wl kk) B4 (by simp) sel1 (fun N4 B4=>?_)
 skip
 refine bP nxQ sz36 U U U (bQ v0) (one_wl v0) B5 (by simp) sel1 (fun N5 B5=>?_)
 skip
 refine aI (s_5 (aH fun _ s_6=>aB (bC U U (aK (ds:=u64s (wl kk)) aN ag36 U B4 (by exact bJ (bQ kk)) (by exact bQ kk) dG U ?_))))
 refine aK (ds:=u64s (wl v0)) aN ag36 U B5 (by exact bJ (bQ v0)) (by exact bQ v0) cO U ?_
 refine op_callV nxQ U (.cons U (.cons U .nil)) (FLoad1 (x:=kk) hv0) (F:= [N5,N4,N8,NI,R]) Tryz.func32 U U aZ (by simp) U ?_
 rintro _ _ ⟨rfl,rfl⟩
 show At _ _ _ [N5,N4,N8,NI,R] _
 refine aI (s_6 (cD U (fun c16=>?_) (fun c16=>?_)))
 ·have hy0:v0=0:=c16
  refine aB (bC U U (aK (ds:=u64s (wl kk)) aN ag36 U B4 (by exact bJ (bQ kk)) (by exact bQ kk) dG U ?_))
  refine bA (bF (bF (bI (bA (op_deleteR nxQ kd36 Tryz.underlying69 U U g8 (keyW_spec kk) aZ (fun N2 n2 hM2 g2 le2=>cE (cJ (aS (dropAt3 (dropAt2 (bF (cH (bF ?_)))))))))))))
  refine At.back ?_ aZ ⟨_,n2,N8,N2,_,rfl,rfl,rfl,g2,hM2,by rw [leftZ_del hd hko hok (by rw [←hy0];exact hmst)];exact hAI.del keE_W hok⟩ ?_
  ·repeat first|apply cW|exact .nil|exact lkI rfl (by omega)|rfl
  ·omega
 have hy0:v0≠0:=c16
 refine cG (cJ (aS (cT (dropAt0 ?_))))
 refine At.back ?_ aZ ⟨_,n8,N8,NI,DI,rfl,rfl,rfl,g8,hI,by rw [leftZ_keep hd hko hok hmst hy0];exact hAI⟩ ?_
 ·repeat first|apply cW|exact .nil|exact lkI rfl (by omega)|rfl
 ·omega
abbrev nilH2:Heaplet:=nilH
abbrev nilH3:Heaplet:=nilH
abbrev nilH4:Heaplet:=nilH
def SAb.z:SAb:=⟨[],[],[],[],[],[],[],0,0,0⟩
def NewP (v:Value) (L:List Heaplet):Prop:= ∃sp,StP (.pointer (some ⟨sp,0,none⟩)) SAb.z [] sp 0 v L
structure AcI where
 ca:Option Addr
 cc:Nat
 sa:Option Addr
 sc:Nat
def slotC (p:Nat×Nat):List Value:=u64s (wl p.1)++u64s (wl p.2)
def accC (p:AcA×AcI):List Value:=u8s p.1.ad++(.int .u64 (p.1.no.toNat:Int)::(u64s (wl p.1.ba)++ [.slice p.2.ca p.1.co.length p.2.cc,.slice p.2.sa p.1.sl.length p.2.sc]))
structure AccRd (NK:Heaplet) (c:Nat) (p:AcA×AcI):Prop where
 ad:p.1.ad.length=20
 ba:p.1.ba<WW
 co:RSl NK 1 p.2.ca p.1.co.length p.2.cc (u8s p.1.co)
 cl:p.1.co.length≤1099511627776
 sl:RSl NK 8 p.2.sa p.1.sl.length p.2.sc (p.1.sl.flatMap slotC)
 ln:p.1.sl.length≤c
 kv: ∀q∈p.1.sl,q.1<WW∧q.2<WW
theorem AccRd.le {NK N2:Heaplet} {c:Nat} {p:AcA×AcI} (h:AccRd NK c p) (hl:NK.le N2):AccRd N2 c p:=⟨h.ad,h.ba,h.co.le hl,h.cl,h.sl.le hl,h.ln,h.kv⟩
section
variable {p : AcA × AcI}
theorem slotC_len (q:Nat×Nat):(slotC q).length=8:=rfl
theorem slotC_one (q:Nat×Nat):(slotC q).all (·.oneCell')=true:=rfl
theorem accC_len (h:p.1.ad.length=20):(accC p).length=27:=by
 rw [accC,List.length_append,cY,h];rfl
theorem accC_one:(accC p).all (·.oneCell')=true:=by
 rw [accC,List.all_append,len_A1];rfl
theorem accC_ad (h:p.1.ad.length=20):((accC p).drop 0).take 20=u8s p.1.ad:=by
 rw [List.drop_zero,accC,List.take_left' (by rw [cY,h])]
theorem accC_ge (h:p.1.ad.length=20) (j:Nat):(accC p)[20+j]? =(Value.int .u64 (p.1.no.toNat:Int)::(u64s (wl p.1.ba)++ [Value.slice p.2.ca p.1.co.length p.2.cc,Value.slice p.2.sa p.1.sl.length p.2.sc]))[j]? :=by
 have hl:(u8s p.1.ad).length=20:=by rw [cY,h]
 rw [accC,List.getElem?_append_right (by omega),hl,Nat.add_sub_cancel_left]
theorem accC_no (h:p.1.ad.length=20):(accC p)[20]? =some (.int .u64 (p.1.no.toNat:Int)):=accC_ge h 0
theorem accC_ba (h:p.1.ad.length=20):((accC p).drop 21).take 4=u64s (wl p.1.ba):=by
 rw [show 21=20+1 from rfl, ←List.drop_drop,accC,List.drop_left' (by rw [cY,h])];rfl
theorem accC_co (h:p.1.ad.length=20):(accC p)[25]? =some (.slice p.2.ca p.1.co.length p.2.cc):=accC_ge h 5
theorem accC_sl (h:p.1.ad.length=20):(accC p)[26]? =some (.slice p.2.sa p.1.sl.length p.2.sc):=accC_ge h 6
end
theorem flat_atS {α:Type} {k:Nat} (f:α→List Value): ∀ {xs:List α} {i:Nat} {x:α},(∀y∈xs,(f y).length=k)→xs[i]? =some x→((xs.flatMap f).drop (i*k)).take k=f x
 | [],i,x,_,h=>by simp at h
 |y::t,0,x,hl,h=>by
  simp at h;subst h
  rw [Nat.zero_mul,List.drop_zero,List.flatMap_cons,List.take_left' (hl y (by simp))]
 |y::t,i+1,x,hl,h=>by
  have ih:=flat_atS f (xs:=t) (i:=i) (x:=x) (fun z hz=>hl z (List.mem_cons_of_mem _ hz)) (by simpa using h)
  rw [List.flatMap_cons,show(i+1)*k=k+i*k by rw [Nat.succ_mul,Nat.add_comm], ←List.drop_drop,List.drop_left' (hl y (by simp)),ih]
section
variable {α β : Type} [DecidableEq α]
def putsF (l:List (α×β)) (sl:List (α×β)):List (α×β):=sl.foldl (fun l p=>putA p.1 p.2 l) l
theorem putA_new {l:List (α×β)} {k:α} {v:β} (h:getA k l=none):putA k v l=l++ [(k,v)]:=by rw [putA,delA_none h]
theorem putA_len {l:List (α×β)} (hd:DisA l) (k:α) (v:β):(putA k v l).length=if (getA k l).isSome=true then l.length else l.length+1:=by
 have:=delA_len hd k
 rw [putA,List.length_append]
 simp only [List.length_cons,List.length_nil]
 split<;>simp_all<;>omega
theorem puts_dis: ∀ {sl l:List (α×β)},DisA (l++sl)→putsF l sl=l++sl
 | [],l,_=>by simp [putsF]
 |p::r,l,h=>by
  have hn:getA p.1 l=none:=getA_none.2 fun q hq e=>by
   unfold DisA at h
   rw [List.map_append,List.nodup_append]at h
   exact h.2.2 q.1 (List.mem_map.2 ⟨q,hq,rfl⟩) p.1 (by simp) e
  show putsF (putA p.1 p.2 l) r=_
  rw [putA_new hn,puts_dis (by rw [List.append_assoc];exact h),List.append_assoc];rfl
theorem puts_len: ∀ {sl l:List (α×β)},DisA l→(putsF l sl).length≤l.length+sl.length∧DisA (putsF l sl)∧((putsF l sl).length=l.length+sl.length→DisA (l++sl))
 | [],l,h=>by simp [putsF,h]
 |p::r,l,h=>by
  obtain⟨a,b,c⟩:=puts_len (sl:=r) (h.put p.1 p.2)
  have hl:=putA_len h p.1 p.2
  have e:putsF l (p::r)=putsF (putA p.1 p.2 l) r:=rfl
  rw [e,List.length_cons]
  refine⟨by split at hl<;>omega,b,fun he=>?_⟩
  by_cases hg:(getA p.1 l).isSome=true
  ·rw [if_pos hg]at hl;omega
  ·rw [if_neg hg]at hl
   have hn:getA p.1 l=none:=by
    cases h0:getA p.1 l with
    |none=>rfl
    |some v=>rw [h0]at hg;exact absurd rfl hg
   have:=c (by omega)
   rw [putA_new hn,List.append_assoc]at this
   exact this
theorem puts_snoc {l sl:List (α×β)} {p:α×β} :putsF l (sl++ [p])=putA p.1 p.2 (putsF l sl):=by
 simp [putsF,List.foldl_append]
end
theorem take_nextS {α:Type} {l:List α} {i:Nat} {x:α} (h:l[i]? =some x):l.take (i+1)=l.take i++ [x]:=by
 rw [List.take_add_one,h];rfl
theorem load_step {b:List AcA} {i:Nat} {w:AcA} (h:LoadOk (b.take i)) (hw:b[i]? =some w) (hn:w.ad∉(b.take i).map AcA.ad) (hd:DisA w.sl):LoadOk (b.take (i+1)):=by
 rw [take_nextS hw]
 refine⟨?_,fun x hx=>?_⟩
 ·rw [List.map_append,List.nodup_append]
  exact⟨h.1,by simp,fun a ha c hc e=>hn (by
   simp only [List.map_cons,List.map_nil,List.mem_singleton]at hc
   rw [←hc, ←e];exact ha)⟩
 ·rcases List.mem_append.1 hx with hx|hx
  ·exact h.2 x hx
  ·rw [List.mem_singleton.1 hx];exact hd
theorem load_there {b:List AcA} {i:Nat} {w:AcA} (h:LoadOk b) (hw:b[i]? =some w):w.ad∉(b.take i).map AcA.ad∧DisA w.sl:=by
 refine⟨fun hm=>?_,h.2 w (List.mem_of_getElem? hw)⟩
 have h1:=h.1
 rw [←List.take_append_drop (i+1) b,take_nextS hw,List.map_append,List.map_append,List.nodup_append,List.nodup_append]at h1
 exact h1.1.2.2 w.ad hm w.ad (by simp) U
theorem ofA_mem {b:List AcA} {a:List UInt8} :(getA a (ofA b)).isSome=true↔a∈b.map AcA.ad:=by
 rw [←mem_keys,ofA,List.map_map];rfl
theorem ofA_snoc {b:List AcA} {w:AcA} :ofA (b++ [w])=ofA b++ [(w.ad,w.ac)]:=by simp [ofA]
theorem MdEq.load {l:AcR} {b:List AcA} {w:AcA} {xp:Nat} (h:MdEq l (ofA b)) (hn:w.ad∉b.map AcA.ad):MdEq ((w.ad,(xp,w.ac))::delA w.ad l) (ofA (b++ [w])):=fun a=>by
 rw [ofA_snoc,getA,getA_del,getA_app]
 by_cases e:w.ad=a
 ·subst e
  have hg:getA w.ad (ofA b)=none:=by
   cases h0:getA w.ad (ofA b)with
   |none=>rfl
   |some v=>exact absurd (ofA_mem.1 (by rw [h0];rfl)) hn
  rw [if_pos rfl,hg];simp [getA]
 ·rw [if_neg e,if_neg fun h=>e h.symm,h a,getA,if_neg e];simp [getA]
theorem puts_lt {sl:List (Nat×Nat)} (h: ∀q∈sl,q.2<WW): ∀p∈putsF [] sl,p.2<WW:=by
 have key: ∀ {sl l:List (Nat×Nat)},(∀q∈l,q.2<WW)→(∀q∈sl,q.2<WW)→ ∀p∈putsF l sl,p.2<WW:=by
  intro sl
  induction sl with
  |nil=>intro l h1 _ p hp;exact h1 p hp
  |cons q r ih=>
   intro l h1 h2 p hp
   refine ih (l:=putA q.1 q.2 l) (fun x hx=>?_) (fun x hx=>h2 x (List.mem_cons_of_mem _ hx)) p hp
   rcases List.mem_append.1 hx with hx|hx
   ·exact h1 x (mem_delA.1 hx).1
   ·rw [List.mem_singleton.1 hx];exact h2 q List.mem_cons_self
 exact key (fun _ h=>absurd h List.not_mem_nil) h
def LoadP (b:List AcA) (c:Nat) (v:Value) (L:List Heaplet):Prop:=(¬LoadOk b∧v=.tuple #[.pointer none,.int .i64 9]∧L= [])∨(LoadOk b∧ ∃sp,StP (.tuple #[.pointer (some ⟨sp,0,none⟩),.int .i64 0]) SAb.z (ofA b) sp c v L)
def planEq:Plan→Plan→Bool
 |.done,.done=>true
 |.take i p,.take j q=>Nat.beq i j&&planEq p q
 |.fork i s p r,.fork j t q u=>Nat.beq i j&&(s==t)&&planEq p q&&planEq r u
 |.nofork,.nofork=>true
 |_,_=>false
theorem planEq_eq: ∀ {p q:Plan},planEq p q=true→p=q
 |.done,.done,_=>rfl
 |.take i p,.take j q,h=>by
  simp only [planEq,Bool.and_eq_true]at h
  rw [Nat.eq_of_beq_eq_true h.1,planEq_eq h.2]
 |.fork i s p r,.fork j t q u,h=>by
  simp only [planEq,Bool.and_eq_true]at h
  rw [Nat.eq_of_beq_eq_true h.1.1.1,eq_of_beq h.1.1.2,planEq_eq h.1.2,planEq_eq h.2]
 |.nofork,.nofork,_=>rfl
 |.done,.take ..,h=>by cases h
 |.done,.fork ..,h=>by cases h
 |.done,.nofork,h=>by cases h
 |.take ..,.done,h=>by cases h
 |.take ..,.fork ..,h=>by cases h
 |.take ..,.nofork,h=>by cases h
 |.fork ..,.done,h=>by cases h
 |.fork ..,.take ..,h=>by cases h
 |.fork ..,.nofork,h=>by cases h
 |.nofork,.done,h=>by cases h
 |.nofork,.take ..,h=>by cases h
 |.nofork,.fork ..,h=>by cases h
def netOK (acts:List Nat) (pe:Plan):Plan→List Nat→Bool
 |.fork i s p r,D=>bif acts.all D.contains then planEq (.fork i s p r) pe else acts.contains i&& !D.contains i&&netOK acts pe p (i::D)&&netOK acts pe r D
 |.nofork,D=> !acts.all D.contains
 |q,D=>acts.all D.contains&&planEq q pe
section
variable {P : Program} {n : Nat} {l l0 : List (Nat × Value)} {E : World} {L L0 Lst : List Heaplet} {Q : Exit → Act → World → Prop} {ops : Array Oper} {o : Oper} {acts : List Nat} {pe : Plan}
theorem At.net0 {Ψ:List Nat→List (Nat×Value)→List Heaplet→Prop} (hsub: ∀D l L,Ψ D l L→ ∀w,Hp E L w→Hp E Lst w)
 (hstep: ∀i∈acts, ∃o,ops[i]? =some o∧o.guard=none∧ ∀D l L X Y,Ψ D l L→i∉D→Nx P n l E L o X Y→(∀l' L',Ψ (i::D) l' L'→At n l' E L' Y)→At n l E L X)
 (hend: ∀D l L,Ψ D l L→(∀i∈acts,i∈D)→At n l E L (St.wpPlan P ops (Hp E Lst) Q pe)):
 ∀(p:Plan) (D:List Nat) (l:List (Nat×Value)) (L:List Heaplet),netOK acts pe p D=true→Ψ D l L→At n l E L (St.wpPlan P ops (Hp E Lst) Q p)
 |.fork i s p r,D,l,L,hp,hΨ=>by
  rw [netOK]at hp
  cases hall:acts.all D.contains with
  |true=>
   rw [hall]at hp
   rw [planEq_eq hp]
   exact hend D l L hΨ fun i hi=>by simpa using List.all_eq_true.1 hall i hi
  |false=>
   rw [hall]at hp
   simp only [cond_false,Bool.and_eq_true,Bool.not_eq_true']at hp
   obtain⟨⟨⟨h1,h2⟩,h4⟩,h5⟩:=hp
   obtain⟨o,ho,hg,hst⟩:=hstep i (by simpa using h1)
   refine At.fork ?_ (At.net0 hsub hstep hend r D l L h5 hΨ)
   exact hst D l L _ _ hΨ (by simpa using h2) (nxpa ho hg) fun l' L' h'=>fun a w hf hw=>⟨hsub _ _ _ h' w hw,At.net0 hsub hstep hend p _ l' L' h4 h' a w hf hw⟩
 |.nofork,D,l,L,hp,hΨ=>At.pNo
 |.done,D,l,L,hp,hΨ=>by
  simp only [netOK,Bool.and_eq_true]at hp
  rw [planEq_eq hp.2]
  exact hend D l L hΨ fun i hi=>by simpa using List.all_eq_true.1 hp.1 i hi
 |.take i p,D,l,L,hp,hΨ=>by
  simp only [netOK,Bool.and_eq_true]at hp
  rw [planEq_eq hp.2]
  exact hend D l L hΨ fun i hi=>by simpa using List.all_eq_true.1 hp.1 i hi
def NetV (P:Program) (n:Nat) (E:World) (ops:Array Oper) (l0:List (Nat×Value)) (L0:List Heaplet) (q:Nat×Nat×Value):Prop:=
 ∃o,ops[q.1]? =some o∧o.guard=none∧ ∀l L X Y,(∀j v,lk l0 j=some v→lk l j=some v)→(∀N∈L0,N∈L)→Nx P n l E L o X Y→At n ((q.2.1,q.2.2)::l) E L Y→At n l E L X
def NetA (P:Program) (n:Nat) (ops:Array Oper) (q:Nat×Nat×TypeId×List Value):Prop:=
 ∃ty pos aft zs,ops[q.1]? =some ⟨some q.2.1,.alloc q.2.2.1,ty,pos,aft,none⟩∧zer P q.2.2.1=some zs∧zs.cells.toList=q.2.2.2∧Nat.ble (q.2.1+1) n=true
abbrev NetM:=List (Nat×Nat×Heaplet)
structure NetS (l0:List (Nat×Value)) (L0:List Heaplet) (vals:List (Nat×Nat×Value)) (als:List (Nat×Nat×TypeId×List Value)) (D:List Nat) (l:List (Nat×Value)) (L:List Heaplet) (M:NetM):Prop where
 base: ∀j v,lk l0 j=some v→lk l j=some v
 vals: ∀q∈vals,q.1∈D→lk l q.2.1=some q.2.2
 nd:(M.map (·.1)).Nodup
 sub: ∀m∈M,m.1∈D
 all: ∀q∈als,q.1∈D→ ∃m∈M,m.1=q.1
 has: ∀m∈M, ∀q∈als,m.1=q.1→lk l q.2.1=some (.pointer (some ⟨m.2.1,0,none⟩))∧Blk m.2.2 m.2.1 q.2.2.1 q.2.2.2
 isA: ∀m∈M,m.1∈als.map (·.1)
 perm:L.Perm (M.map (·.2.2)++L0)
theorem lk_put {d j:Nat} {v x:Value} (h:lk l j=some v) (hd:d≠j):lk ((d,x)::l) j=some v:=by
 rw [lk]
 cases hb:Nat.beq d j with
 |true=>exact absurd (Nat.eq_of_beq_eq_true hb) hd
 |false=>exact h
theorem lk_self {d:Nat} {x:Value} :lk ((d,x)::l) d=some x:=by
 rw [lk,Nat.beq_refl];rfl
def NetK (K:List (Nat×Value)→List Heaplet→Prop):List (Nat×Nat×TypeId×List Value)→List (Nat×Value)→List Heaplet→Prop
 | [],l,L=>K l L
 |q::r,l,L=> ∀N b,Blk N b q.2.2.1 q.2.2.2→NetK K r ((q.2.1,.pointer (some ⟨b,0,none⟩))::l) (N::L)
theorem NetK.end {K:List (Nat×Value)→List Heaplet→Prop} : ∀(als:List (Nat×Nat×TypeId×List Value)) (l1:List (Nat×Value)) (L1:List Heaplet) (M:NetM),NetK K als l1 L1→(als.map (·.1)).Nodup→(M.map (·.1)).Perm (als.map (·.1))→(∀m∈M, ∀q∈als,m.1=q.1→lk l q.2.1=some (.pointer (some ⟨m.2.1,0,none⟩))∧Blk m.2.2 m.2.1 q.2.2.1 q.2.2.2)→(∀j v,lk l1 j=some v→lk l j=some v)→
 ∃l2 L2,K l2 L2∧(∀j v,lk l2 j=some v→lk l j=some v)∧(M.map (·.2.2)++L1).Perm L2
 | [],l1,L1,M,hK,_,hp,_,hb=>by
  have:M= []:=by
   have:=hp.length_eq
   simp only [List.length_map,List.map_nil,List.length_nil]at this
   exact List.eq_nil_of_length_eq_zero this
  subst this
  exact⟨l1,L1,hK,hb,.refl _⟩
 |q::r,l1,L1,M,hK,hn,hp,hh,hb=>by
  have hq:q.1∈M.map (·.1):=hp.mem_iff.2 (by simp)
  obtain⟨m,hm,e⟩:=List.mem_map.1 hq
  obtain⟨A,B,rfl⟩:=List.append_of_mem hm
  obtain⟨h1,h2⟩:=hh m hm q (by simp) e
  have hn':=List.nodup_cons.1 hn
  obtain⟨l2,L2,k1,k2,k3⟩:=NetK.end r ((q.2.1,.pointer (some ⟨m.2.1,0,none⟩))::l1) (m.2.2::L1) (A++B) (hK m.2.2 m.2.1 h2) hn'.2 (by
   have hp2:=hp
   rw [List.map_append,List.map_cons,List.map_cons,e]at hp2
   have hp3:=(List.perm_middle.symm.trans hp2)
   rw [List.map_append]
   exact hp3.cons_inv) (fun m' hm' q' hq'=>hh m' (by
    rcases List.mem_append.1 hm' with h|h
    ·exact List.mem_append_left _ h
    ·exact List.mem_append_right _ (List.mem_cons_of_mem _ h)) q' (List.mem_cons_of_mem _ hq')) (fun j v hj=>by
    rw [lk]at hj
    cases hbj:Nat.beq q.2.1 j with
    |true=>
     rw [hbj,cond_true]at hj
     rw [←Nat.eq_of_beq_eq_true hbj,h1];exact hj
    |false=>
     rw [hbj,cond_false]at hj
     exact hb j v hj)
  refine⟨l2,L2,k1,k2,(List.Perm.trans ?_ k3)⟩
  simp only [List.map_append,List.map_cons,List.append_assoc,List.cons_append]
  exact List.Perm.append_left _ (List.perm_middle.symm)
def slotsOf (vals:List (Nat×Nat×Value)):List (Nat×Value):=vals.map fun q=>(q.2.1,q.2.2)
theorem lk_slots {vals:List (Nat×Nat×Value)} (h: ∀q∈vals,lk l q.2.1=some q.2.2) (hb: ∀j v,lk l0 j=some v→lk l j=some v): ∀j v,lk (slotsOf vals++l0) j=some v→lk l j=some v:=by
 induction vals with
 |nil=>exact hb
 |cons q r ih=>
  intro j v hj
  have e:slotsOf (q::r)++l0=(q.2.1,q.2.2)::(slotsOf r++l0):=rfl
  rw [e,lk]at hj
  cases hbj:Nat.beq q.2.1 j with
  |true=>
   rw [hbj,cond_true]at hj
   rw [←Nat.eq_of_beq_eq_true hbj,h q (by simp)];exact hj
  |false=>
   rw [hbj,cond_false]at hj
   exact ih (fun q' hq'=>h q' (List.mem_cons_of_mem _ hq')) j v hj
theorem map_injN {α β:Type} {f:α→β} : ∀ {l:List α},(l.map f).Nodup→ ∀ {x y:α},x∈l→y∈l→f x=f y→x=y
 | [],_,_,_,hx,_,_=>by cases hx
 |a::r,h,x,y,hx,hy,e=>by
  obtain⟨h1,h2⟩:=List.nodup_cons.1 h
  rcases List.mem_cons.1 hx with e1|hx
  ·rcases List.mem_cons.1 hy with e2|hy
   ·rw [e1,e2]
   ·exact absurd (List.mem_map.2 ⟨y,hy,by rw [←e,e1]⟩) h1
  ·rcases List.mem_cons.1 hy with e2|hy
   ·exact absurd (List.mem_map.2 ⟨x,hx,by rw [e,e2]⟩) h1
   ·exact map_injN h2 hx hy e
theorem At.net (vals:List (Nat×Nat×Value)) (als:List (Nat×Nat×TypeId×List Value)) (pe:Plan) {p:Plan} (hp:netOK (vals.map (·.1)++als.map (·.1)) pe p []=true) (hs:Lst.Sublist L0)
 (hd:decide (vals.map (·.1)++als.map (·.1)).Nodup=true) (hd2:decide (vals.map (·.2.1)++als.map (·.2.1)).Nodup=true) (hl:((vals.map (·.2.1)++als.map (·.2.1)).all fun d=>(lk l0 d).isNone)=true)
 (hv: ∀q∈vals,NetV P n E ops l0 L0 q) (ha: ∀q∈als,NetA P n ops q)
 (h:NetK (fun l L=>At n l E L (St.wpPlan P ops (Hp E Lst) Q pe)) als (slotsOf vals++l0) L0):At n l0 E L0 (St.wpPlan P ops (Hp E Lst) Q p):=by
 have hd:=of_decide_eq_true hd
 have hd2:=of_decide_eq_true hd2
 have hl: ∀d,d∈vals.map (·.2.1)++als.map (·.2.1)→lk l0 d=none:=fun d hdm=>by
  have:=List.all_eq_true.1 hl d hdm
  cases h0:lk l0 d with
  |none=>rfl
  |some v=>rw [h0]at this;cases this
 obtain⟨n1,n2,n3⟩:=List.nodup_append.1 hd
 obtain⟨m1,m2,m3⟩:=List.nodup_append.1 hd2
 have inj1: ∀q∈vals, ∀q'∈vals,q.2.1=q'.2.1→q=q':=fun q hq q' hq'=>map_injN m1 hq hq'
 have inj2: ∀q∈als, ∀q'∈als,q.2.1=q'.2.1→q=q':=fun q hq q' hq'=>map_injN m2 hq hq'
 have inj3: ∀q∈als, ∀q'∈als,q.1=q'.1→q=q':=fun q hq q' hq'=>map_injN n2 hq hq'
 refine At.net0 (acts:=vals.map (·.1)++als.map (·.1)) (Ψ:=fun D l L=> ∃M,NetS l0 L0 vals als D l L M) (fun D l L ⟨M,hM⟩ w hw=>?_) (fun i hi=>?_) (fun D l L ⟨M,hM⟩ hall=>?_) p [] l0 L0 hp (show ∃M,NetS l0 L0 vals als [] l0 L0 M from⟨[],⟨fun _ _ h=>h,fun q _ h=>(by cases h),List.nodup_nil,fun m hm=>(by cases hm),fun q _ h=>(by cases h),fun m hm=>(by cases hm),fun m hm=>(by cases hm),.refl _⟩⟩)
 ·exact(hw.perm hM.perm).drop (List.Sublist.trans hs (List.sublist_append_right _ _))
 ·rcases List.mem_append.1 hi with hi|hi
  ·obtain⟨q,hq,rfl⟩:=List.mem_map.1 hi
   obtain⟨o,ho,hg,hst⟩:=hv q hq
   refine⟨o,ho,hg,fun D l L X Y ⟨M,hM⟩ hiD s hY=>hst l L X Y hM.base (fun N hN=>hM.perm.mem_iff.2 (List.mem_append_right _ hN)) s (hY _ _ ⟨M,(⟨fun j v hj=>lk_put (hM.base j v hj) fun e=>?_,fun q' hq' hD=>?_,hM.nd,fun m hm=>List.mem_cons_of_mem _ (hM.sub m hm),fun q' hq' hD=>?_,fun m hm q' hq' e=>?_,hM.isA,hM.perm⟩)⟩)⟩
   ·rw [←e,hl q.2.1 (List.mem_append_left _ (List.mem_map.2 ⟨q,hq,rfl⟩))]at hj;cases hj
   ·by_cases e:q.2.1=q'.2.1
    ·rw [←inj1 q hq q' hq' e];exact lk_self
    ·refine lk_put (hM.vals q' hq' ?_) e
     rcases List.mem_cons.1 hD with e2|hD
     ·exact absurd (by rw [map_injN n1 hq' hq e2]) e
     ·exact hD
   ·refine hM.all q' hq' ?_
    rcases List.mem_cons.1 hD with e2|hD
    ·exact absurd e2.symm (n3 q.1 (List.mem_map.2 ⟨q,hq,rfl⟩) q'.1 (List.mem_map.2 ⟨q',hq',rfl⟩))
    ·exact hD
   ·obtain⟨k1,k2⟩:=hM.has m hm q' hq' e
    exact⟨lk_put k1 (m3 q.2.1 (List.mem_map.2 ⟨q,hq,rfl⟩) q'.2.1 (List.mem_map.2 ⟨q',hq',rfl⟩)),k2⟩
  ·obtain⟨q,hq,rfl⟩:=List.mem_map.1 hi
   obtain⟨ty,pos,aft,zs,ho,hz,hzs,hn⟩:=ha q hq
   refine⟨_,ho,rfl,fun D l L X Y ⟨M,hM⟩ hiD s hY=>bZ (Nx.agree s) hz hn fun N b B=>hY _ _ ⟨(q.1,b,N)::M,?_⟩⟩
   rw [hzs]at B
   refine⟨fun j v hj=>lk_put (hM.base j v hj) fun e=>?_,fun q' hq' hD=>?_,?_,fun m hm=>?_,fun q' hq' hD=>?_,fun m hm q' hq' e=>?_,fun m hm=>?_,?_⟩
   ·rw [←e,hl q.2.1 (List.mem_append_right _ (List.mem_map.2 ⟨q,hq,rfl⟩))]at hj;cases hj
   ·refine lk_put (hM.vals q' hq' ?_) fun e=>m3 q'.2.1 (List.mem_map.2 ⟨q',hq',rfl⟩) q.2.1 (List.mem_map.2 ⟨q,hq,rfl⟩) e.symm
    rcases List.mem_cons.1 hD with e2|hD
    ·exact absurd e2 (n3 q'.1 (List.mem_map.2 ⟨q',hq',rfl⟩) q.1 (List.mem_map.2 ⟨q,hq,rfl⟩))
    ·exact hD
   ·rw [List.map_cons]
    exact List.nodup_cons.2 ⟨fun hm=>by
     obtain⟨m,hm,e⟩:=List.mem_map.1 hm
     exact hiD (e▸hM.sub m hm),hM.nd⟩
   ·rcases List.mem_cons.1 hm with rfl|hm
    ·exact List.mem_cons_self
    ·exact List.mem_cons_of_mem _ (hM.sub m hm)
   ·rcases List.mem_cons.1 hD with e2|hD
    ·exact⟨_,List.mem_cons_self,e2.symm⟩
    ·obtain⟨m,hm,e⟩:=hM.all q' hq' hD
     exact⟨m,List.mem_cons_of_mem _ hm,e⟩
   ·rcases List.mem_cons.1 hm with rfl|hm
    ·have:=inj3 q hq q' hq' e
     subst this
     exact⟨lk_self,B⟩
    ·obtain⟨k1,k2⟩:=hM.has m hm q' hq' e
     refine⟨lk_put k1 fun e2=>?_,k2⟩
     have:=inj2 q hq q' hq' e2
     subst this
     exact hiD (e▸hM.sub m hm)
   ·rcases List.mem_cons.1 hm with rfl|hm
    ·exact List.mem_map.2 ⟨q,hq,rfl⟩
    ·exact hM.isA m hm
   ·rw [List.map_cons,List.cons_append]
    exact hM.perm.cons _
 ·obtain⟨l2,L2,k1,k2,k3⟩:=NetK.end als _ _ M h n2 (by
   refine(List.perm_ext_iff_of_nodup hM.nd n2).2 fun j=>⟨fun hj=>?_,fun hj=>?_⟩
   ·obtain⟨m,hm,rfl⟩:=List.mem_map.1 hj
    exact hM.isA m hm
   ·obtain⟨q,hq,rfl⟩:=List.mem_map.1 hj
    obtain⟨m,hm,e⟩:=hM.all q hq (hall q.1 (List.mem_append_right _ hj))
    exact List.mem_map.2 ⟨m,hm,e⟩) hM.has (lk_slots (fun q hq=>hM.vals q hq (hall q.1 (List.mem_append_left _ (List.mem_map.2 ⟨q,hq,rfl⟩)))) hM.base)
  exact fun a w hf hw=>k1 a w ⟨hf.defers,hf.size,fun i v hi=>hf.get i v (k2 i v hi)⟩ (hw.perm (hM.perm.trans k3))
theorem Evs.up {xs:List Operand} {vs:List Value} (h:Evs l0 xs vs) (hb: ∀j v,lk l0 j=some v→lk l j=some v):Evs l xs vs:=by
 induction h with
 |nil=>exact .nil
 |cons h _ ih=>exact .cons (ev_up h hb) ih
where
 ev_up {x:Operand} {v:Value} (h:ev l0 x=some v) (hb: ∀j v,lk l0 j=some v→lk l j=some v):ev l x=some v:=by
  cases x with
  |tmp t=>exact hb t v h
  |const u=>exact h
  |global g=>exact h
  |func f=>exact h
theorem nvN {P:Program} {n:Nat} {E:World} {ops:Array Oper} {l0:List (Nat×Value)} {L0:List Heaplet} : ∀q∈([]:List (Nat×Nat×Value)),NetV P n E ops l0 L0 q:=fun _ h=>absurd h List.not_mem_nil
theorem nvC {q:Nat×Nat×Value} {r:List (Nat×Nat×Value)} (h:NetV P n E ops l0 L0 q) (k: ∀q∈r,NetV P n E ops l0 L0 q): ∀x∈q::r,NetV P n E ops l0 L0 x:=List.forall_mem_cons.2 ⟨h,k⟩
theorem naN {P:Program} {n:Nat} {ops:Array Oper} : ∀q∈([]:List (Nat×Nat×TypeId×List Value)),NetA P n ops q:=fun _ h=>absurd h List.not_mem_nil
theorem naC {q:Nat×Nat×TypeId×List Value} {r:List (Nat×Nat×TypeId×List Value)} (h:NetA P n ops q) (k: ∀q∈r,NetA P n ops q): ∀x∈q::r,NetA P n ops x:=List.forall_mem_cons.2 ⟨h,k⟩
theorem netCall {f:FuncId} {fn:Func} {xs:List Operand} {args:List Value} {ats:Array TypeId} {Lr:List Heaplet} {Post:Value→List Heaplet→Prop} {d i:Nat} {ty:TypeId} {pos:String} {aft:Array Edge} {v:Value} (ho:ops[i]? =some ⟨some d,.call ⟨.value (.func f),xs.toArray,ats⟩,ty,pos,aft,none⟩) (ha:Evs l0 xs args) (hc:Fn P f args.toArray [] Lr Post) (hfn:P.funcs[f]? =some fn) (hb:fn.body.isSome=true) (hne:(fn.name== "runtime.NumGoroutine")=false) (hr: ∀N∈Lr,N∈L0) (hn:Nat.ble (d+1) n=true)
 (hv: ∀u L1,Post u L1→u=v∧L1= []):NetV P n E ops l0 L0 (i,d,v):=
 ⟨_,ho,rfl,fun l L X Y hl hL s h=>bG (Nx.agree s) (ha.up hl) hc hfn hb hne (fun N hN=>hL N (hr N hN)) hn fun u L1 hu=>by
  obtain⟨rfl,rfl⟩:=hv u L1 hu
  exact h⟩
theorem netLook {d i:Nat} {ty t k e:TypeId} {m x:Operand} {pos:String} {aft:Array Edge} {key z v:Value} {kl:Lit} {b c:Nat} {D:DataW Value} {N:Heaplet} (ho:ops[i]? =some ⟨some d,.lookup t m x false,ty,pos,aft,none⟩) (K:Go.Maps.Keyed P k) (ht:P.underlying t=some (.map k e)) (hz: ∀w,(zeroValue e).run P w=.ok z w) (hm:ev l0 m=some (.map (some b))) (hx:ev l0 x=some key) (hb:MapV P k N b c D) (hk:keyOf P k key=some kl) (hv:D.atKey kl (.held z)=.held v) (hN:N∈L0) (hn:Nat.ble (d+1) n=true):NetV P n E ops l0 L0 (i,d,v):=
 ⟨_,ho,rfl,fun l L X Y hl hL s h=>op_lookupV1 (Nx.agree s) K ht hz (Evs.up.ev_up hm hl) (Evs.up.ev_up hx hl) hb hk hv (hL N hN) hn h⟩
end
theorem KTwinS {N:Heaplet} {ao:Option Addr} {n cap:Nat} {l:List UInt8} (h:RSl N 1 ao n cap (u8s l)) (m:Nat) (q:Int) (hq:q=(m:Int)) (hm:m≤140737488351232):
 Fn Tryz.prog 33 #[.slice ao n cap,.int .i64 q] [] [N] (fun v L=> ∃M a c,v=.slice a (l.take m).length c∧L= [M]∧Row M 5 1 a (l.take m).length c (u8s (l.take m))):=by
 have hlen:=h.len8
 have hcap:=h.cap63
 refine Fn.enter (vs:= [.slice ao n cap,.int .i64 q]) Tryz.func33 U U U ?_
 intro E R hR
 have h:=h.le (hR N (by simp))
 change At _ _ E [R] _
 refine aH fun _ s_1=>aB (bV U U (aI (s_1 (aH fun _ s_2=>aH fun _ s_3=>aB (bC U U (dB aN se37 U U (bC U U (op_gtr aN U U U (aI (s_3 (cD U (fun c8=>?_) (fun c8=>?_))))))))))))
 ·refine aB (bC U U (bC U U (op_slice0 aN se37 U (.some U (show _=(((m:Nat)):Int)from by omega)) .none (by omega) (by omega) (by simp) U ?_)))
  have s11:=h.take8 (hi:=m) (m:=cap) (by omega) (by omega) (by omega)
  refine bV U U (aI (s_2 (aH fun _ s_4=>aB (op_lit bT Tryz.underlying37 ze5 sz5 .nil U U (by simp [Value.cells]) U U U (fun N12 a12 r12=>?_)))))
  simp only [flatV,List.flatMap_cons,List.flatMap_nil,Value.cells,List.append_nil,List.cons_append,List.nil_append]at r12
  have s12:=r12.rsl
  refine bC U U ?_
  refine op_append nxQ Tryz.underlying37 Tryz.underlying37 te5 rfl rfl r12 (by assumption) (by simp) (by first|exact one_u8s _|exact one_u64s _|exact one_u32s _|(intro u hu;simp at hu;subst hu;rfl)) (by omega) (by omega) sel0 rfl (fun N14 a14 p14 r14=>?_)
  have s14:=r14.rsl
  refine bV U U (aI (s_4 (cK ((cF (L1:= [N14]) U (.tmp U .nil) (.refl _) aZ ?_)))))
  rw [List.nil_append,Nat.zero_add]at r14
  exact⟨N14,a14,p14,by rw [List.length_take,hlen,Nat.min_eq_left (by omega),Nat.zero_add],rfl,by rw [List.length_take,hlen,Nat.min_eq_left (by omega)];exact r14⟩
 refine cG (aS (s_2 (aH fun _ s_5=>aB (op_lit bT Tryz.underlying37 ze5 sz5 .nil U U (by simp [Value.cells]) U U U (fun N12 a12 r12=>?_)))))
 simp only [flatV,List.flatMap_cons,List.flatMap_nil,Value.cells,List.append_nil,List.cons_append,List.nil_append]at r12
 have s12:=r12.rsl
 refine bC U U ?_
 refine op_append nxQ Tryz.underlying37 Tryz.underlying37 te5 rfl rfl r12 (by assumption) (by simp) (by first|exact one_u8s _|exact one_u64s _|exact one_u32s _|(intro u hu;simp at hu;subst hu;rfl)) (by omega) (by omega) sel0 rfl (fun N14 a14 p14 r14=>?_)
 have s14:=r14.rsl
 refine bV U U (aI (s_5 (cK ((cF (L1:= [N14]) U (.tmp U .nil) (.refl _) aZ ?_)))))
 rw [List.nil_append,Nat.zero_add]at r14
 have e:l.take m=l:=List.take_of_length_le (by omega)
 exact⟨N14,a14,p14,by rw [e,hlen,Nat.zero_add],rfl,by rw [e,hlen];exact r14⟩
def logC (a:List UInt8) (u v:Value):List Value:=u8s a++ [u,v]
theorem logC_len {a:List UInt8} (h:a.length=20) (u v:Value):(logC a u v).length=22:=by
 rw [logC,List.length_append,cY,h];rfl
theorem logC_one {a:List UInt8} {u v:Value} (hu:u.oneCell'=true) (hv:v.oneCell'=true):(logC a u v).all (·.oneCell')=true:=by
 rw [logC,List.all_append,len_A1]
 simp [hu,hv]
theorem logC_ad {a:List UInt8} (h:a.length=20) (u v:Value):((logC a u v).drop 0).take 20=u8s a:=by
 rw [List.drop_zero,logC,List.take_left' (by rw [cY,h])]
theorem logC_20 {a:List UInt8} (h:a.length=20) {u v:Value} :(logC a u v)[20]? =some u:=by
 have hl:(u8s a).length=20:=by rw [cY,h]
 rw [logC,List.getElem?_append_right (by omega),hl];rfl
theorem logC_21 {a:List UInt8} (h:a.length=20) {u v:Value} :(logC a u v)[21]? =some v:=by
 have hl:(u8s a).length=20:=by rw [cY,h]
 rw [logC,List.getElem?_append_right (by omega),hl];rfl
theorem setL_appS {A B T xs:List Value} {p:Nat} (hp:A.length=p) (hx:xs.length=B.length):setL (A++(B++T)) p xs=A++(xs++T):=by
 have:=setL_append xs A B T hx.symm
 rw [hp]at this
 simpa [List.append_assoc]using this
theorem logC_top {a:List UInt8} (h:a.length=20) {u v w:Value} :setL (logC a u v) 20 [w]=logC a w v:=by
 have e: ∀w,logC a w v=u8s a++([w]++ [v]):=fun w=>rfl
 rw [e u,e w]
 exact setL_appS (by rw [cY,h]) U
theorem split22 {z:List Value} (h:z.length=22): ∃z0 z1 z2:List Value,z=z0++(z1++z2)∧z0.length=20∧z1.length=1∧z2.length=1:=by
 refine⟨z.take 20,(z.drop 20).take 1,z.drop 21,?_,by rw [List.length_take];omega,by rw [List.length_take,List.length_drop];omega,by rw [List.length_drop];omega⟩
 have h1:=List.take_append_drop 20 z
 have h2:=List.take_append_drop 1 (z.drop 20)
 rw [List.drop_drop]at h2
 rw [h2,h1]
theorem one_cells {u:Value} (h:u.oneCell'=true):u.cells.toList= [u]:=by cases u<;>first|rfl|cases h
theorem fill_log {a:List UInt8} {u v:Value} (hk:a.length=20) (hu:u.oneCell'=true) (hv:v.oneCell'=true) (z:List Value) (hz:z.length=22):fillL [(0,20),(20,1),(21,1)] z [(0,.agg (u8s a).toArray),(1,u),(2,v)]=some (logC a u v):=by
 obtain⟨z0,z1,z2,rfl,l0,l1,l2⟩:=split22 hz
 have hul:(u8s a).length=20:=by rw [cY,hk]
 have c0:(Value.agg (u8s a).toArray).cells.toList=u8s a:=rfl
 have c1:=one_cells hu
 have c2:=one_cells hv
 have e0:setL (z0++(z1++z2)) 0 (u8s a)=u8s a++(z1++z2):=by
  have:=setL_appS (A:= []) (B:=z0) (T:=z1++z2) (xs:=u8s a) (p:=0) rfl (by rw [hul,l0])
  simpa using this
 have e1:setL (u8s a++(z1++z2)) 20 [u]=u8s a++([u]++z2):=setL_appS hul (by rw [l1];rfl)
 have e2:setL (u8s a++([u]++z2)) 21 [v]=logC a u v:=by
  have:=setL_appS (A:=u8s a++ [u]) (B:=z2) (T:= []) (xs:= [v]) (p:=21) (by rw [List.length_append,hul];rfl) (by rw [l2];rfl)
  simpa [List.append_assoc,logC]using this
 simp only [fillL,List.getElem?_cons_zero,List.getElem?_cons_succ,c0,c1,c2,hul,e0,e1,e2]
 rw [if_pos ⟨trivial,by rw [hz];decide⟩,if_pos ⟨rfl,by simp [hul,l1,l2]⟩,if_pos ⟨rfl,by simp [hul,l2]⟩]
theorem fill_log2 {a:List UInt8} {v:Value} (hk:a.length=20) (hv:v.oneCell'=true) (z:List Value) (hz:z.length=22) (hd:(z.drop 20).take 1= [.slice none 0 0]):fillL [(0,20),(20,1),(21,1)] z [(0,.agg (u8s a).toArray),(2,v)]=some (logC a (.slice none 0 0) v):=by
 obtain⟨z0,z1,z2,rfl,l0,l1,l2⟩:=split22 hz
 rw [List.drop_left' l0,List.take_left' l1]at hd
 subst hd
 have hul:(u8s a).length=20:=by rw [cY,hk]
 have c0:(Value.agg (u8s a).toArray).cells.toList=u8s a:=rfl
 have c2:=one_cells hv
 have e0:setL (z0++([.slice none 0 0]++z2)) 0 (u8s a)=u8s a++([.slice none 0 0]++z2):=by
  have:=setL_appS (A:= []) (B:=z0) (T:= [.slice none 0 0]++z2) (xs:=u8s a) (p:=0) rfl (by rw [hul,l0])
  simpa using this
 have e2:setL (u8s a++([.slice none 0 0]++z2)) 21 [v]=logC a (.slice none 0 0) v:=by
  have:=setL_appS (A:=u8s a++ [.slice none 0 0]) (B:=z2) (T:= []) (xs:= [v]) (p:=21) (by rw [List.length_append,hul];rfl) (by rw [l2];rfl)
  simpa [List.append_assoc,logC]using this
 simp only [fillL,List.getElem?_cons_zero,List.getElem?_cons_succ,c0,c2,hul,e0,e2]
 rw [if_pos ⟨trivial,by rw [hz];decide⟩,if_pos ⟨rfl,by simp [hul,l2]⟩]
theorem FHClone {N:Heaplet} {ao:Option Addr} {n cap:Nat} {xs:List Value} (h:RSl N 32 ao n cap xs) (hone: ∀u∈xs,u.oneCell'=true) (hn:n≤1099511627776):Fn Tryz.prog 89 #[.slice ao n cap] [] [N] (fun v L=> ∃M a c,v=.slice a n c∧L= [M]∧RSl M 32 a n c xs):=by
 have hcp:=h.cap63
 refine Fn.enter (vs:= [.slice ao n cap]) Tryz.func89 U U U ?_
 intro E R hR
 have s0:=h.le (hR N (by simp))
 change At _ _ E [R] _
 refine aH fun _ s_1=>aB (bV U U (aI (s_1 (aH fun _ s_2=>aH fun _ s_3=>aB (bC U U (op_eqSl aN Tryz.underlying91 U U (aI (s_3 (At.condB U (fun c4=>?_) (fun c4=>?_))))))))))
 ·have hao:ao=none:=by simpa using c4
  have hn0:n=0:=by
   rcases Nat.eq_zero_or_pos n with h0|h0
   ·exact h0
   ·obtain⟨b,off,e,_⟩:=h.2.2.2 h0
    rw [hao]at e;cases e
  have hl0:xs= []:=List.eq_nil_of_length_eq_zero (by rw [h.1,hn0])
  refine aH fun _ s_4=>aB (bV U U (aI (s_4 (cK (dC ((At.empty (cF (L1:= [nilH]) U (.tmp U .nil) (.refl _) aZ ?_))))))))
  subst hn0
  subst hl0
  exact⟨nilH,none,0,rfl,rfl,(Row.nil nilH 0 32).rsl⟩
 refine cG (aS (s_2 (aH fun _ s_5=>aB (op_lit bT Tryz.underlying91 ze45 sz45 .nil U U (by simp [Value.cells]) U U U (fun N5 a5 r5=>?_)))))
 simp only [flatV,List.flatMap_cons,List.flatMap_nil,Value.cells,List.append_nil,List.cons_append,List.nil_append]at r5
 have s5:=r5.rsl
 refine bC U U (op_append nxQ Tryz.underlying91 Tryz.underlying91 te45 U U r5 s0 (by simp) hone (by omega) (by omega) sel0 U (fun N7 a7 p7 r7=>?_))
 have s7:=r7.rsl
 refine bV U U (aI (s_5 (cK ((cF (L1:= [N7]) U (.tmp U .nil) (.refl _) aZ ?_)))))
 exact⟨N7,a7,p7,by rw [Nat.zero_add],rfl,by
  have:=r7.rsl
  rw [Nat.zero_add]at this
  simpa using this⟩
structure LogV (K:Heaplet) (a:List UInt8) (ta:Option Addr) (tn tc:Nat) (xs:List Value) (da:Option Addr) (dc:Nat) (d:List UInt8):Prop where
 ad:a.length=20
 to:RSl K 32 ta tn tc xs
 on: ∀u∈xs,u.oneCell'=true
 tl:tn≤1099511627776
 da:RSl K 1 da d.length dc (u8s d)
 dl:d.length≤1099511627776
set_option maxHeartbeats 2000000 in
theorem FTwinL {K:Heaplet} {a:List UInt8} {ta da:Option Addr} {tn tc dc:Nat} {xs:List Value} {d:List UInt8} (h:LogV K a ta tn tc xs da dc d):Fn Tryz.prog 59 #[.agg (logC a (.slice ta tn tc) (.slice da d.length dc)).toArray] [] [K] (fun v L=> ∃J ta tc da dc,v=.agg (logC a (.slice ta tn tc) (.slice da d.length dc)).toArray∧L= [J]∧LogV J a ta tn tc xs da dc d):=by
 have hl:=logC_len h.ad
 have had:=h.ad
 have hon:=h.on
 have htl:=h.tl
 have hdl:=h.dl
 refine Fn.enter (vs:= [.agg (logC a (.slice ta tn tc) (.slice da d.length dc)).toArray]) Tryz.func59 U U U ?_
 intro E R hR
 have hNR:=hR K (by simp)
 have hto:=h.to.le hNR
 have hda:=h.da.le hNR
 change At _ _ E [R] _
 refine aH fun _ s_1=>aB (cU bT U U U (fun N1 b1 B1=>bZ bT ze93 U (fun N2 b2 B2=>?_)))
 change Blk N2 b2 _ [.int .u8 0,.int .u8 0,.int .u8 0,.int .u8 0,.int .u8 0,.int .u8 0,.int .u8 0,.int .u8 0,.int .u8 0,.int .u8 0,.int .u8 0,.int .u8 0,.int .u8 0,.int .u8 0,.int .u8 0,.int .u8 0,.int .u8 0,.int .u8 0,.int .u8 0,.int .u8 0,.slice none 0 0,.slice none 0 0]at B2
 refine aI (s_1 (aH fun _ s_2=>cS [N1,R] [9] [] [0,1,2,3,5,6,4,7,8,9] (by kernel_rfl) (by kernel_rfl) (.cons _ (.refl _)) (aJ (bB U U U) fl93_0 U U (aK (ds:=u8s a) (bB U U U) ag33 U B1 (by exact logC_ad had _ _) (by exact len_A had) cO U ?_))))
 refine aJ (bB U U U) fl93_1 U U (aU (bB U U U) sc91 U B1 (logC_20 had) cO U (aJ (bB U U U) fl93_2 U U (aU (bB U U U) sc37 U B1 (logC_21 had) cO U (bG (Nx.agree (nxsm U U U)) (.cons U .nil) (FHClone hto hon htl) Tryz.func89 U U (by simp) U ?_))))
 rintro _ _ ⟨N7,a7,c7,rfl,rfl,r7⟩
 show At _ _ _ [N7,N2,N1,R] _
 refine bI (bI (bF (bI (At.moreS (Lst:= [N1,R]) (Lst':= [N7,N1,R]) (.cons _ (.refl _)) (.cons _ (.refl _)) (bG (Nx.agree (nxsm U U U)) (.cons U .nil) (FBClone hda U hdl) Tryz.func30 U U (by simp) U ?_)))))
 rintro _ _ ⟨N10,a10,c10,rfl,rfl,r10⟩
 show At _ _ _ [N10,N2,N7,N1,R] _
 refine bA (bA (bA (bI (bA (At.moreS (Lst:= [N7,N1,R]) (Lst':= [N10,N7,N1,R]) (.cons _ (.refl _)) (.cons _ (.refl _)) (op_build (out:=logC a (.slice a7 tn c7) (.slice a10 d.length c10)) (bB U U U) ze93 pl93 (.cons U (.cons U (.cons U .nil))) (fill_log had U U _ U) U ?_))))))
 refine bP (nxsl U U U U) sz93 U U U (hl _ _) (logC_one U U) B2 (by rw [hl];decide) sel0 (fun N2 B2=>?_)
 rw [setL_full (by rw [hl];rfl)]at B2
 refine dH (aS (s_2 (cK ((bA (bA (bF (bI (bA (cV (fun Q Q1 Q2=>dropAt2 (bF (cH (bF (cF (L1:= [Q]) U (.cell U (res_agg (ds:=logC a (.slice a7 tn c7) (.slice a10 d.length c10)) ag93 B2 (bJ (hl _ _)) (hl _ _) cO) .nil) (.cons _ (.refl _)) aZ ?_)))))))))))))))
 exact⟨Q,a7,c7,a10,c10,rfl,rfl,had,r7.le Q1,hon,htl,r10.le Q2,hdl⟩
end Go.Proofs.YtalmjkcapecpiaaGreat
