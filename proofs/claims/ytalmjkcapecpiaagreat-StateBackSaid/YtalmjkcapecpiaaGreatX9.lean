/- Several texts in one: see the remarks ahead of each part. No condition but those told there. -/
import Derived.Test.YtalmjkcapecpiaaGreatX1
import Derived.Test.YtalmjkcapecpiaaGreatX8
import Derived.Test.YtalmjkcapecpiaaGreatX5
import Derived.Stop.BytesEq
import Derived.Test.YtalmjkcapecpiaaGreatX6
import Derived.Maps.Range
import Derived.RangeFuncLeaves
import Derived.RangeFuncSeq
import Derived.OwnWalkIn
import Derived.TacticsIn
set_option linter.unusedSimpArgs false
set_option linter.unusedVariables false
namespace Go.Proofs.YtalmjkcapecpiaaGreat
open Go Go.RowKit
set_option maxRecDepth 100000
theorem At.unjoin {n:Nat} {l:List (Nat×Value)} {E:World} {L:List Heaplet} {K:Act→World→Prop} {A B:Heaplet} (hA:Apart A B) (h:At n l E (A::B::L) K):At n l E (join2 A B::L) K:=fun a w hf hw=>h a w hf (by
 have hs:=List.pairwise_cons.1 hw.sep
 refine⟨hw.os,hw.tape,hw.output,fun N hN=>?_,?_⟩
 ·rcases List.mem_cons.1 hN with rfl|hN
  ·exact Heaplet.le_trans join2_left (hw.sub _ (List.mem_cons_self ..))
  ·rcases List.mem_cons.1 hN with rfl|hN
   ·exact Heaplet.le_trans (join2_right hA) (hw.sub _ (List.mem_cons_self ..))
   ·exact hw.sub N (List.mem_cons_of_mem _ hN)
 ·refine List.pairwise_cons.2 ⟨fun C hC=>?_,List.pairwise_cons.2 ⟨fun C hC=>?_,hs.2⟩⟩
  ·rcases List.mem_cons.1 hC with rfl|hC
   ·exact hA
   ·exact(hs.1 C hC).le join2_left (fun _ _ h=>h)
  ·exact(hs.1 C hC).le (join2_right hA) (fun _ _ h=>h))
section
variable {NS NF NA NT NM NW ND NP NQ NO NL NU NK : Heaplet} {t : SJ} {sp ma c : Nat} {DF : DataW Value} {l : AcR} {k : List UInt8}
theorem StO.S' (h:StO t NS NF NA NT NM NW ND NP NQ NO NL NU NK sp ma c DF l):Blk NS sp 85 (stK ma t.mt t.mm t.mw t.md t.ws t.tr t.og t.ab.rf (.slice t.la t.ln t.lc) (.slice t.ua t.un t.uc) (.slice t.ka t.kn t.kc) t.ab.tl):=h.J.S
def OpnP (ab:SAb) (l:AcR) (k:List UInt8) (sp c:Nat) (v:Value) (L:List Heaplet):Prop:= ∃(t:SJ) (ma:Nat) (DF:DataW Value) (l':AcR) (xp:Nat) (x:AcS) (NS NF NA NT NM NW ND NP NQ NO NL NU NK:Heaplet),v=.pointer (some ⟨xp,0,none⟩)∧L= [NS,NF,NA,NT,NM,NW,ND,NP,NQ,NO,NL,NU,NK]∧StO t NS NF NA NT NM NW ND NP NQ NO NL NU NK sp ma (c+2) DF l'∧t.ab= { ab with lt:=putA k () ab.lt } ∧getA k l'=some (xp,x)∧delA k l'=delA k l∧x=((getA k l).map Prod.snd).getD AcS.z
end
theorem FBClone {N:Heaplet} {ao:Option Addr} {n cap:Nat} {l:List UInt8} (h:RSl N 1 ao n cap (u8s l)) (hl:l.length=n) (hn:n≤1099511627776):Fn Tryz.prog 30 #[.slice ao n cap] [] [N] (fun v L=> ∃M a c,v=.slice a n c∧L= [M]∧RSl M 1 a n c (u8s l)):=by
 have hcp:=h.cap63
 refine Fn.enter (vs:= [.slice ao n cap]) Tryz.func30 U U U ?_
 intro E R hR
 have s0:=h.le (hR N (by simp))
 change At _ _ E [R] _
 refine aH fun _ s_1=>aB (bV U U (aI (s_1 (aH fun _ s_2=>aH fun _ s_3=>aB (bC U U (op_eqSl aN Tryz.underlying37 U U (aI (s_3 (At.condB U (fun c4=>?_) (fun c4=>?_))))))))))
 ·have hao:ao=none:=by simpa using c4
  have hn0:n=0:=by
   rcases Nat.eq_zero_or_pos n with h0|h0
   ·exact h0
   ·obtain⟨b,off,e,_⟩:=h.2.2.2 h0
    rw [hao]at e;cases e
  have hl0:l= []:=List.eq_nil_of_length_eq_zero (by omega)
  refine aH fun _ s_4=>aB (bV U U (aI (s_4 (cK (dC ((At.empty (cF (L1:= [nilH]) U (.tmp U .nil) (.refl _) aZ ?_))))))))
  subst hn0
  subst hl0
  exact⟨nilH,none,0,rfl,rfl,(Row.nil nilH 0 1).rsl⟩
 refine cG (aS (s_2 (aH fun _ s_5=>aB (op_lit bT Tryz.underlying37 ze5 sz5 .nil U U (by simp [Value.cells]) U U U (fun N5 a5 r5=>?_)))))
 simp only [flatV,List.flatMap_cons,List.flatMap_nil,Value.cells,List.append_nil,List.cons_append,List.nil_append]at r5
 have s5:=r5.rsl
 refine bC U U ?_
 refine op_append nxQ Tryz.underlying37 Tryz.underlying37 te5 rfl rfl r5 s0 (by simp) (by first|exact one_u8s _|exact one_u64s _|exact one_u32s _|(intro u hu;simp at hu;subst hu;rfl)) (by omega) (by omega) sel0 rfl (fun N7 a7 p7 r7=>?_)
 have s7:=r7.rsl
 refine bV U U (aI (s_5 (cK ((cF (L1:= [N7]) U (.tmp U .nil) (.refl _) aZ ?_)))))
 exact⟨N7,a7,p7,by rw [Nat.zero_add],rfl,by
  have:=r7.rsl
  rw [Nat.zero_add]at this
  simpa using this⟩
section
variable {NS NF NA NT NM NW ND NP NQ NO NL NU NK : Heaplet} {t : SJ} {sp ma c : Nat} {DF : DataW Value} {l : AcR} {M : AcL} {k : List UInt8}
end
theorem all_range64: ∀(xs ys:List UInt64),xs.length=ys.length→((List.range xs.length).all fun i=>xs.getD i 0==ys.getD i 0)=(xs==ys)
 | [],[],_=>rfl
 |x::xs,y::ys,h=>by
  have ih:=all_range64 xs ys (by simpa using h)
  rw [List.length_cons,List.range_succ_eq_map,List.all_cons,List.all_map]
  simp only [List.getD_cons_zero,Function.comp_def,List.getD_cons_succ,ih]
  simp [List.cons_beq_cons]
 | [],_::_,h=>by simp at h
 |_::_,[],h=>by simp at h
section
variable {P : Program}
theorem run_equalIn_words (w:World) (d:Nat) (t e:TypeId) (n:Nat) (ht:P.underlying t=some (.array n e)) (he:P.underlying e=some (.int .u64)) (hsz: ∀w,(sizeOf e).run P w=.ok 1 w)
 (xs ys:List UInt64) (hx:xs.length=n) (hy:ys.length=n):
 (Op.equalIn (d+2) t (.agg (u64s xs).toArray) (.agg (u64s ys).toArray)).run P w=.ok (xs==ys) w:=by
 rw [←all_range64 xs ys (hx.trans hy.symm),hx,List.range_eq_range',Op.equalIn]
 simp only [Sem.run_bind,Go.run_underlying ht,Result.andThen_ok,hsz,Std.Legacy.Range.forIn_eq_forIn_range',Std.Legacy.Range.size,Nat.sub_zero,Nat.add_sub_cancel,Nat.div_one]
 have hl: ∀i∈List.range' 0 n 1,i<n:=fun i hi=>by simpa using (List.mem_range'_1.1 hi).2
 generalize List.range' 0 n 1=l at hl⊢
 induction l with
 |nil=>simp
 |cons i l ih=>
  have hi:i<n:=hl i (by simp)
  have px:(part e (u64s xs).toArray (i*1)).run P w=.ok (.int .u64 ((xs.getD i 0).toNat:Int)) w:=by
   simp [part,isAgg,Go.run_underlying he,u64s,vl,List.getD,List.getElem?_eq_getElem (show i<xs.length by omega)]
  have py:(part e (u64s ys).toArray (i*1)).run P w=.ok (.int .u64 ((ys.getD i 0).toNat:Int)) w:=by
   simp [part,isAgg,Go.run_underlying he,u64s,vl,List.getD,List.getElem?_eq_getElem (show i<ys.length by omega)]
  have pe:(Op.equalIn (d+1) e (.int .u64 ((xs.getD i 0).toNat:Int)) (.int .u64 ((ys.getD i 0).toNat:Int))).run P w=.ok (xs.getD i 0==ys.getD i 0) w:=by
   rw [run_equalIn_int w d e .u64 .u64 _ _ he]
   congr 1
   rw [Bool.eq_iff_iff]
   simp [←UInt64.toNat_inj]
   omega
  simp only [List.forIn_cons,Sem.run_bind,px,py,pe,Result.andThen_ok,List.all_cons]
  cases hb:(xs.getD i 0==ys.getD i 0)
  ·simp
  ·simp only [Bool.not_true,Bool.false_eq_true,if_false,Sem.run_pure,Result.andThen_ok,Bool.true_and]
   exact ih fun j hj=>hl j (by simp [hj])
theorem eqGuard_agg {op:BinOp} {t:TypeId} {x y:Operand} {a b:Array Value} (h:P.eqGuardType P.depth t=false) (w:World):(eqGuard op t x y (.agg a) (.agg b)).run P w=.ok () w:=by
 unfold eqGuard
 by_cases ho:(!(op matches .eql|.neq))=true<;>simp [ho,h]
variable {n : Nat} {l : List (Nat × Value)} {E : World} {L Ls : List Heaplet} {X Y : Act → World → Prop} {d : Nat} {t t' ty e : TypeId} {x y : Operand}
theorem op_eqW {a b:List UInt64} {k:Nat} {pos:_} {aft:_} {g:_} (s:NxF P n l E L Ls ⟨some d,.binOp .eql t x y t',ty,pos,aft,g⟩ X Y) (ht:aelt P t=some (k,e,1)) (he:P.underlying e=some (.int .u64)) (hg:P.eqGuardType P.depth t=false) (hx:ev l x=some (.agg (u64s a).toArray)) (hy:ev l y=some (.agg (u64s b).toArray)) (ha:a.length=k) (hb:b.length=k) (hn:Nat.ble (d+1) n=true) (h:At n ((d,.bool (decide (a=b)))::l) E L Y):At n l E L X:=by
 obtain⟨hu,i,hi,hsz⟩:=aelt_spec ht
 exact op_bin s hx hy (fun w=>eqGuard_agg hg w) (fun w=>by
  rw [run_eql_struct,run_equalIn_words w 9998 t e k hu he (fun w=>by rw [run_sizeOf hi,hsz]) a b ha hb]
  simp only [Result.andThen_ok,show(a==b)=decide (a=b)from by rw [Bool.eq_iff_iff];simp]) hn h
end
def firstA (p:List UInt8×Nat) (v:Nat) (lo:List ((List UInt8×Nat)×Nat)):List ((List UInt8×Nat)×Nat):=if (getA p lo).isSome=true then lo else putA p v lo
theorem wl_zero4 {y:Nat} (hy:y<WW):wl y= [0,0,0,0]↔y=0:=⟨fun h=>wl_inj hy (by decide) (h.trans (by rfl)),fun h=>by rw [h];rfl⟩
section
variable {NS NF NA NT NM NW ND NP NQ NO NL NU NK : Heaplet} {t : SJ} {sp ma c : Nat} {DF : DataW Value} {l : AcR} {M : AcL} {k : List UInt8}
set_option maxHeartbeats 8000000 in
theorem FFirst {mt mm mw md ws tr og:Nat} {rf:UInt64} {lg un mk:Value} {tl:Int} {DO:DataW Value} {lo:List ((List UInt8×Nat)×Nat)} {x v:Nat} (BS:Blk NS sp 85 (stK ma mt mm mw md ws tr og rf lg un mk tl)) (hM:MapV Tryz.prog 105 NO og c DO) (hA:MapA keyPP okPl wordV DO lo) (hk:okPl (k,x)) (hc:c≤1099511627776):
 Fn Tryz.prog 53 #[.pointer (some ⟨sp,0,none⟩),.agg (u8s k++u64s (wl x)).toArray,.agg (u64s (wl v)).toArray] [NO] [NS] (fun w L=> ∃(NO:Heaplet) (DO:DataW Value),w=.tuple #[]∧L= [NO]∧MapV Tryz.prog 105 NO og (c+1) DO∧MapA keyPP okPl wordV DO (firstA (k,x) v lo)):=by
 have hul:(u8s k++u64s (wl x)).length=24:=place_len (k:=(k,x)) hk
 obtain⟨old,hlk⟩: ∃old,DO.atKey (keyPP (k,x)) (.held (wordV 0))=.held (wordV old):=by
  rw [hA.look hk]
  cases getA (k,x) lo with
  |none=>exact⟨0,rfl⟩
  |some y=>exact⟨y,rfl⟩
 have hh:=hA.has (k,x) hk
 obtain⟨b,hb⟩: ∃b,Maps.has DO (keyPP (k,x))=b:=⟨_,rfl⟩
 rw [hb]at hh
 refine Fn.enter (vs:= [.pointer (some ⟨sp,0,none⟩),.agg (u8s k++u64s (wl x)).toArray,.agg (u64s (wl v)).toArray]) Tryz.func53 U U U ?_
 intro E R hR
 have BR:=BS.le (hR NS (by simp))
 change At _ _ E [NO,R] _
 refine aH fun _ s_1=>aB (cU bT U U U (fun N4 b4 B4=>cU bT U U U (fun N5 b5 B5=>aI (s_1 (aH fun _ s_2=>bI (bF (bI (bI (At.planS [NO,N4,R] (.take 0 (.take 1 (.take 2 (.take 3 (.take 4 (.take 5 (.fork 6 true (.take 7 (.take 8 (.take 9 (.fork 10 false (.fork 11 false (.take 12 .done) .nofork) .nofork)))) (.fork 10 false (.fork 6 false (.take 7 (.take 8 (.take 9 (.fork 11 false (.take 12 .done) .nofork)))) .nofork) .nofork)))))))) (by kernel_rfl) (by kernel_rfl) (.cons _ (.refl _)) (aR (nxpf U U) U U (bH (nxpf U U) U U (aJ (nxpf U U) fl85_1 U U (aJ (nxpf U U) fl83_6 U U (aU (nxpf U U) sc79 U BR U mem2 U ?_))))))))))))))
 refine aK (ds:=u8s k++u64s (wl x)) (nxpf U U) ag105 U B4 (by exact bJ hul) (by exact hul) dG U ?_
 refine At.fork ?_ ?_
 rotate_left
 ·refine At.fork ?_ ?_
  rotate_left
  ·exact At.pNo
  refine bZ (Nx.agree (nxpa U U)) ze36 U (fun N6 b6 B6=>?_)
  change Blk N6 b6 _ [.int .u64 0,.int .u64 0,.int .u64 0,.int .u64 0]at B6
  refine At.andS (.cons _ (.cons _ (.refl _))) (At.fork ?_ ?_)
  rotate_left
  ·exact At.pNo
  refine op_lookupV (Nx.agree (nxpa U U)) kd105 Tryz.underlying79 (fun _=>by first|rfl|kernel_rfl) U U hM (keyP_spec hk.1 x) (hlk) (by simp) U ?_
  refine At.andS (.cons _ (.cons _ (.refl _))) ?_
  rw [show Maps.has DO (keyP k x)=b from hb]
  refine aR (nxpf U U) U U (bW (nxpf U U) U U U (bW (nxpf U U) U U U (At.fork ?_ ?_)))
  rotate_left
  ·exact At.pNo
  refine bP (nxpa U U) sz36 U U U (bQ old) (one_wl old) B6 (by simp) sel0 (fun N6 B6=>?_)
  skip
  refine At.andS (.cons _ (.cons _ (.refl _))) (cZ (nxpf U U) U U (At.pDone (aS (s_2 (aH fun _ s_3=>aB (bC U U (op_not aN U U (aI (s_3 (At.condB U (fun c19=>?_) (fun c19=>?_)))))))))))
  ·refine bA (bF (bA (bA (bA (cS [NO,N4,N5,R] [7] [] [0,1,2,3,4,5,6,7] (by kernel_rfl) (by kernel_rfl) (.cons _ (.refl _)) (aR (bB U U U) U U (bH (bB U U U) U U (aJ (bB U U U) fl85_1 U U (aJ (bB U U U) fl83_6 U U (aU (bB U U U) sc79 U BR U mem3 U ?_))))))))))
   refine aK (ds:=u8s k++u64s (wl x)) (bB U U U) ag105 U B4 (by exact bJ hul) (by exact hul) dG U ?_
   refine aK (ds:=u64s (wl v)) (bB U U U) ag36 U B5 (by exact bJ (bQ v)) (by exact bQ v) mem2 U ?_
   refine op_mapUpdateV (nxsl U U U U) kd105 Tryz.underlying79 U U U hM ((by unfold maxLen;omega)) (keyP_spec hk.1 x) sel1 (fun NO hM hoO=>?_)
   refine dH (dropAt3 (dropAt2 (cT (cQ (L1:= [NO]) U .nil U (.refl _) aZ ?_))))
   have hbf:(getA (k,x) lo).isSome=false:=by rw [←hh];simpa using c19
   exact⟨NO,_,rfl,rfl,hM,by rw [firstA,if_neg (by rw [hbf];decide)];exact hA.put keE_P hk v⟩
  refine cG (dropAt3 (cT (dropAt0 (cQ (L1:= [NO]) U .nil U (.refl _) aZ ?_))))
  have hbf:(getA (k,x) lo).isSome=true:=by rw [←hh];simpa using c19
  exact⟨NO,_,rfl,rfl,hM.mono (Nat.le_succ _),by rw [firstA,if_pos hbf];exact hA⟩
 refine op_lookupV (Nx.agree (nxpa U U)) kd105 Tryz.underlying79 (fun _=>by first|rfl|kernel_rfl) U U hM (keyP_spec hk.1 x) (hlk) (by simp) U ?_
 refine At.andS (.cons _ (.refl _)) ?_
 rw [show Maps.has DO (keyP k x)=b from hb]
 refine aR (nxpf U U) U U (bW (nxpf U U) U U U (bW (nxpf U U) U U U (At.fork ?_ ?_)))
 rotate_left
 ·exact At.pNo
 refine bZ (Nx.agree (nxpa U U)) ze36 U (fun N6 b6 B6=>?_)
 change Blk N6 b6 _ [.int .u64 0,.int .u64 0,.int .u64 0,.int .u64 0]at B6
 refine At.andS (.cons _ (.cons _ (.refl _))) (At.fork ?_ ?_)
 rotate_left
 ·exact At.pNo
 refine bP (nxpa U U) sz36 U U U (bQ old) (one_wl old) B6 (by simp) sel0 (fun N6 B6=>?_)
 skip
 refine At.andS (.cons _ (.cons _ (.refl _))) (cZ (nxpf U U) U U (At.pDone (aS (s_2 (aH fun _ s_4=>aB (bC U U (op_not aN U U (aI (s_4 (At.condB U (fun c19=>?_) (fun c19=>?_)))))))))))
 ·refine bA (bF (bA (bA (bA (cS [NO,N4,N5,R] [7] [] [0,1,2,3,4,5,6,7] (by kernel_rfl) (by kernel_rfl) (.cons _ (.refl _)) (aR (bB U U U) U U (bH (bB U U U) U U (aJ (bB U U U) fl85_1 U U (aJ (bB U U U) fl83_6 U U (aU (bB U U U) sc79 U BR U mem3 U ?_))))))))))
  refine aK (ds:=u8s k++u64s (wl x)) (bB U U U) ag105 U B4 (by exact bJ hul) (by exact hul) dG U ?_
  refine aK (ds:=u64s (wl v)) (bB U U U) ag36 U B5 (by exact bJ (bQ v)) (by exact bQ v) mem2 U ?_
  refine op_mapUpdateV (nxsl U U U U) kd105 Tryz.underlying79 U U U hM ((by unfold maxLen;omega)) (keyP_spec hk.1 x) sel1 (fun NO hM hoO=>?_)
  refine dH (dropAt3 (dropAt2 (cT (cQ (L1:= [NO]) U .nil U (.refl _) aZ ?_))))
  have hbf:(getA (k,x) lo).isSome=false:=by rw [←hh];simpa using c19
  exact⟨NO,_,rfl,rfl,hM,by rw [firstA,if_neg (by rw [hbf];decide)];exact hA.put keE_P hk v⟩
 refine cG (dropAt3 (cT (dropAt0 (cQ (L1:= [NO]) U .nil U (.refl _) aZ ?_))))
 have hbf:(getA (k,x) lo).isSome=true:=by rw [←hh];simpa using c19
 exact⟨NO,_,rfl,rfl,hM.mono (Nat.le_succ _),by rw [firstA,if_pos hbf];exact hA⟩
end
open Go.Maps (Keyed)
open Go.MapKept Go.ChangeShapes Go.WideShapes
def RngN (P:Program) (k:TypeId) (M:Heaplet) (r:Nat) (N:Heaplet) (b n:Nat) (D:DataW Value) (left:Lit→Bool) (cnt:Nat):Prop:=
 ∃om es clock,M r=some om∧N b=some (.map es clock)∧ ∀w:World,w.heap[r]? =some om→w.heap[b]? =some (.map es clock)→w.ranges P k heldV b r n D left cnt
theorem RngN.le {P:Program} {k:TypeId} {M M' N N':Heaplet} {r b n:Nat} {D:DataW Value} {left:Lit→Bool} {cnt:Nat} (h:RngN P k M r N b n D left cnt) (h1:M.le M') (h2:N.le N'):RngN P k M' r N' b n D left cnt:=by
 obtain⟨om,es,clock,a,c,d⟩:=h
 exact⟨om,es,clock,h1 _ _ a,h2 _ _ c,d⟩
theorem rng_all {P:Program} {k:TypeId} {w:World} {r b n:Nat} {D:DataW Value} {left:Lit→Bool} {cnt:Nat} {om:Obj} {es:Array MapEntry} {clock:Nat} (h:w.ranges P k heldV b r n D left cnt) (hr:w.heap[r]? =some om) (hb:w.heap[b]? =some (.map es clock)): ∀w':World,w'.heap[r]? =some om→w'.heap[b]? =some (.map es clock)→w'.ranges P k heldV b r n D left cnt:=fun w' hr' hb'=>by
 obtain⟨es0,cl0,since,seen,c0,k1,k2,k3,k4,k5,k6⟩:=h
 rw [hb]at k1
 cases k1
 rw [hr]at k5
 cases k5
 exact⟨es,clock,since,seen,c0,hb',k2,k3,k4,hr',k6⟩
section
variable {P : Program} {n : Nat} {l : List (Nat × Value)} {E : World} {L L1 Ls : List Heaplet} {X Y : Act → World → Prop} {d : Nat} {t ty k e : TypeId} {m it : Operand} {N M : Heaplet} {b c r cnt : Nat} {D : DataW Value} {left : Lit → Bool}
theorem op_range {pos:_} {aft:_} {g:_} (s:NxA P n l E L ⟨some d,.range t m,ty,pos,aft,g⟩ X Y) (K:Keyed P k) (ht:P.underlying t=some (.map k e)) (hm:ev l m=some (.map (some b))) (hb:MapV P k N b c D) (hN:N∈L) (hn:Nat.ble (d+1) n=true)
 (h: ∀M r,RngN P k M r N b c D (Maps.has D) (Maps.size D)→At n ((d,.pointer (some ⟨r,0,none⟩))::l) E (M::L) Y):At n l E L X:=by
 refine op_new s (fun v L'=> ∃M r,v=.pointer (some ⟨r,0,none⟩)∧L'=M::L∧RngN P k M r N b c D (Maps.has D) (Maps.size D)) (fun a w hf hw=>?_) rfl hn (fun v L' ⟨M,r,hv,hL,hB⟩=>by subst hv;subst hL;exact h M r hB)
 obtain⟨es,clock,hNb,hown⟩:=hb
 have hwb:=hw.sub N hN _ _ hNb
 have ho:=hown w hwb
 obtain⟨w',hrun,r1,r2,r3⟩:=ho.range K ht
 have hlt:=(Array.getElem?_eq_some_iff.1 hwb).1
 have hb':w'.heap[b]? =some (.map es clock):=(r2.block b hlt (by simp)).trans hwb
 obtain⟨om,hom⟩: ∃om,w'.heap[w.heap.size]? =some om:=⟨_,Array.getElem?_eq_getElem (by omega)⟩
 have hag:Agree w w':=fun j hj=>r2.block j hj (by simp)
 refine⟨.pointer (some ⟨w.heap.size,0,none⟩),w',single w.heap.size om::L,?_,hag,hw.push r2.os r2.tape r2.output hag (fun j o hj=>?_) (fun j o hj=>?_),single w.heap.size om,w.heap.size,rfl,rfl,om,es,clock,if_pos rfl,hNb,rng_all r1 hom hb'⟩
 ·simp only [execOp,hf.eval hm,Sem.run_bind,hrun,Result.andThen_ok]
  rfl
 ·unfold single at hj
  split at hj
  ·rename_i e;subst e;cases hj;exact hom
  ·cases hj
 ·unfold single at hj
  split at hj
  ·rename_i e;subst e;exact Nat.le_refl _
  ·cases hj
def EntN (P:Program) (M:Heaplet) (r:Nat) (N:Heaplet) (b:Nat) (key v:Value):Prop:=
 ∃om mo,M r=some om∧N b=some mo∧ ∀w:World,w.heap[r]? =some om→w.heap[b]? =some mo→(Instr.entry (.pointer (some ⟨r,0,none⟩))).run P w=.ok (.tuple #[key,v]) w
theorem entry_all {w:World} {om:Obj} {es:Array MapEntry} {clock since c0:Nat} {seen:Array Nat} {key v:Value} (hom:om=.mapIter (some b) since seen c0) (hr:w.heap[r]? =some om) (hb:w.heap[b]? =some (.map es clock)) (hen:(Instr.entry (.pointer (some ⟨r,0,none⟩))).run P w=.ok (.tuple #[key,v]) w): ∀w':World,w'.heap[r]? =some om→w'.heap[b]? =some (.map es clock)→(Instr.entry (.pointer (some ⟨r,0,none⟩))).run P w'=.ok (.tuple #[key,v]) w':=fun w' hr' hb'=>by
 subst hom
 have g1: ∀(u:World),u.heap[r]? =some (.mapIter (some b) since seen c0)→(getObj r).run P u=.ok (.mapIter (some b) since seen c0) u:=fun u h=>by simp [getObj,Sem.run,h]
 simp only [Instr.entry,Sem.run_bind,g1 _ hr,g1 _ hr',Result.andThen_ok]at hen⊢
 cases hs:seen.back? with
 |none=>simp only [hs]at hen;cases hen
 |some stamp=>
  simp only [hs,Sem.run_bind,MapKept.run_getObj_map hb,MapKept.run_getObj_map hb',Result.andThen_ok]at hen⊢
  by_cases hcl:clock !=c0
  ·simp only [hcl,if_true]at hen
   cases hen
  ·simp only [hcl]at hen⊢
   simp only [Bool.false_eq_true,if_false]at hen⊢
   cases hf:es.find? (fun x=>x.born==stamp)with
   |none=>simp only [hf]at hen;cases hen
   |some x=>simp only [hf]at hen⊢;cases hen;rfl
theorem op_next {pos:_} {aft:_} {g:_} (s:Nx P n l E L ⟨some d,.next it false,ty,pos,aft,g⟩ X Y) (K:Keyed P k) (hi:ev l it=some (.pointer (some ⟨r,0,none⟩))) (hb:RngN P k M r N b c D left cnt) (hs:L.Perm (M::L1)) (hN:N∈L1) (hn:Nat.ble (d+1) n=true)
 (h0:cnt=0→(∀kl,left kl=false)→At n ((d,.tuple #[.bool false])::l) E (M::L1) Y)
 (h: ∀key v kl M' cnt',keyOf P k key=some kl→left kl=true→(∀zd,D.atKey kl zd=.held v)→RngN P k M' r N b c D (fun x=>left x&& !x.sameKey kl) cnt'→cnt'<cnt→EntN P M' r N b key v→At n ((d,.tuple #[.bool true,key,v])::l) E (M'::L1) Y):At n l E L X:=by
 refine op_upd s (fun v L'=>(v=.tuple #[.bool false]∧L'=M::L1∧cnt=0∧ ∀kl,left kl=false)∨ ∃key x kl M' cnt',v=.tuple #[.bool true,key,x]∧L'=M'::L1∧keyOf P k key=some kl∧left kl=true∧(∀zd,D.atKey kl zd=.held x)∧RngN P k M' r N b c D (fun x=>left x&& !x.sameKey kl) cnt'∧cnt'<cnt∧EntN P M' r N b key x) (fun a w hf hw=>?_) U hn (fun v L' hp=>?_)
 ·have hw2:=hw.perm hs
  obtain⟨om,es,clock,hMr,hNb,hall⟩:=hb
  have hwr:=hw2.sub M (List.mem_cons_self ..) _ _ hMr
  have hwb:=hw2.sub N (List.mem_cons_of_mem _ hN) _ _ hNb
  have hrg:=hall w hwr hwb
  rcases hrg.next K ty with ⟨hz,hl,hrun⟩|⟨key,v,kl,y,w',cnt',q1,q2,q3,q4,hrun,hrg',q5,hg,hsz,hen⟩
  ·refine⟨_,w,M::L1,?_,hw2,.inl ⟨rfl,rfl,hz,hl⟩⟩
   simp only [execOp,hf.eval hi,Sem.run_bind,hrun,Result.andThen_ok]
   rfl
  ·cases q3
   have hne:=hrg.ne
   have hltb:=(Array.getElem?_eq_some_iff.1 hwb).1
   have hltr:=(Array.getElem?_eq_some_iff.1 hwr).1
   have hb':w'.heap[b]? =some (.map es clock):=(hg.block b hltb (by simpa using hne.symm)).trans hwb
   obtain⟨es',cl',since,seen,c0,p1,p2,p3,p4,p5,p6⟩:=id hrg'
   refine⟨_,w',upd M r (.mapIter (some b) since seen c0)::L1,?_,hw2.put hMr hg.os hg.tape hg.output p5 (fun j hj hlt=>hg.block j hlt (by simpa using hj)),.inr ⟨key,v,kl,_,cnt',rfl,rfl,q1,q2,q4,⟨_,es,clock,upd_self _ _ _,hNb,rng_all hrg' p5 hb'⟩,q5,⟨_,_,upd_self _ _ _,hNb,entry_all rfl p5 hb' hen⟩⟩⟩
   simp only [execOp,hf.eval hi,Sem.run_bind,hrun,Result.andThen_ok]
   rfl
 ·rcases hp with ⟨rfl,rfl,hz,hl⟩|⟨key,x,kl,M',cnt',rfl,rfl,q1,q2,q4,q5,q6,q7⟩
  ·exact h0 hz hl
  ·exact h key x kl M' cnt' q1 q2 q4 q5 q6 q7
theorem op_entry {pos:_} {aft:_} {g:_} {key v:Value} (s:NxF P n l E L Ls ⟨some d,.entry it,ty,pos,aft,g⟩ X Y) (hi:ev l it=some (.pointer (some ⟨r,0,none⟩))) (hb:EntN P M r N b key v) (hM:M∈Ls) (hN:N∈Ls) (hn:Nat.ble (d+1) n=true) (h:At n ((d,.tuple #[key,v])::l) E L Y):At n l E L X:=by
 refine op_val s (fun a w hf hw=>?_) U hn h
 obtain⟨om,mo,h1,h2,hall⟩:=hb
 have hrun:=hall w (hw.sub M hM _ _ h1) (hw.sub N hN _ _ h2)
 simp only [execOp,hf.eval hi,Sem.run_bind,hrun,Result.andThen_ok]
 rfl
end
def quietR:Result Next→Prop
 |.ok (.enter _ _) _=>False
 |.ok (.row _ _) _=>False
 |_=>True
theorem upon_in {F:Fence} {n:Nat} {P:Program} {o:Oper} {a:Act} {K:Act→World→Prop} {Q:Exit→Act→World→Prop} {r:Result Next} (hq:quietR r) (h:o.upon P a K (fun _ _ _=>False) r):o.uponIn F n P a K Q r:=by
 cases r with
 |ok x w=>cases x<;>first|exact h|exact hq.elim|exact h.elim
 |halt s w=>cases s<;>first|exact h.elim|exact h
theorem quiet_v {P:Program} {w:World} (s:Sem Value):quietR ((do pure (.value (←s)):Sem Next).run P w):=by
 rw [Sem.run_bind]
 cases s.run P w<;>trivial
theorem quiet_u {P:Program} {w:World} (s:Sem Unit):quietR ((do s;pure .skip:Sem Next).run P w):=by
 rw [Sem.run_bind]
 cases s.run P w<;>trivial
structure QuietO (P:Program) (o:Oper):Prop where
 about: ∀w ρ,o.about P w ρ=none
 defer: ∀c,o.op≠.defer c
 run: ∀ρ w,quietR ((execOp ρ o).run P w)
section
variable {P : Program} {d : Option Nat} {ty t t' e : TypeId} {x y : Operand} {pos : _} {aft : _} {g : _}
theorem quiet_move:QuietO P ⟨d,.move x,ty,pos,aft,g⟩:=⟨fun _ _=>rfl,fun _ h=>(by cases h),fun ρ w=>by simp only [execOp,Sem.run_pure];trivial⟩
theorem quiet_alloc:QuietO P ⟨d,.alloc t,ty,pos,aft,g⟩:=⟨fun _ _=>rfl,fun _ h=>(by cases h),fun ρ w=>quiet_v _⟩
theorem quiet_load:QuietO P ⟨d,.load t x,ty,pos,aft,g⟩:=⟨fun _ _=>rfl,fun _ h=>(by cases h),fun ρ w=>quiet_v _⟩
theorem quiet_store:QuietO P ⟨d,.store t x y,ty,pos,aft,g⟩:=⟨fun _ _=>rfl,fun _ h=>(by cases h),fun ρ w=>quiet_u _⟩
theorem quiet_buildSlice {m:Nat} {ps:Array (Nat×Operand)} :QuietO P ⟨d,.buildSlice t m ps,ty,pos,aft,g⟩:=⟨fun _ _=>rfl,fun _ h=>(by cases h),fun ρ w=>quiet_v _⟩
theorem quiet_not:QuietO P ⟨d,.unOp .not t x,ty,pos,aft,g⟩:=⟨fun _ _=>rfl,fun _ h=>(by cases h),fun ρ w=>quiet_v _⟩
theorem quiet_append {xs:Array Operand} {ats:Array TypeId} :QuietO P ⟨d,.call ⟨.builtin .append,xs,ats⟩,ty,pos,aft,g⟩:=⟨fun w ρ=>by
 simp [Oper.about,resolve,Target.leads],fun _ h=>(by cases h),fun ρ w=>by
 simp only [execOp,resolve,Sem.run_bind,Sem.run_pure,Result.andThen_ok,invoke,builtin]
 cases (Builtin.append_ ats ty (Array.map ρ xs)).run P w<;>trivial⟩
end
section
variable {F : Fence} {m : Nat} {P : Program} {n : Nat} {l : List (Nat × Value)} {E : World} {L L1 Ls : List Heaplet} {Q : Exit → Act → World → Prop} {ops : Array Oper} {rest : List Oper} {o : Oper} {X Y : Act → World → Prop}
theorem nxi (hg:o.guard=none) (hq:QuietO P o):Nx P n l E L o (wpListIn F m P ops Q (o::rest)) (wpListIn F m P ops Q rest):=fun a w _ _ hx=>
 wpListIn_plain hg fun K hK=>⟨fun f hf=>(by rw [hq.about]at hf;cases hf),by
  rw [Oper.semAt_plain F _ _ hq.defer]
  exact upon_in (hq.run _ _) (Oper.wp_mono hK hx)⟩
theorem nxif (hg:o.guard=none) (hq:QuietO P o):NxF P n l E L L o (wpListIn F m P ops Q (o::rest)) (wpListIn F m P ops Q rest):=(nxi hg hq).float
theorem nxia (hg:o.guard=none) (hq:QuietO P o):NxA P n l E L o (wpListIn F m P ops Q (o::rest)) (wpListIn F m P ops Q rest):=(nxi hg hq).agree
theorem At.opsNilI (h:At n l E L (Q .normal)):At n l E L (wpListIn F m P ops Q []):=h
theorem At.regionI {id:Nat} {ops:List Oper} (h:At n l E L (wpListIn Fence.wide 0 P ops.toArray Q ops)):At n l E L ((Code.region id ops.toArray false).wp P Q):=fun a w hf hw=>wpIn_wide.1 (wpIn_region_lit (h a w hf hw))
theorem At.regionF {id:Nat} {ops:List Oper} (h:At n l E L (wpListIn F m P ops.toArray Q ops)):At n l E L (fun a w=>(Code.region id ops.toArray false).wpIn F m P Q a w):=fun a w hf hw=>wpIn_region_lit (h a w hf hw)
def RndY (P:Program) (l:Nat) (v:Value) (N0:Heaplet) (Post:Heaplet→Prop):Prop:=
 ∀(E w:World) (R:Heaplet),Hp E [N0,R] w→YieldAt Fence.wide 0 P l #[v] w fun e w'=>e=.returned (.bool true)∧ ∃N',Post N'∧Hp E [N',R] w'
theorem op_yield {d ly:Nat} {ty:TypeId} {x y:Operand} {v:Value} {ats:Array TypeId} {pos:_} {aft:_} {N0:Heaplet} {Post:Heaplet→Prop} (hx:ev l x=some (.func (.yield ly) #[] #[])) (hy:ev l y=some v) (hr:RndY P ly v N0 Post) (hL:L.Perm (N0::L1)) (hn:Nat.ble (d+1) n=true)
 (h: ∀N',Post N'→At n ((d,.bool true)::l) E (N'::L1) (wpListIn Fence.wide 0 P ops Q rest)):At n l E L (wpListIn Fence.wide 0 P ops Q (⟨some d,.call ⟨.value x, #[y],ats⟩,ty,pos,aft,none⟩::rest)):=fun a w hf hw=>by
 have hw2:=hw.perm hL
 have hsep:=List.pairwise_cons.1 hw2.sep
 let R:Heaplet:=fun k=>if N0 k≠none then none else w.heap[k]?
 have hRw:R.le (whole w):=fun k o hk=>by
  simp only [R]at hk
  split at hk
  ·cases hk
  ·exact hk
 have hFR: ∀N∈L1,N.le R:=fun N hN k o hk=>by
  have hno: ¬N0 k≠none:=fun hMk=>by
   rcases hsep.1 N hN k with h|h
   ·exact hMk h
   ·rw [hk]at h;cases h
  simp only [R,if_neg hno]
  exact hw2.sub N (List.mem_cons_of_mem _ hN) k o hk
 have hwR:Hp E [N0,R] w:=by
  refine⟨hw.os,hw.tape,hw.output,fun N hN=>?_,?_⟩
  ·rcases List.mem_cons.1 hN with rfl|hN
   ·exact hw2.sub _ (List.mem_cons_self ..)
   ·simp at hN;subst hN;exact hRw
  ·refine List.pairwise_cons.2 ⟨fun B hB k=>?_,by simp⟩
   simp at hB;subst hB
   by_cases hAk:N0 k=none
   ·exact .inl hAk
   ·exact .inr (if_pos hAk)
 obtain⟨fn,tmps,asg,bd,hyl,hR⟩:=hr E w R hwR
 refine wpListIn_plain U fun K hK=>⟨fun f _=>trivial,?_⟩
 rw [Oper.semAt_plain Fence.wide _ _ (fun c h=>by cases h)]
 have hrun:(execOp a.eval ⟨some d,.call ⟨.value x, #[y],ats⟩,ty,pos,aft,none⟩).run P w=.ok (.round ly fn tmps asg bd) w:=by
  simp only [execOp,resolve,invoke,Sem.run_bind,Sem.run_pure,Result.andThen_ok,List.map_toArray,List.map_cons,List.map_nil,hf.eval hx,hf.eval hy,Deferred.ofValue,Array.empty_append,Array.append_empty,hyl]
 rw [hrun]
 refine⟨fun h=>(by cases h),hR.mono ?_⟩
 rintro e w' ⟨rfl,N',hP,hw'⟩
 refine hK _ _ (h N' hP _ _ (hf.put (Nat.le_of_ble_eq_true hn)) ?_)
 exact Hp.refine (L:= [N']) hw' hFR hsep.2
def SeqG {α:Type} (P:Program) (g:Nat) (lb:Array Value) (enc:α→Value) (ok:α→Prop) (S:List α→Prop) (mx:Nat) (Lr:List Heaplet):Prop:=
 ∀(l:Nat) (NI:List α→Heaplet→Prop) (N0:Heaplet),(∀pre x N,ok x→NI pre N→pre.length<mx→RndY P l (enc x) N (NI (pre++ [x])))→NI [] N0→
  Fn P g (#[.func (.yield l) #[] #[]]++lb) [N0] Lr (fun _ L=> ∃xs N,L= [N]∧S xs∧NI xs N)
end
end Go.Proofs.YtalmjkcapecpiaaGreat
