/- Several texts in one: see the remarks ahead of each part. No condition but those told there. -/
import Derived.Test.YtjfagifjajielaaGreatX1
import Derived.Test.YtjfagifjajielaaGreatX12
import Derived.Test.YtjfagifjajielaaGreatX7
import Derived.Test.YtjfagifjajielaaGreatX5
import Derived.Test.YtjfagifjajielaaGreatX6
import Derived.Stop.BytesEq
set_option linter.unusedSimpArgs false
set_option linter.unusedVariables false
namespace Go.Proofs.YtjfagifjajielaaGreat
open Go Go.RowKit
def WW:Nat:=2^256
theorem WW_eq:WW=2^(64*4):=rfl
def wl (x:Nat):List UInt64:=limbsN 4 x
def wo (x:Nat):Value:=.agg (u64s (wl x)).toArray
@[simp] theorem length_wl (x:Nat):(wl x).length=4:=rfl
theorem v64_wl (x:Nat):v64 (wl x)=x % WW:=v64_limbsN 4 x
theorem v64_wl_lt {x:Nat} (h:x<WW):v64 (wl x)=x:=by rw [v64_wl,Nat.mod_eq_of_lt h]
theorem v64_lt4 {w:List UInt64} (h:w.length=4):v64 w<WW:=by have:=v64_lt w;rwa [h]at this
theorem wl_of {w:List UInt64} {N:Nat} (hw:w.length=4) (h:v64 w=N % WW):w=wl N:=eq_words4 hw rfl (h.trans (v64_wl N).symm)
theorem wl_self {w:List UInt64} (hw:w.length=4):w=wl (v64 w):=wl_of hw (Nat.mod_eq_of_lt (v64_lt4 hw)).symm
theorem wl_mod (x:Nat):wl (x % WW)=wl x:=wl_of (w:=wl (x % WW)) rfl (by rw [v64_wl,Nat.mod_mod])
theorem wl_inj {x y:Nat} (hx:x<WW) (hy:y<WW) (h:wl x=wl y):x=y:=by
 have:=congrArg v64 h
 rwa [v64_wl_lt hx,v64_wl_lt hy]at this
theorem wl_congr {x y:Nat} (h:x % WW=y % WW):wl x=wl y:=by rw [←wl_mod x,h,wl_mod]
theorem wo_mod (x:Nat):wo (x % WW)=wo x:=by rw [wo,wl_mod];rfl
theorem wo_congr {x y:Nat} (h:x % WW=y % WW):wo x=wo y:=by rw [wo,wl_congr h];rfl
theorem wo_list {w:List UInt64} (hw:w.length=4):Value.agg (u64s w).toArray=wo (v64 w):=by rw [wo, ←wl_self hw]
theorem wl_small (n:UInt64):wl n.toNat= [n,0,0,0]:=by
 have h:=n.toNat_lt
 refine(wl_of rfl ?_).symm
 have e:v64 [n,0,0,0]=n.toNat:=by simp [v64,n64,val]
 rw [e]
 exact(Nat.mod_eq_of_lt (Nat.lt_trans h (Nat.pow_lt_pow_right (by decide) (by decide)))).symm
theorem wl_zero:wl 0= [0,0,0,0]:=wl_small 0
theorem wo_zero:wo 0=.agg #[.int .u64 0,.int .u64 0,.int .u64 0,.int .u64 0]:=by rw [wo,wl_zero];rfl
theorem wo_small (n:UInt64):wo n.toNat=.agg #[.int .u64 (n.toNat:Int),.int .u64 0,.int .u64 0,.int .u64 0]:=by rw [wo,wl_small];rfl
theorem small_iff {x:Nat} (hx:x<WW):(wl x).getD 1 0 |||(wl x).getD 2 0 |||(wl x).getD 3 0=0↔x<2^64:=by
 have hv:=v64_wl_lt hx
 obtain⟨a,b,c,d,h⟩:=four (length_wl x)
 rw [h]at hv⊢
 have e:v64 [a,b,c,d]=a.toNat+18446744073709551616*(b.toNat+18446744073709551616*(c.toNat+18446744073709551616*d.toNat)):=by simp [v64,n64,val]
 rw [e]at hv
 have ha:=a.toNat_lt
 show b |||c |||d=0↔x<2^64
 constructor
 ·intro h0
  have h1:=congrArg UInt64.toNat h0
  rw [UInt64.toNat_or,UInt64.toNat_or]at h1
  have h2:(b.toNat |||c.toNat)=0∧d.toNat=0:=Nat.or_eq_zero_iff.1 h1
  have h3:b.toNat=0∧c.toNat=0:=Nat.or_eq_zero_iff.1 h2.1
  rw [h2.2,h3.1,h3.2]at hv
  omega
 ·intro h0
  have h1:b.toNat=0∧c.toNat=0∧d.toNat=0:=by omega
  apply UInt64.toNat_inj.1
  rw [UInt64.toNat_or,UInt64.toNat_or,h1.1,h1.2.1,h1.2.2];rfl
theorem small_val {x:Nat} (h:x<2^64):((wl x).getD 0 0).toNat=x:=by
 have e:wl x= [UInt64.ofNat x,0,0,0]:=by
  have:=wl_small (UInt64.ofNat x)
  rwa [UInt64.toNat_ofNat',Nat.mod_eq_of_lt h]at this
 rw [e]
 show(UInt64.ofNat x).toNat=x
 rw [UInt64.toNat_ofNat',Nat.mod_eq_of_lt h]
theorem WOf_f (n:UInt64):Fn Tryz.prog 145 #[.int .u64 (n.toNat:Int)] [] [] (fun v L=>v=wo n.toNat∧L= []):=by
 refine Fn.enter (vs:= [.int .u64 (n.toNat:Int)]) Tryz.func145 U U U ?_
 intro E R hR
 change At _ _ E [R] _
 refine aC fun _ s_1=>aA (bK bU ze26 U (fun N2 b2 B2=>?_))
 change Blk N2 b2 _ [.int .u64 0,.int .u64 0,.int .u64 0,.int .u64 0]at B2
 refine aB (s_1 (aC fun _ s_2=>aA (aH U U (op_buildA (out:= [_,.int .u64 0,.int .u64 0,.int .u64 0]) aE ze26 ae26 (.cons U .nil) U U (aF cL sz26 U U U U U B2 (by simp) dB (fun N2 B2=>?_))))))
 simp only [setL,List.set]at B2
 refine aB (s_2 (a0 ((cI (L1:= []) U (.cell U (bQ (ds:= [_,_,_,_]) ag26 B2 U U bI) .nil) (.cons _ (.refl _)) aJ ?_))))
 exact⟨(wo_small n).symm,rfl⟩
theorem WSmall_no {x:Nat} (hx:x<WW) (h: ¬x<2^64):Fn Tryz.prog 108 #[wo x] [] [] (fun v L=>v=.tuple #[.int .u64 0,.bool false]∧L= []):=by
 have hl:=length_wl x
 have hs:=small_iff hx
 refine Fn.enter (vs:= [wo x]) Tryz.func108 U U U ?_
 intro E R hR
 change At _ _ E [R] _
 refine aC fun _ s_1=>aA (op_box bU U U U (fun N1 b1 B1=>?_))
 change Blk N1 b1 _ (u64s (wl x))at B1
 refine aR U U (aR U U (aB (s_1 (aC fun _ s_2=>aC fun _ s_3=>aA (dD aE ae26 U U (show _=((1:Nat):Int)from U) (by omega) U (aK aE sc24 U B1 (by first|exact get64A (by omega)|rfl) bI U ?_))))))
 refine dD aE ae26 U U (show _=((2:Nat):Int)from U) (by omega) U (aK aE sc24 U B1 (by first|exact get64A (by omega)|rfl) bI U ?_)
 refine op_orU aE U U U (dD aE ae26 U U (show _=((3:Nat):Int)from U) (by omega) U (aK aE sc24 U B1 (by first|exact get64A (by omega)|rfl) bI U ?_))
 refine op_orU aE U U U (dG aE U U U (aB (s_3 (aQ U (fun c12=>?_) (fun c12=>?_)))))
 rotate_left
 ·exact absurd (hs.1 (by apply UInt64.toNat_inj.1;show _=0;omega)) h
 refine aC fun _ s_4=>aA (aR U U (aR U U (aB (s_4 (a0 (aS ((cK (bE (L1:= []) U (.tmp U (.tmp U .nil)) U (.refl _) aJ ?_)))))))))
 exact⟨rfl,rfl⟩
theorem WSmall_f {x:Nat} (hx:x<WW) (h:x<2^64):Fn Tryz.prog 108 #[wo x] [] [] (fun v L=>v=.tuple #[.int .u64 (x:Int),.bool true]∧L= []):=by
 have hl:=length_wl x
 have hs:=(small_iff hx).2 h
 have hv:=small_val h
 refine Fn.enter (vs:= [wo x]) Tryz.func108 U U U ?_
 intro E R hR
 change At _ _ E [R] _
 refine aC fun _ s_1=>aA (op_box bU U U U (fun N1 b1 B1=>?_))
 change Blk N1 b1 _ (u64s (wl x))at B1
 refine aR U U (aR U U (aB (s_1 (aC fun _ s_2=>aC fun _ s_3=>aA (dD aE ae26 U U (show _=((1:Nat):Int)from U) (by omega) U (aK aE sc24 U B1 (by first|exact get64A (by omega)|rfl) bI U ?_))))))
 refine dD aE ae26 U U (show _=((2:Nat):Int)from U) (by omega) U (aK aE sc24 U B1 (by first|exact get64A (by omega)|rfl) bI U ?_)
 refine op_orU aE U U U (dD aE ae26 U U (show _=((3:Nat):Int)from U) (by omega) U (aK aE sc24 U B1 (by first|exact get64A (by omega)|rfl) bI U ?_))
 refine op_orU aE U U U (dG aE U U U (aB (s_3 (aQ U (fun c12=>?_) (fun c12=>?_)))))
 ·exfalso;apply c12;rw [hs];rfl
 refine aT (aI (s_2 (aC fun _ s_4=>aA (dD aE ae26 U U (show _=((0:Nat):Int)from U) (by omega) U (aK aE sc24 U B1 (by first|exact get64A (by omega)|rfl) bI U ?_)))))
 rw [hv]
 refine aR U U (aR U U (aB (s_4 (a0 ((cK (bE (L1:= []) U (.tmp U (.tmp U .nil)) U (.refl _) aJ ?_)))))))
 exact⟨rfl,rfl⟩
set_option maxRecDepth 100000 in
theorem WSub_f {x y:Nat} (hx:x<WW) (hy:y<WW):Fn Tryz.prog 146 #[wo x,wo y] [] [] (fun v L=>v=wo (x+WW- y)∧L= []):=by
 have hlx:=length_wl x
 have hly:=length_wl y
 have hvx:=v64_wl_lt hx
 have hvy:=v64_wl_lt hy
 refine Fn.enter (vs:= [wo x,wo y]) Tryz.func146 U U U ?_
 intro E R hR
 change At _ _ E [R] _
 refine aC fun _ s_1=>aA (op_box bU U U U (fun N2 b2 B2=>?_))
 change Blk N2 b2 _ (u64s (wl x))at B2
 refine op_box bU U U U (fun N3 b3 B3=>?_)
 change Blk N3 b3 _ (u64s (wl y))at B3
 refine bK bU ze26 U (fun N4 b4 B4=>?_)
 change Blk N4 b4 _ [.int .u64 0,.int .u64 0,.int .u64 0,.int .u64 0]at B4
 refine aB (s_1 (aC fun _ s_2=>aA (aR U U (aB (s_2 (aC fun _ s_3=>aC fun _ s_4=>aA (aH U U (aB (s_4 (bZ (aN (bO (aM (aN ?_))))))))))))))
 refine At.loop (fun fr_ hp_ ms_=> ∃(k:Nat) (c:UInt64) (w:List UInt64) (N2:Heaplet),fr_= [(2,.pointer (some ⟨b2,0,none⟩)),(3,.pointer (some ⟨b3,0,none⟩)),(4,.pointer (some ⟨b4,0,none⟩)),(5,.int .u64 (c.toNat:Int)),(7,.int .i64 (k:Int))]∧hp_= [N2,N3,N4,R]∧4- k=ms_∧(k≤4)∧(w.length=k)∧(c.toNat≤1)∧(v64 w+v64 ((wl y).take k)=v64 ((wl x).take k)+c.toNat*2^(64*k))∧(Blk N2 b2 26 (u64s (w++(wl x).drop k)))) ?_ aJ ⟨0,0,[],N2,rfl,rfl,rfl,by omega,rfl,by decide,by simp;rfl,by simpa using B2⟩ ?_
 ·repeat first|apply cW|exact .nil|exact lkI rfl (by omega)|rfl
 rintro _ _ _ ⟨k,c,w,N2,rfl,rfl,rfl,hk,hw,hc,hv,B2⟩
 have hwl:(w++(wl x).drop k).length=4:=by rw [List.length_append,List.length_drop];omega
 refine aC fun _ s_5=>aA (op_lss aE U U U (aB (s_5 (aC fun _ s_6=>aQ U (fun c8=>?_) (fun c8=>?_)))))
 ·refine aT (aI (s_6 (aC fun _ s_7=>bZ (aC fun _ s_8=>aA (aH U U (aR U U (aB (s_8 (aN (aM (aM (aN (At.drawnS [N2,N3,R] [8,13] [0,11] [0,1,2,3,4,5,6,7,8,9,10,11,12,13,14] (by kernel_rfl) (by kernel_rfl) (.cons _ (.refl _)) (aP (cD U U U) U U (aP (cD U U U) U U (dD (cD U U U) ae26 U U (show _=(((k:Nat)):Int)from by omega) (by omega) U ?_))))))))))))))))
  refine aK (cD U U U) sc24 U B2 (by first|exact get64A (by omega)|rfl) bI U ?_
  rw [getD_drop hw (show k<(wl x).length by omega)]
  refine aP (cD U U U) U U (dD (cD U U U) ae26 U U (show _=(((k:Nat)):Int)from by omega) (by omega) U ?_)
  refine aK (cD U U U) sc24 U B3 (by first|exact get64A (by omega)|rfl) mem1 U ?_
  refine aP (cD U U U) U U (op_ext (Nx.agree (nxss U U U U)) (.cons U (.cons U (.cons U .nil))) (Sub64_x ((wl x).getD k 0) ((wl y).getD k 0) c hc) U (At.anyS (.refl _) (aP (cD U U U) U U (aO (cD U U U) U U U (aO (cD U U U) U U U (dD (cD U U U) ae26 U U (show _=(((k:Nat)):Int)from by omega) (by omega) U ?_))))))
  refine aF (nxss U U U U) sz24 U U U U U B2 (by simp<;>omega) sel1 (fun N2 B2=>?_)
  rw [set64A,set_drop hw (show k<(wl x).length by omega)]at B2
  refine At.anyS (.refl _) (cJ (cD U U U) U U (At.sNil (cS (aI (s_7 (aA (cU aE U U (by omega) (by omega) U (aH U U (aB (aN (aM (aN (aN ?_)))))))))))))
  refine At.back ?_ aJ ⟨k+1,subC ((wl x).getD k 0) ((wl y).getD k 0) c,w++ [subS ((wl x).getD k 0) ((wl y).getD k 0) c],N2,rfl,rfl,rfl,by omega,by simp;omega,(sub64_law _ _ _ hc).2,sub_round hw hc hv,B2⟩ ?_
  ·repeat first|apply cW|exact .nil|exact lkI rfl (by omega)|rfl
  ·omega
 refine At.exit (bB (bB (dE (aI (s_3 (aC fun _ s_9=>aA ?_))))))
 have hk4:k=4:=by omega
 rw [hk4,v64_take_all (by omega),v64_take_all (by omega),hvx,hvy]at hv
 rw [hk4,List.drop_of_length_le (by omega),List.append_nil]at B2
 have hw4:w.length=4:=by omega
 have hvw:=v64_lt4 hw4
 have hsum:v64 w=(x+WW- y) % WW:=by
  rw [←WW_eq]at hv
  have hc2:c.toNat=0∨c.toNat=1:=by omega
  rcases hc2 with h|h
  ·rw [h,Nat.zero_mul]at hv
   rw [show x+WW- y=v64 w+WW by omega,Nat.add_mod_right,Nat.mod_eq_of_lt hvw]
  ·rw [h,Nat.one_mul]at hv
   rw [show x+WW- y=v64 w by omega,Nat.mod_eq_of_lt hvw]
 have hwe:=wl_of hw4 hsum
 rw [hwe]at B2
 refine aV (ds:=u64s (wl (x+WW- y))) aE ag26 U B2 (by first|(rw [List.drop_zero,List.take_of_length_le (by first|(simp;done)|(simp;omega))];done)|rfl) (by first|(simp;done)|(simp;omega)) bI U ?_
 refine aF cL sz26 U U U U U B4 (by simp) sel2 (fun N4 B4=>?_)
 rw [bG (by simp)]at B4
 refine aB (s_9 (a0 ((bJ (bH ?_)))))
 refine cI (L1:= []) U (.cell U (bQ (ds:=u64s (wl (x+WW- y))) ag26 B4 (by first|(rw [List.drop_zero,List.take_of_length_le (by first|(simp;done)|(simp;omega))];done)|rfl) (by first|(simp;done)|(simp;omega)) bI) .nil) (.cons _ (.refl _)) aJ ?_
 exact⟨rfl,rfl⟩
theorem all_range64: ∀(xs ys:List UInt64),xs.length=ys.length→((List.range xs.length).all fun i=>xs.getD i 0==ys.getD i 0)=(xs==ys)
 | [],[],_=>rfl
 |x::xs,y::ys,h=>by
  have ih:=all_range64 xs ys (by simpa using h)
  rw [List.length_cons,List.range_succ_eq_map,List.all_cons,List.all_map]
  simp only [List.getD_cons_zero,Function.comp_def,List.getD_cons_succ,ih]
  simp [List.cons_beq_cons]
 | [],_::_,h=>by simp at h
 |_::_,[],h=>by simp at h
section
variable {P : Program}
theorem run_equalIn_words (w:World) (d:Nat) (t e:TypeId) (n:Nat) (ht:P.underlying t=some (.array n e)) (he:P.underlying e=some (.int .u64)) (hsz: ∀w,(sizeOf e).run P w=.ok 1 w)
 (xs ys:List UInt64) (hx:xs.length=n) (hy:ys.length=n):
 (Op.equalIn (d+2) t (.agg (u64s xs).toArray) (.agg (u64s ys).toArray)).run P w=.ok (xs==ys) w:=by
 rw [←all_range64 xs ys (hx.trans hy.symm),hx,List.range_eq_range',Op.equalIn]
 simp only [Sem.run_bind,Go.run_underlying ht,Result.andThen_ok,hsz,Std.Legacy.Range.forIn_eq_forIn_range',Std.Legacy.Range.size,Nat.sub_zero,Nat.add_sub_cancel,Nat.div_one]
 have hl: ∀i∈List.range' 0 n 1,i<n:=fun i hi=>by simpa using (List.mem_range'_1.1 hi).2
 generalize List.range' 0 n 1=l at hl⊢
 induction l with
 |nil=>simp
 |cons i l ih=>
  have hi:i<n:=hl i (by simp)
  have px:(part e (u64s xs).toArray (i*1)).run P w=.ok (.int .u64 ((xs.getD i 0).toNat:Int)) w:=by
   simp [part,isAgg,Go.run_underlying he,u64s,vl,List.getD,List.getElem?_eq_getElem (show i<xs.length by omega)]
  have py:(part e (u64s ys).toArray (i*1)).run P w=.ok (.int .u64 ((ys.getD i 0).toNat:Int)) w:=by
   simp [part,isAgg,Go.run_underlying he,u64s,vl,List.getD,List.getElem?_eq_getElem (show i<ys.length by omega)]
  have pe:(Op.equalIn (d+1) e (.int .u64 ((xs.getD i 0).toNat:Int)) (.int .u64 ((ys.getD i 0).toNat:Int))).run P w=.ok (xs.getD i 0==ys.getD i 0) w:=by
   rw [run_equalIn_int w d e .u64 .u64 _ _ he]
   congr 1
   rw [Bool.eq_iff_iff]
   simp [←UInt64.toNat_inj]
   omega
  simp only [List.forIn_cons,Sem.run_bind,px,py,pe,Result.andThen_ok,List.all_cons]
  cases hb:(xs.getD i 0==ys.getD i 0)
  ·simp
  ·simp only [Bool.not_true,Bool.false_eq_true,if_false,Sem.run_pure,Result.andThen_ok,Bool.true_and]
   exact ih fun j hj=>hl j (by simp [hj])
theorem eqGuard_agg {op:BinOp} {t:TypeId} {x y:Operand} {a b:Array Value} (h:P.eqGuardType P.depth t=false) (w:World):(eqGuard op t x y (.agg a) (.agg b)).run P w=.ok () w:=by
 unfold eqGuard
 by_cases ho:(!(op matches .eql|.neq))=true<;>simp [ho,h]
variable {n : Nat} {l : List (Nat × Value)} {E : World} {L Ls : List Heaplet} {X Y : Act → World → Prop} {d : Nat} {t t' ty e : TypeId} {x y : Operand}
theorem op_eqW {a b:List UInt64} {k:Nat} {pos:_} {aft:_} {g:_} (s:NxF P n l E L Ls ⟨some d,.binOp .eql t x y t',ty,pos,aft,g⟩ X Y) (ht:aelt P t=some (k,e,1)) (he:P.underlying e=some (.int .u64)) (hg:P.eqGuardType P.depth t=false) (hx:ev l x=some (.agg (u64s a).toArray)) (hy:ev l y=some (.agg (u64s b).toArray)) (ha:a.length=k) (hb:b.length=k) (hn:Nat.ble (d+1) n=true) (h:At n ((d,.bool (decide (a=b)))::l) E L Y):At n l E L X:=by
 obtain⟨hu,i,hi,hsz⟩:=aelt_spec ht
 exact op_bin s hx hy (fun w=>eqGuard_agg hg w) (fun w=>by
  rw [run_eql_struct,run_equalIn_words w 9998 t e k hu he (fun w=>by rw [run_sizeOf hi,hsz]) a b ha hb]
  simp only [Result.andThen_ok,show(a==b)=decide (a=b)from by rw [Bool.eq_iff_iff];simp]) hn h
end
def modZ (x y:Nat):Nat:=if y=0 then 0 else x % y
def HW:Nat:=2^255
def negB (x:Nat):Bool:=decide (HW≤x)
def sgn (m:Bool) (x:Nat):Nat:=if m then WW- x else x
def absW (x:Nat):Nat:=sgn (negB x) x
def BytesP (V:Nat) (v:Value) (L:List Heaplet):Prop:=
 ∃M a c,v=.slice a (bytesOf V).length c∧L= [M]∧Row M 5 1 a (bytesOf V).length c (u8s (bytesOf V))
section
variable {N M : Heaplet} {ao bo : Option Addr} {n m ca cb : Nat} {a b : List UInt8}
def SubP (A B:Nat) (v:Value) (L:List Heaplet):Prop:=
 ∃M p c,v=.tuple #[.slice p (bytesOf (A- B)).length c,.bool (decide (B≤A))]∧L= [M]∧Row M 5 1 p (bytesOf (A- B)).length c (u8s (bytesOf (A- B)))
def DivModP (A B:Nat) (v:Value) (L:List Heaplet):Prop:=
 ∃M1 p1 c1 M2 p2 c2,v=.tuple #[.slice p1 (bytesOf (A/B)).length c1,.slice p2 (bytesOf (A % B)).length c2,.bool true]∧L= [M1,M2]∧Row M1 5 1 p1 (bytesOf (A/B)).length c1 (u8s (bytesOf (A/B)))∧Row M2 5 1 p2 (bytesOf (A % B)).length c2 (u8s (bytesOf (A % B)))
end
theorem Blk.one {N:Heaplet} {b:Nat} {e:TypeId} {v:Value} (h:Blk N b e [v]):RSl N 1 (some ⟨b,0,none⟩) 1 1 [v]:=
 ⟨rfl,Nat.le_refl _,by decide,fun _=>⟨b,0,rfl,h.rng⟩⟩
section
variable {N M Nb Nm : Heaplet} {ao bo mo : Option Addr} {n m nm ca cb cm bb : Nat} {e : TypeId} {a b l : List UInt64}
end
section
variable {N M Nm : Heaplet} {ao bo mo : Option Addr} {n m nm ca cb cm : Nat} {a b l : List UInt8}
end
set_option maxRecDepth 100000 in
theorem WCmp_f {x y:Nat} (hx:x<WW) (hy:y<WW):Fn Tryz.prog 144 #[wo x,wo y] [] [] (fun v L=>v=.int .i64 (cmpN x y)∧L= []):=by
 have hlx:=length_wl x
 have hly:=length_wl y
 have hvx:=v64_wl_lt hx
 have hvy:=v64_wl_lt hy
 refine Fn.enter (vs:= [wo x,wo y]) Tryz.func144 U U U ?_
 intro E R hR
 change At _ _ E [R] _
 refine aC fun _ s_1=>aA (op_box bU U U U (fun N2 b2 B2=>?_))
 change Blk N2 b2 _ (u64s (wl x))at B2
 refine op_box bU U U U (fun N3 b3 B3=>?_)
 change Blk N3 b3 _ (u64s (wl y))at B3
 refine aR U U (aB (s_1 (aC fun _ s_2=>aC fun _ s_3=>aA (aR U U (aB (s_3 (bZ (aM (bO (aM (At.loop (fun fr_ hp_ ms_=> ∃(j:Nat),fr_= [(2,.pointer (some ⟨b2,0,none⟩)),(3,.pointer (some ⟨b3,0,none⟩)),(5,.int .i64 ((j:Int)- 1))]∧hp_= [N2,N3,R]∧j=ms_∧(j≤4)∧((wl x).drop j=(wl y).drop j)) ?_ aJ ⟨4,rfl,rfl,rfl,by omega,by rw [List.drop_of_length_le (by omega),List.drop_of_length_le (by omega)]⟩ ?_)))))))))))
 ·repeat first|apply cW|exact .nil|exact lkI rfl (by omega)|rfl
 rintro _ _ _ ⟨j,rfl,rfl,rfl,hj,hd⟩
 refine aC fun _ s_4=>aC fun _ s_5=>aA (aH U U (op_geq aE U U U (aB (s_5 (aQ U (fun c7=>?_) (fun c7=>?_))))))
 ·refine aT (aI (s_4 (aC fun _ s_6=>bZ (bZ (aC fun _ s_7=>At.drawnS [N2,N3,R] [] [] [0,1,2,3,4,5,6,7] (by kernel_rfl) (by kernel_rfl) (.refl _) (aP (cD U U U) U U (dD (cD U U U) ae26 U U (show _=(((j- 1:Nat)):Int)from by omega) (by omega) U ?_)))))))
  refine aK (cD U U U) sc24 U B2 (by first|exact get64A (by omega)|rfl) bI U ?_
  refine aP (cD U U U) U U (dD (cD U U U) ae26 U U (show _=(((j- 1:Nat)):Int)from by omega) (by omega) U ?_)
  refine aK (cD U U U) sc24 U B3 (by first|exact get64A (by omega)|rfl) mem1 U ?_
  refine op_lss (cD U U U) U U U (cJ (cD U U U) U U (At.sNil (aI (s_7 (aQ U (fun c10=>?_) (fun c10=>?_))))))
  ·refine aC fun _ s_8=>aA (aR U U (aB (s_8 (a0 (At.inRet (At.inRet (aS (aS (At.inRet (aS ((bH (cK (cI (L1:= []) U (.tmp U .nil) (.refl _) aJ ?_))))))))))))))
   have hd':(wl x).drop (j- 1+1)=(wl y).drop (j- 1+1):=by rw [show j- 1+1=j by omega];exact hd
   have h:=cmp_at (by omega) (by omega) hd' (by omega)
   rw [hvx,hvy]at h
   exact⟨by rw [cmpN_lt h],rfl⟩
  refine aC fun _ s_9=>At.drawnS [N2,N3,R] [] [] [0,1,2,3,4,5,6,7] (by kernel_rfl) (by kernel_rfl) (.refl _) (aP (cD U U U) U U (dD (cD U U U) ae26 U U (show _=(((j- 1:Nat)):Int)from by omega) (by omega) U ?_))
  refine aK (cD U U U) sc24 U B2 (by first|exact get64A (by omega)|rfl) bI U ?_
  refine aP (cD U U U) U U (dD (cD U U U) ae26 U U (show _=(((j- 1:Nat)):Int)from by omega) (by omega) U ?_)
  refine aK (cD U U U) sc24 U B3 (by first|exact get64A (by omega)|rfl) mem1 U ?_
  refine op_gtr (cD U U U) U U U (cJ (cD U U U) U U (At.sNil (aI (s_9 (aQ U (fun c18=>?_) (fun c18=>?_))))))
  ·refine aC fun _ s_10=>aA (aR U U (aB (s_10 (a0 (At.inRet (At.inRet (aS (aS (At.inRet (aS ((bH (cK (cI (L1:= []) U (.tmp U .nil) (.refl _) aJ ?_))))))))))))))
   have hd':(wl x).drop (j- 1+1)=(wl y).drop (j- 1+1):=by rw [show j- 1+1=j by omega];exact hd
   have h:=cmp_at (by omega) (by omega) hd'.symm (by omega)
   rw [hvx,hvy]at h
   exact⟨by rw [cmpN_gt h],rfl⟩
  refine aT (cS (cS (aI (s_6 (aA (aH U U (op_subI aE U U (by omega) (by omega) U (aR U U (aB ?_)))))))))
  refine At.back ?_ aJ ⟨j- 1,rfl,rfl,rfl,by omega,drop_eq_succ (z:=0) (by omega) (by omega) (UInt64.toNat_inj.1 (by omega)) (by rw [show j- 1+1=j by omega];exact hd)⟩ ?_
  ·repeat first|apply cW|exact .nil|exact lkI rfl (by omega)|rfl
  ·omega
 refine At.exit (bB (bB (dE (aI (s_2 (aC fun _ s_11=>aA (aR U U (aB (s_11 (a0 ((bH (cK (cI (L1:= []) U (.tmp U .nil) (.refl _) aJ ?_))))))))))))))
 have e:x=y:=by
  rw [show j=0 by omega]at hd
  exact wl_inj hx hy (by simpa using hd)
 exact⟨by rw [e,cmpN_eq],rfl⟩
theorem shr32_nat (x:UInt32) (s:Nat):(shr32 x s).toNat=x.toNat/2^s:=by
 rw [shr32,UInt32.toNat_ofNat',Nat.mod_eq_of_lt (Nat.lt_of_le_of_lt (Nat.div_le_self _ _) x.toNat_lt)]
theorem v32_snoc (w:List UInt32) (x:UInt32):v32 (w++ [x])=v32 w+2^(32*w.length)*x.toNat:=by
 rw [v32_append]
 simp only [v32,n32,val,List.map_cons,List.map_nil,Nat.mul_zero,Nat.add_zero]
theorem v32_take_all {l:List UInt32} {k:Nat} (h:l.length≤k):v32 (l.take k)=v32 l:=by rw [List.take_of_length_le h]
theorem v32_take_succD (l:List UInt32) (k:Nat):v32 (l.take (k+1))=v32 (l.take k)+2^(32*k)*(l.getD k 0).toNat:=by
 rcases Nat.lt_or_ge k l.length with h|h
 ·rw [v32_take_succ h,Nat.mul_comm]
 ·rw [v32_take_all h,v32_take_all (by omega),List.getD_eq_getElem?_getD,List.getElem?_eq_none h]
  simp
theorem pow32 (k:Nat):(2:Nat)^(32*(k+1))=2^(32*k)*4294967296:=by rw [show 32*(k+1)=32*k+32 by omega,Nat.pow_add]
theorem digs_mono {A B:Nat} (h:A≤B):(digsOf A).length≤(digsOf B).length:=by
 rw [length_digsOf,length_digsOf]
 have:=bitLen_mono h
 omega
theorem digit_at (l:List UInt32) (i:Nat):v32 l/2^(32*i) % 2^32=(l.getD i 0).toNat:=by
 rcases Nat.lt_or_ge i l.length with h|h
 ·rw [dig_v32 h,List.getD_eq_getElem?_getD,List.getElem?_eq_getElem h];rfl
 ·rw [getD_big h,Nat.div_eq_of_lt (Nat.lt_of_lt_of_le (v32_lt l) (Nat.pow_le_pow_right (by decide) (by omega)))];rfl
theorem bit_at32 (l:List UInt32) (i:Nat):(shr32 (l.getD (i/32) 0) (i % 32)&&&1).toNat=v32 l/2^i % 2:=by
 rw [UInt32.toNat_and,shr32_nat, ←digit_at]
 have e:(2:Nat)^i=2^(32*(i/32))*2^(i % 32):=by rw [←Nat.pow_add];congr 1;omega
 rw [e, ←Nat.div_div_eq_div_mul]
 generalize v32 l/2^(32*(i/32))=W
 have hr:i % 32<32:=Nat.mod_lt _ (by decide)
 generalize i % 32=r at*
 rw [show((1:UInt32).toNat)=2^1- 1 from rfl,Nat.and_two_pow_sub_one_eq_mod]
 rw [show(2:Nat)^32=2^r*2^(32- r)from by rw [←Nat.pow_add];congr 1;omega,Nat.mod_mul_right_div_self]
 exact Nat.mod_mod_of_dvd _ (Nat.pow_dvd_pow 2 (by omega))
theorem bit_big32 {l:List UInt32} {i:Nat} (h:l.length≤i/32):v32 l/2^i % 2=0:=by
 rw [Nat.div_eq_of_lt (Nat.lt_of_lt_of_le (v32_lt l) (Nat.pow_le_pow_right (by decide) (by omega)))]
def lo32 (s:UInt64):UInt32:=UInt32.ofNat s.toNat
theorem lo32_nat (s:UInt64):(lo32 s).toNat=s.toNat % 4294967296:=by rw [lo32,UInt32.toNat_ofNat']
theorem of32 (x:UInt32):(UInt64.ofNat x.toNat).toNat=x.toNat:=by
 rw [UInt64.toNat_ofNat']
 exact Nat.mod_eq_of_lt (Nat.lt_trans x.toNat_lt (by decide))
theorem add64n {a b:UInt64} (h:a.toNat+b.toNat<18446744073709551616):(a+b).toNat=a.toNat+b.toNat:=by rw [UInt64.toNat_add];exact Nat.mod_eq_of_lt h
theorem sub64n {a b:UInt64} (h:b.toNat≤a.toNat):(a- b).toNat=a.toNat- b.toNat:=UInt64.toNat_sub_of_le _ _ (by rw [UInt64.le_iff_toNat_le];exact h)
theorem dlt (l:List UInt32) (k:Nat):(l.getD k 0).toNat≤4294967295:=by have:=(l.getD k 0).toNat_lt;omega
theorem sub_round32 {w a b:List UInt32} {k c c' y:Nat} {d:UInt32} (hw:w.length=k) (hv:v32 w+v32 (b.take k)=v32 (a.take k)+c*2^(32*k)) (hd:d.toNat+y+c=(a.getD k 0).toNat+c'*4294967296) (hy:y=(b.getD k 0).toNat):
 v32 (w++ [d])+v32 (b.take (k+1))=v32 (a.take (k+1))+c'*2^(32*(k+1)):=by
 subst hy
 rw [v32_snoc,hw,v32_take_succD,v32_take_succD,pow32]
 have h2:=congrArg (2^(32*k)* ·) hd
 simp only [Nat.mul_add]at h2
 have e:c'*(2^(32*k)*4294967296)=2^(32*k)*(c'*4294967296):=by rw [Nat.mul_left_comm]
 rw [e]
 rw [Nat.mul_comm c]at hv
 omega
theorem shr_digit {l:List UInt32} {j r:Nat} (hr:r<32) {w:UInt64} (hw:w.toNat=(l.getD j 0).toNat+(l.getD (j+1) 0).toNat*4294967296):UInt32.ofNat (v32 l/2^(32*j+r))=lo32 (shr64 w r):=by
 apply UInt32.toNat_inj.1
 rw [UInt32.toNat_ofNat',lo32_nat,shr64_nat,hw, ←digit_at, ←digit_at,Nat.pow_add, ←Nat.div_div_eq_div_mul]
 have e:v32 l/2^(32*(j+1))=v32 l/2^(32*j)/4294967296:=by rw [pow32,Nat.div_div_eq_div_mul]
 rw [e]
 generalize v32 l/2^(32*j)=W
 have e2:W % 2^32+W/4294967296 % 2^32*4294967296=W % 18446744073709551616:=by
  have:=Nat.mod_mul (x:=W) (a:=4294967296) (b:=4294967296)
  rw [Nat.mul_comm _ (W/4294967296 % 4294967296)]at this
  exact this.symm
 rw [e2,show(18446744073709551616:Nat)=2^r*2^(64- r)from by rw [←Nat.pow_add,show r+(64- r)=64 by omega],Nat.mod_mul_right_div_self,show(4294967296:Nat)=2^32 from rfl,Nat.mod_mod_of_dvd _ (Nat.pow_dvd_pow 2 (by omega))]
theorem digsN_succ (k N:Nat):digsN (k+1) N=digsN k N++ [UInt32.ofNat (N/2^(32*k))]:=by
 simp [digsN,List.range_succ]
theorem trim32d {N:Heaplet} {ao:Option Addr} {n cap:Nat} {l:List UInt32} (h:RSl N 1 ao n cap (u32s l)) (ht:l.take (digsOf (v32 l)).length=digsOf (v32 l)) (hle:(digsOf (v32 l)).length≤n):
 RSl N 1 ao (digsOf (v32 l)).length cap (u32s (digsOf (v32 l))):=by
 have:=h.take (hi:=(digsOf (v32 l)).length) (m:=cap) (Nat.le_trans hle h.2.1) (Nat.le_refl _) hle
 rwa [Nat.mul_one,u32s_take,ht]at this
def DigsP (V:Nat) (v:Value) (L:List Heaplet):Prop:=
 ∃M a c,v=.slice a (digsOf V).length c∧L= [M]∧RSl M 1 a (digsOf V).length c (u32s (digsOf V))
theorem rSub_f {N M:Heaplet} {ao bo:Option Addr} {n m ca cb:Nat} {a b:List UInt32} (ha:RSl N 1 ao n ca (u32s a)) (hb:RSl M 1 bo m cb (u32s b)) (hn:n≤1099511627776) (hm:m≤n) (hge:v32 b≤v32 a):
 Fn Tryz.prog 101 #[.slice ao n ca,.slice bo m cb] [] [N,M] (DigsP (v32 a- v32 b)):=by
 have hca:=ha.cap63
 have hcb:=hb.cap63
 have hal:=ha.len32
 have hbl:=hb.len32
 refine Fn.enter (vs:= [.slice ao n ca,.slice bo m cb]) Tryz.func101 U U U ?_
 intro E R hR
 have ha:=ha.le (hR N (by simp))
 have hb:=hb.le (hR M (by simp))
 change At _ _ E [R] _
 refine aC fun _ s_1=>aA (aR U U (aB (s_1 (aC fun _ s_2=>aA (aH U U (cF aE se168 U U ?_))))))
 refine op_make bU Tryz.underlying168 te172 U U (show _=(((n:Nat)):Int)from by omega) (show _=(((n:Nat)):Int)from by omega) (by omega) (by unfold maxLen;omega) U (fun N12 a12 r12=>?_)
 rw [made_one _ _ rfl,zero_u32s]at r12
 have s12:=r12.rsl
 refine aR U U (aB (s_2 (aC fun _ s_3=>aA (aR U U (aB (s_3 (aC fun _ s_4=>aC fun _ s_5=>aA (aR U U (aB (s_5 (bZ ?_)))))))))))
 refine At.loop (fun fr_ hp_ ms_=> ∃(k:Nat) (c:UInt64) (w:List UInt32) (N12:Heaplet),fr_= [(0,.slice ao n ca),(1,.slice bo m cb),(5,.slice a12 n n),(6,.int .u64 (c.toNat:Int)),(7,.int .i64 (k:Int))]∧hp_= [N12,R]∧n- k=ms_∧(k≤n)∧(w.length=k)∧(c.toNat≤1)∧(v32 w+v32 (b.take k)=v32 (a.take k)+c.toNat*2^(32*k))∧(Row N12 172 1 a12 n n (u32s (w++List.replicate (n- k) 0)))) ?_ aJ ⟨0,0,[],N12,rfl,rfl,rfl,by omega,rfl,by decide,by simp;rfl,r12⟩ ?_
 ·repeat first|apply cW|exact .nil|exact lkI rfl (by omega)|rfl
 rintro _ _ _ ⟨k,c,w,N12,rfl,rfl,rfl,hk,hw,hc,hv,r12⟩
 have s12:=r12.rsl
 have hak:=dlt a k
 have hbk:=dlt b k
 refine aC fun _ s_6=>aC fun _ s_7=>aA (aH U U (aH U U (cF aE se168 U U (op_lss aE U U U (aB (s_7 (aQ U (fun c16=>?_) (fun c16=>?_))))))))
 ·refine aT (aI (s_6 (aC fun _ s_8=>bZ (aC fun _ s_9=>aA (aH U U (aR U U (aB (s_9 (aC fun _ s_10=>At.meet (fun fr_ hp_=> ∃(s:UInt64),fr_= [(0,.slice ao n ca),(1,.slice bo m cb),(5,.slice a12 n n),(7,.int .i64 (k:Int)),(8,.int .u64 (s.toNat:Int))]∧hp_= [N12,R]∧(s.toNat=c.toNat+(b.getD k 0).toNat)) ?_ (fun K10_ jk_10=>?_))))))))))
  rotate_left
  ·skip
   refine aC fun _ s_11=>aA (aH U U (aH U U (cF aE se168 U U (op_lss aE U U U (aB (s_11 (aQ U (fun c23=>?_) (fun c23=>?_))))))))
   ·refine aA (aH U U (aH U U (aH U U (cZ aE se168 U U hb (show _=(((k:Nat)):Int)from by omega) (by omega) U ?_))))
    refine cO aE sc172 U hb (by first|exact get8 (by omega)|exact get64 (by omega)|exact get32 (by omega)) (by simp) U ?_
    refine op_conv64 aE (und_some Tryz.underlying172) Tryz.underlying24 U (by first|rfl|exact(Int.toNat_of_nonneg (by omega)).symm) U ?_
    refine op_addU aE U U U (aR U U (cX ?_))
    refine aI (jk_10 ?_ aJ ⟨c+UInt64.ofNat (b.getD k 0).toNat,rfl,rfl,by rw [add64n (by rw [of32];omega),of32]⟩)
    repeat first|apply cW|exact .nil|exact lkI rfl (by omega)|rfl
   have hz:(b.getD k 0).toNat=0:=by rw [getD_big (by omega)];rfl
   refine aT (aI (jk_10 ?_ aJ ⟨c,rfl,rfl,by omega⟩))
   repeat first|apply cW|exact .nil|exact lkI rfl (by omega)|rfl
  rintro _ _ ⟨s,rfl,rfl,hs⟩
  refine s_10 (aC fun _ s_12=>aA (aH U U (aH U U (cZ aE se168 U U ha (show _=(((k:Nat)):Int)from by omega) (by omega) U ?_))))
  refine cO aE sc172 U ha (by first|exact get8 (by omega)|exact get64 (by omega)|exact get32 (by omega)) (by simp) U ?_
  refine op_conv64 aE (und_some Tryz.underlying172) Tryz.underlying24 U (by first|rfl|exact(Int.toNat_of_nonneg (by omega)).symm) U ?_
  have hx0:=of32 (a.getD k 0)
  generalize UInt64.ofNat (a.getD k 0).toNat=x0 at*
  refine aR U U (aB (s_12 (aC fun _ s_13=>aA (aR U U (aB (s_13 (aC fun _ s_14=>At.meet (fun fr_ hp_=> ∃(x c':UInt64),fr_= [(0,.slice ao n ca),(1,.slice bo m cb),(5,.slice a12 n n),(6,.int .u64 (c'.toNat:Int)),(7,.int .i64 (k:Int)),(8,.int .u64 (s.toNat:Int)),(9,.int .u64 (x.toNat:Int))]∧hp_= [N12,R]∧(x.toNat=(a.getD k 0).toNat+c'.toNat*4294967296)∧(s.toNat≤x.toNat∧x.toNat- s.toNat<4294967296)∧(c'.toNat≤1)) ?_ (fun K14_ jk_14=>?_))))))))
  rotate_left
  ·skip
   refine aC fun _ s_15=>aA (aH U U (aH U U (op_lss aE U U U (aB (s_15 (aQ U (fun c38=>?_) (fun c38=>?_)))))))
   ·refine aC fun _ s_16=>aA (aH U U (op_addU (b:=4294967296) aE U U U (aR U U (aB (s_16 (aA (aR U U (cX ?_))))))))
    refine aI (jk_14 ?_ aJ ⟨x0+4294967296,1,rfl,rfl,by rw [add64n (by show x0.toNat+4294967296<_;omega)];show x0.toNat+4294967296=_+1*4294967296;omega,by rw [add64n (by show x0.toNat+4294967296<_;omega)];show s.toNat≤x0.toNat+4294967296∧x0.toNat+4294967296- s.toNat<4294967296;omega,by decide⟩)
    repeat first|apply cW|exact .nil|exact lkI rfl (by omega)|rfl
   refine aT ?_
   refine aI (jk_14 ?_ aJ ⟨x0,0,rfl,rfl,by show _=_+0*4294967296;omega,by omega,by decide⟩)
   repeat first|apply cW|exact .nil|exact lkI rfl (by omega)|rfl
  rintro _ _ ⟨x,c',rfl,rfl,hx,hxs,hc'⟩
  refine s_14 (aA (aH U U (aH U U (aH U U (aH U U (op_subU aE U U U (op_conv32 aE (und_some Tryz.underlying24) Tryz.underlying172 U (by first|rfl|exact(Int.toNat_of_nonneg (by omega)).symm) U ?_)))))))
  refine cZ aE se168 U U s12 (show _=(((k:Nat)):Int)from by omega) (by omega) U ?_
  refine op_storeE cL sz172 U U U U U r12 (by simp<;>omega) (by simp) dB (fun N12 r12=>?_)
  simp only [setL]at r12
  rw [set_u32s,set_fill hw (by omega)]at r12
  change Row N12 _ 1 a12 n n (u32s (w++ [lo32 (x- s)]++List.replicate (n- (k+1)) 0))at r12
  have s12:=r12.rsl
  refine cX (cS (aI (s_8 (aA (aH U U (cU aE U U (by omega) (by omega) U (aR U U (aB ?_))))))))
  refine At.back ?_ aJ ⟨k+1,c',w++ [lo32 (x- s)],N12,rfl,rfl,rfl,by omega,by simp;omega,hc',sub_round32 (y:=(b.getD k 0).toNat) hw hv (by rw [lo32_nat,sub64n (by omega)];omega) rfl,r12⟩ ?_
  ·repeat first|apply cW|exact .nil|exact lkI rfl (by omega)|rfl
  ·omega
 refine At.exit (bB (bB (dE (aI (s_4 (aC fun _ s_17=>aA (aH U U ?_)))))))
 have s12:=r12.rsl
 have hkk:k=n:=by omega
 rw [hkk,Nat.sub_self,List.replicate_zero,List.append_nil]at s12
 have hfin:v32 w=v32 a- v32 b:=by
  rw [hkk,v32_take_all (by omega),v32_take_all (by omega)]at hv
  have h1:=v32_lt w
  rw [hw,hkk]at h1
  have hc2:c.toNat=0∨c.toNat=1:=by omega
  rcases hc2 with hc2|hc2
  ·rw [hc2,Nat.zero_mul]at hv;omega
  ·rw [hc2,Nat.one_mul]at hv;omega
 refine bD bU (.cons U .nil) (trim32_f s12) Tryz.func150 U U (by simp) U ?_
 rintro _ _ ⟨rfl,rfl,t49,l49⟩
 show At _ _ _ [N12,R] _
 refine aR U U (aB (s_17 (a0 ((cI (L1:= [N12]) U (.tmp U .nil) (.refl _) aJ ?_)))))
 have h:=trim32d s12 t49 l49
 rw [hfin]at h⊢
 exact⟨N12,a12,_,rfl,rfl,h⟩
theorem or_hi32 {x y:UInt32} :(UInt64.ofNat x.toNat |||shl64 (UInt64.ofNat y.toNat) 32).toNat=x.toNat+y.toNat*4294967296:=by
 have hx:=x.toNat_lt
 have hy:=y.toNat_lt
 rw [UInt64.toNat_or,of32,shl64_nat,of32,Nat.mod_eq_of_lt (show y.toNat*2^32<2^64 by omega),Nat.or_comm,Nat.mul_comm, ←Nat.two_pow_add_eq_or_of_lt hx,Nat.add_comm,Nat.mul_comm]
set_option maxRecDepth 100000 in
theorem rShr_f {N:Heaplet} {ao:Option Addr} {n ca:Nat} {a:List UInt32} (ha:RSl N 1 ao n ca (u32s a)) (s:Nat) (hn:n≤1099511627776) (hs:s≤1099511627776):
 Fn Tryz.prog 102 #[.slice ao n ca,.int .i64 (s:Int)] [] [N] (DigsP (v32 a/2^s)):=by
 have hca:=ha.cap63
 have hal:=ha.len32
 refine Fn.enter (vs:= [.slice ao n ca,.int .i64 (s:Int)]) Tryz.func102 U U U ?_
 intro E R hR
 have ha:=ha.le (hR N (by simp))
 change At _ _ E [R] _
 refine aC fun _ s_1=>aA (aR U U (aB (s_1 (aC fun _ s_2=>aC fun _ s_3=>aA (aH U U (op_quoI aE U U (by omega) (by omega) (by omega) U (aH U U (cF aE se168 U U (op_geq aE U U U (aB (s_3 (aQ U (fun c12=>?_) (fun c12=>?_)))))))))))))
 ·refine aC fun _ s_4=>aA (aR U U (aB (s_4 (a0 (aS ((cV (cI (L1:= [nilH]) U (.tmp U .nil) (.refl _) aJ ?_))))))))
  have hz:v32 a/2^s=0:=Nat.div_eq_of_lt (Nat.lt_of_lt_of_le (v32_lt a) (Nat.pow_le_pow_right (by decide) (by omega)))
  rw [hz]
  exact⟨nilH,none,0,rfl,rfl,RSl.nil _ _⟩
 refine aT (aI (s_2 (aC fun _ s_5=>aA (aH U U (cF aE se168 U U (aH U U (op_quoI aE U U (by omega) (by omega) (by omega) U (op_subI aE U U (by omega) (by omega) U ?_))))))))
 refine op_make bU Tryz.underlying168 te172 U U (show _=(((n- s/32:Nat)):Int)from by omega) (show _=(((n- s/32:Nat)):Int)from by omega) (by omega) (by unfold maxLen;omega) U (fun N18 a18 r18=>?_)
 rw [made_one _ _ rfl,zero_u32s]at r18
 have s18:=r18.rsl
 refine aR U U (aB (s_5 (aC fun _ s_6=>aC fun _ s_7=>aA (aR U U (aB (s_7 (bZ (At.loop (fun fr_ hp_ ms_=> ∃(k:Nat) (N18:Heaplet),fr_= [(0,.slice ao n ca),(1,.int .i64 (s:Int)),(5,.slice a18 (n- s/32) (n- s/32)),(6,.int .i64 (k:Int))]∧hp_= [N18,R]∧n- s/32- k=ms_∧(k≤n- s/32)∧(Row N18 172 1 a18 (n- s/32) (n- s/32) (u32s (digsN k (v32 a/2^s)++List.replicate (n- s/32- k) 0)))) ?_ aJ ⟨0,N18,rfl,rfl,rfl,by omega,by simpa [digsN]using r18⟩ ?_))))))))
 ·repeat first|apply cW|exact .nil|exact lkI rfl (by omega)|rfl
 rintro _ _ _ ⟨k,N18,rfl,rfl,rfl,hk,r18⟩
 have s18:=r18.rsl
 have hlk:(digsN k (v32 a/2^s)).length=k:=by simp [digsN]
 refine aC fun _ s_8=>aC fun _ s_9=>aA (aH U U (aH U U (cF aE se168 U U (op_lss aE U U U (aB (s_9 (aQ U (fun c22=>?_) (fun c22=>?_))))))))
 ·refine aT (aI (s_8 (aC fun _ s_10=>bZ (aC fun _ s_11=>aA (aH U U (aH U U (aH U U (op_quoI aE U U (by omega) (by omega) (by omega) U (cU aE U U (by omega) (by omega) U (cZ aE se168 U U ha (show _=(((k+s/32:Nat)):Int)from by omega) (by omega) U ?_))))))))))
  refine cO aE sc172 U ha (by first|exact get8 (by omega)|exact get64 (by omega)|exact get32 (by omega)) (by simp) U ?_
  refine op_conv64 aE (und_some Tryz.underlying172) Tryz.underlying24 U (by first|rfl|exact(Int.toNat_of_nonneg (by omega)).symm) U ?_
  refine aR U U (aB (s_11 (aC fun _ s_12=>At.meet (fun fr_ hp_=> ∃(w:UInt64),fr_= [(0,.slice ao n ca),(1,.int .i64 (s:Int)),(5,.slice a18 (n- s/32) (n- s/32)),(6,.int .i64 (k:Int)),(7,.int .u64 (w.toNat:Int))]∧hp_= [N18,R]∧(w.toNat=(a.getD (k+s/32) 0).toNat+(a.getD (k+s/32+1) 0).toNat*4294967296)) ?_ (fun K12_ jk_12=>?_))))
  rotate_left
  ·skip
   refine aC fun _ s_13=>aA (aH U U (aH U U (op_quoI aE U U (by omega) (by omega) (by omega) U (cU aE U U (by omega) (by omega) U (cU aE U U (by omega) (by omega) U (aH U U (cF aE se168 U U (op_lss aE U U U (aB (s_13 (aQ U (fun c40=>?_) (fun c40=>?_))))))))))))
   ·refine aA (aH U U (aH U U (aH U U (aH U U (op_quoI aE U U (by omega) (by omega) (by omega) U (cU aE U U (by omega) (by omega) U (cU aE U U (by omega) (by omega) U (cZ aE se168 U U ha (show _=(((k+s/32+1:Nat)):Int)from by omega) (by omega) U ?_))))))))
    refine cO aE sc172 U ha (by first|exact get8 (by omega)|exact get64 (by omega)|exact get32 (by omega)) (by simp) U ?_
    refine op_conv64 aE (und_some Tryz.underlying172) Tryz.underlying24 U (by first|rfl|exact(Int.toNat_of_nonneg (by omega)).symm) U ?_
    refine op_shlU aE U U (show _=((32:Nat):Int)from U) U (op_orU aE U U U (aR U U (aB (jk_12 ?_ aJ ⟨UInt64.ofNat (a.getD (k+s/32) 0).toNat |||shl64 (UInt64.ofNat (a.getD (k+s/32+1) 0).toNat) 32,rfl,rfl,or_hi32⟩))))
    repeat first|apply cW|exact .nil|exact lkI rfl (by omega)|rfl
   have hz:(a.getD (k+s/32+1) 0).toNat=0:=by rw [getD_big (by omega)];rfl
   refine aT ?_
   refine aI (jk_12 ?_ aJ ⟨UInt64.ofNat (a.getD (k+s/32) 0).toNat,rfl,rfl,by rw [hz,of32];omega⟩)
   repeat first|apply cW|exact .nil|exact lkI rfl (by omega)|rfl
  rintro _ _ ⟨w,rfl,rfl,hw⟩
  refine s_12 (aA (aH U U (aH U U (aH U U (aH U U (op_rem aE U U (by omega) (by omega) U (op_shrU aE U U (show _=(((s % 32:Nat)):Int)from by omega) U ?_)))))))
  refine op_conv32 aE (und_some Tryz.underlying24) Tryz.underlying172 U (by first|rfl|exact(Int.toNat_of_nonneg (by omega)).symm) U ?_
  refine cZ aE se168 U U s18 (show _=(((k:Nat)):Int)from by omega) (by omega) U ?_
  refine op_storeE cL sz172 U U U U U r18 (by simp<;>omega) (by simp) dB (fun N18 r18=>?_)
  have hd:=shr_digit (l:=a) (j:=k+s/32) (r:=s % 32) (by omega) hw
  simp only [setL]at r18
  rw [set_u32s,set_fill hlk (by omega)]at r18
  change Row N18 _ 1 a18 _ _ (u32s (digsN k (v32 a/2^s)++ [lo32 (shr64 w (s % 32))]++List.replicate (n- s/32- (k+1)) 0))at r18
  rw [←hd,show 32*(k+s/32)+s % 32=s+32*k by omega,Nat.pow_add, ←Nat.div_div_eq_div_mul, ←digsN_succ]at r18
  have s18:=r18.rsl
  refine cX (cS (aI (s_10 (aA (aH U U (cU aE U U (by omega) (by omega) U (aR U U (aB (At.back ?_ aJ ⟨k+1,N18,rfl,rfl,rfl,by omega,r18⟩ ?_)))))))))
  ·repeat first|apply cW|exact .nil|exact lkI rfl (by omega)|rfl
  ·omega
 refine At.exit (bB (bB (dE (aI (s_6 (aC fun _ s_14=>aA (aH U U ?_)))))))
 have hkn:k=n- s/32:=by omega
 rw [hkn,Nat.sub_self,List.replicate_zero,List.append_nil]at s18
 have hfin:v32 (digsN (n- s/32) (v32 a/2^s))=v32 a/2^s:=by
  rw [v32_digsN]
  refine Nat.mod_eq_of_lt ?_
  rw [Nat.div_lt_iff_lt_mul (Nat.pow_pos (by decide)), ←Nat.pow_add]
  exact Nat.lt_of_lt_of_le (v32_lt a) (Nat.pow_le_pow_right (by decide) (by omega))
 refine bD bU (.cons U .nil) (trim32_f s18) Tryz.func150 U U (by simp) U ?_
 rintro _ _ ⟨rfl,rfl,t62,l62⟩
 show At _ _ _ [N18,R] _
 refine aR U U (aB (s_14 (a0 ((cI (L1:= [N18]) U (.tmp U .nil) (.refl _) aJ ?_)))))
 have h:=trim32d s18 t62 l62
 rw [hfin]at h⊢
 exact⟨N18,a18,_,rfl,rfl,h⟩
theorem rBit_f {N:Heaplet} {ao:Option Addr} {n cap:Nat} {l:List UInt32} (h:RSl N 1 ao n cap (u32s l)) (i:Nat) (hi:i≤9223372036854775807):Fn Tryz.prog 105 #[.slice ao n cap,.int .i64 (i:Int)] [] [N] (fun v L=>v=.int .u32 ((v32 l/2^i % 2:Nat):Int)∧L= []):=by
 have hlen:=h.len32
 have hcap:=h.cap63
 refine Fn.enter (vs:= [.slice ao n cap,.int .i64 (i:Int)]) Tryz.func105 U U U ?_
 intro E R hR
 have h:=h.le (hR N (by simp))
 change At _ _ E [R] _
 refine aC fun _ s_1=>aA (aR U U (aB (s_1 (aC fun _ s_2=>aC fun _ s_3=>aA (aH U U (op_quoI aE U U (by omega) (by omega) (by omega) U (aH U U (cF aE se168 U U (op_geq aE U U U (aB (s_3 (aQ U (fun c9=>?_) (fun c9=>?_)))))))))))))
 ·refine aC fun _ s_4=>aA (aR U U (aB (s_4 (a0 (aS ((cI (L1:= []) U (.tmp U .nil) (.refl _) aJ ?_)))))))
  exact⟨by rw [bit_big32 (by omega)];rfl,rfl⟩
 refine aT (aI (s_2 (aC fun _ s_5=>aA (aH U U (aH U U (op_quoI aE U U (by omega) (by omega) (by omega) U (cZ aE se168 U U (by assumption) (show _=(((i/32:Nat)):Int)from by omega) (by omega) U ?_)))))))
 refine cO aE sc172 U (by assumption) (by first|exact get8 (by omega)|exact get64 (by omega)|exact get32 (by omega)) (by simp) U ?_
 refine aH U U (op_rem aE U U (by omega) (by omega) U (op_shrU32 aE U U (show _=(((i % 32:Nat)):Int)from by omega) U ?_))
 refine op_andU32 (b:=1) aE U U U (aR U U (aB (s_5 (a0 ((cI (L1:= []) U (.tmp U .nil) (.refl _) aJ ?_))))))
 exact⟨by rw [←bit_at32],rfl⟩
theorem rLen_f {N:Heaplet} {ao:Option Addr} {n cap:Nat} {l:List UInt32} (h:RSl N 1 ao n cap (u32s l)) (hn:n≤1099511627776):Fn Tryz.prog 103 #[.slice ao n cap] [] [N] (fun v L=>v=.int .i64 ((bitLen (v32 l):Nat):Int)∧L= []):=by
 have hlen:=h.len32
 have hcap:=h.cap63
 refine Fn.enter (vs:= [.slice ao n cap]) Tryz.func103 U U U ?_
 intro E R hR
 have h:=h.le (hR N (by simp))
 change At _ _ E [R] _
 refine aC fun _ s_1=>aA (aR U U (aB (s_1 (aC fun _ s_2=>aA (aH U U (cF aE se168 U U (op_mulI aE U U (by omega) (by omega) U (aR U U (aB (s_2 (aC fun _ s_3=>bZ ?_)))))))))))
 refine At.loop (fun fr_ hp_ ms_=> ∃(j:Nat),fr_= [(0,.slice ao n cap),(3,.int .i64 (j:Int))]∧hp_= [R]∧j=ms_∧(j≤32*n)∧(v32 l<2^j)) ?_ aJ ⟨32*n,rfl,rfl,rfl,by omega,by rw [←hlen];exact v32_lt l⟩ ?_
 ·repeat first|apply cW|exact .nil|exact lkI rfl (by omega)|rfl
 rintro _ _ _ ⟨j,rfl,rfl,rfl,hj,hv⟩
 refine aC fun _ s_4=>aC fun _ s_5=>aA (aH U U (op_gtr aE U U U (aH U U (cB (d:=9) U (fun g9=>?_) (fun g9=>?_)))))
 ·refine aP (bF U U U U) U U (aP (bF U U U U) U U (op_subI (bF U U U U) U U (by omega) (by omega) U ?_))
  rw [show(j:Int)- 1=((j- 1:Nat):Int) by omega]
  refine bD (nxga U U U U) (.cons U (.cons U .nil)) (rBit_f h (j- 1) (by omega)) Tryz.func105 U U (by simp) U ?_
  rintro _ _ ⟨rfl,rfl⟩
  show At _ _ _ [R] _
  refine dF (bF U U U U) U U U (cH aE U U U (aB (s_5 (aQ U (fun c15=>?_) (fun c15=>?_)))))
  ·have hv':v32 l<2^(j- 1):=by
    have e:v32 l/2^(j- 1)<2:=by
     rw [Nat.div_lt_iff_lt_mul (Nat.pow_pos (by decide)), ←Nat.pow_succ',show(j- 1).succ=j by omega];exact hv
    have e2:v32 l/2^(j- 1)=0:=by
     generalize v32 l/2^(j- 1)=X at*
     omega
    exact(Nat.div_eq_zero_iff_lt (Nat.pow_pos (by decide))).1 e2
   refine aT (aI (s_4 (bZ (aA (aH U U (op_subI aE U U (by omega) (by omega) U (aR U U (cX (cS (aI (At.back ?_ aJ ⟨j- 1,rfl,rfl,rfl,by omega,hv'⟩ ?_)))))))))))
   ·repeat first|apply cW|exact .nil|exact lkI rfl (by omega)|rfl
   ·omega
  refine At.exit (bB (bB (dE (aI (s_3 (aC fun _ s_6=>aA (aH U U (aR U U (aB (s_6 (a0 ((cI (L1:= []) U (.tmp U .nil) (.refl _) aJ (⟨?_,rfl⟩))))))))))))))
  congr 2
  symm
  refine bitLen_eq hv (.inr ?_)
  rcases Nat.lt_or_ge (v32 l) (2^(j- 1))with h1|h1
  ·rw [Nat.div_eq_of_lt h1]at c15;exact absurd rfl c15
  ·exact h1
 refine aU U U U U U U U (aU U U U U U U U (aU U U U U U U U (aU U U U U U U U (aU U U U U U U U (cE aE U U U (aB (s_5 (dA U (At.exit (bB (bB (dE (aI (s_3 (aC fun _ s_7=>aA (aH U U (aR U U (aB (s_7 (a0 ((cI (L1:= []) U (.tmp U .nil) (.refl _) aJ (⟨?_,rfl⟩)))))))))))))))))))))))
 congr 2
 symm
 exact bitLen_eq hv (.inl (by omega))
def LessP (co:Option Addr) (nc cc:Nat) (pre u v post:List UInt32) (q:Nat) (r:Value) (L:List Heaplet):Prop:=
 ∃M x, ∃bw:Nat,r=.bool (decide (bw=1))∧L= [M]∧Row M 172 1 co nc cc (u32s (pre++x++post))∧x.length=u.length∧bw≤1∧v32 x+q*v32 v=v32 u+bw*2^(32*u.length)
def BackP (co:Option Addr) (nc cc:Nat) (pre u v post:List UInt32) (r:Value) (L:List Heaplet):Prop:=
 ∃M x, ∃c:Nat,r=.tuple #[]∧L= [M]∧Row M 172 1 co nc cc (u32s (pre++x++post))∧x.length=u.length∧c≤1∧v32 x+c*2^(32*u.length)=v32 u+v32 v∧((u.getD v.length 0).toNat≤(x.getD v.length 0).toNat↔c=0)
def DigsP2 (A B:Nat) (v:Value) (L:List Heaplet):Prop:=
 ∃M1 a1 c1 M2 a2 c2,v=.tuple #[.slice a1 (digsOf A).length c1,.slice a2 (digsOf B).length c2]∧L= [M1,M2]∧RSl M1 1 a1 (digsOf A).length c1 (u32s (digsOf A))∧RSl M2 1 a2 (digsOf B).length c2 (u32s (digsOf B))
theorem Hp.empty {E w:World} {L:List Heaplet} (h:Hp E L w):Hp E (nilH::L) w:=
 ⟨h.os,h.tape,h.output,fun N hN=>by
  rcases List.mem_cons.1 hN with rfl|hN
  ·intro k o hk;cases hk
  ·exact h.sub N hN,List.pairwise_cons.2 ⟨fun N _ k=>.inl rfl,h.sep⟩⟩
def DivR (N:Heaplet) (A B:Nat) (v:Value) (L:List Heaplet):Prop:=
 ∃Mq aq cq Mr ar cr,v=.tuple #[.slice aq (digsOf A).length cq,.slice ar (digsOf B).length cr]∧L= [Mq,Mr]∧RSl Mq 1 aq (digsOf A).length cq (u32s (digsOf A))∧(RSl Mr 1 ar (digsOf B).length cr (u32s (digsOf B))∨RSl N 1 ar (digsOf B).length cr (u32s (digsOf B)))
def ModR (N:Heaplet) (V:Nat) (v:Value) (L:List Heaplet):Prop:=
 ∃Q p c,v=.slice p (digsOf V).length c∧L= [Q]∧(RSl Q 1 p (digsOf V).length c (u32s (digsOf V))∨RSl N 1 p (digsOf V).length c (u32s (digsOf V)))
section
variable {N M : Heaplet} {ax bx : Option Addr} {na nb ca cb A B : Nat}
end
section
variable {N M Nm : Heaplet} {bx ex mx : Option Addr} {nb ne nm cb ce cm B E' Mv : Nat}
end
theorem rN_w {x:Nat} (hx:x<WW):Fn Tryz.prog 98 #[wo x] [] [] (DigsP x):=by
 obtain⟨a,b,c,d,h⟩:=four (length_wl x)
 have hv:=v64_wl_lt hx
 rw [h]at hv
 have:=rN_f a b c d
 rw [hv]at this
 have e:wo x=.agg #[.int .u64 (a.toNat:Int),.int .u64 (b.toNat:Int),.int .u64 (c.toNat:Int),.int .u64 (d.toNat:Int)]:=by rw [wo,h];rfl
 rw [e]
 exact this
theorem rW_w {N:Heaplet} {p:Option Addr} {n c X:Nat} (h:RSl N 1 p n c (u32s (digsOf X))):Fn Tryz.prog 104 #[.slice p n c] [] [N] (fun v L=>v=wo X∧L= []):=by
 refine(rW_f h).mono ?_
 rintro v L ⟨rfl,a,b,c,d,rfl,hv⟩
 rw [v32_digsOf]at hv
 refine⟨?_,rfl⟩
 rw [wo, ←wl_of (w:= [a,b,c,d]) rfl hv];rfl
end Go.Proofs.YtjfagifjajielaaGreat
