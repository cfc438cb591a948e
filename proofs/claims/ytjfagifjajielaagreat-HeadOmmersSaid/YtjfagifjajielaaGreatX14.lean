/- Several texts in one: see the remarks ahead of each part. No condition but those told there. -/
import Derived.Test.YtjfagifjajielaaGreatX1
import Derived.Test.YtjfagifjajielaaGreatX11
import Derived.Test.YtjfagifjajielaaGreatX12
import Derived.Test.YtjfagifjajielaaGreatX10
import Derived.Test.YtjfagifjajielaaGreatX13
import Derived.Stop.BytesEq
import Derived.Laws.BitsAllLaws
import Derived.Test.YtjfagifjajielaaGreatX5
import Derived.Test.YtjfagifjajielaaGreatX8
set_option linter.unusedSimpArgs false
set_option linter.unusedVariables false
namespace Go.Proofs.YtjfagifjajielaaGreat
open Go Go.RowKit
set_option maxRecDepth 100000
theorem Fn.overJ {P:Program} {f:FuncId} {args:Array Value} {Ns:List Heaplet} {Post:Value→List Heaplet→Prop} (h: ∀J,(∀N∈Ns,N.le J)→Fn P f args [] [J] Post):Fn P f args [] Ns Post:=
 fun E w R hw hr=>h R hr E w R hw fun N hN=>by rw [List.mem_singleton.1 hN];exact Heaplet.le_refl _
theorem Fn.liftB {P:Program} {f:FuncId} {args:Array Value} {L0:List Heaplet} {N R:Heaplet} {Post:Value→List Heaplet→Prop} (h:Fn P f args L0 [N] Post) (hl:N.le R):Fn P f args L0 [R] Post:=fun E w F hp hr=>
 h E w F hp fun M hM=>by rw [List.mem_singleton.1 hM];exact Heaplet.le_trans hl (hr R (by simp))
def itS (b:List UInt8):It:=.mk false b []
def itL (l:List It):It:=.mk true [] l
def ivS (a:Option Addr) (n c:Nat):IV:=⟨false,a,n,c,none,0,0⟩
def ivL (a:Option Addr) (n c:Nat):IV:=⟨true,none,0,0,a,n,c⟩
section
variable {J N : Heaplet} {a : Option Addr} {n c : Nat}
theorem ItN_S {b:List UInt8} (h:RSl J 1 a n c (u8s b)):ItN J (itS b) (ivS a n c):=by
 simp only [itS,ItN]
 exact⟨rfl,h,[],RSl.nil J 3,rfl⟩
theorem ItN_L {its:List It} {xs:List IV} (h:RSl J 3 a n c (cellsI xs)) (hx:ItsN J its xs):ItN J (itL its) (ivL a n c):=by
 simp only [itL,ItN]
 exact⟨rfl,RSl.nil J 1,xs,h,hx⟩
theorem ItsN_nil:ItsN J [] []:=rfl
theorem cO {t:It} {ts:List It} {x:IV} {xs:List IV} (h:ItN J t x) (k:ItsN J ts xs):ItsN J (t::ts) (x::xs):=⟨x,xs,rfl,h,k⟩
theorem FText_b:Fn Tryz.prog 111 #[.slice a n c] [] [] (fun v L=>v=.agg #[.bool false,.slice a n c,.slice none 0 0]∧L= []):=by
 refine Fn.enter (vs:= [.slice a n c]) Tryz.func111 U U U ?_
 intro E R hR
 change At _ _ E [R] _
 refine aC fun _ s_1=>aA (bE aZ ze91 U (fun N2 b2 B2=>?_))
 change Blk N2 b2 _ [.bool false,.slice none 0 0,.slice none 0 0]at B2
 refine aB (s_1 (aC fun _ s_2=>aA (aF U U (op_build (out:= [.bool false,_,.slice none 0 0]) aD ze91 pl91 (.cons U .nil) U U (aX nxQ sz91 U U U U U B2 (by simp) sel0 (fun N2 B2=>?_))))))
 simp only [setL,List.set]at B2
 refine aB (s_2 (aR ((aW (L1:= []) U (.cell U (res_agg (ds:= [_,_,_]) ag91 B2 U U bZ) .nil) (.cons _ (.refl _)) aM ?_))))
 exact⟨rfl,rfl⟩
theorem FList_b:Fn Tryz.prog 66 #[.slice a n c] [] [] (fun v L=>v=.agg #[.bool true,.slice none 0 0,.slice a n c]∧L= []):=by
 refine Fn.enter (vs:= [.slice a n c]) Tryz.func66 U U U ?_
 intro E R hR
 change At _ _ E [R] _
 refine aC fun _ s_1=>aA (bE aZ ze91 U (fun N2 b2 B2=>?_))
 change Blk N2 b2 _ [.bool false,.slice none 0 0,.slice none 0 0]at B2
 refine aB (s_1 (aC fun _ s_2=>aA (aF U U (op_build (out:= [_,.slice none 0 0,_]) aD ze91 pl91 (.cons U (.cons U .nil)) U U (aX nxQ sz91 U U U U U B2 (by simp) sel0 (fun N2 B2=>?_))))))
 simp only [setL,List.set]at B2
 refine aB (s_2 (aR ((aW (L1:= []) U (.cell U (res_agg (ds:= [_,_,_]) ag91 B2 U U bZ) .nil) (.cons _ (.refl _)) aM ?_))))
 exact⟨rfl,rfl⟩
theorem rList_b:Fn Tryz.prog 73 #[.slice a n c] [] [] (fun v L=>v=.agg #[.bool true,.slice none 0 0,.slice a n c]∧L= []):=by
 refine Fn.enter (vs:= [.slice a n c]) Tryz.func73 U U U ?_
 intro E R hR
 change At _ _ E [R] _
 refine aC fun _ s_1=>aA (bE aZ ze91 U (fun N2 b2 B2=>?_))
 change Blk N2 b2 _ [.bool false,.slice none 0 0,.slice none 0 0]at B2
 refine aB (s_1 (aC fun _ s_2=>aA (aF U U (op_build (out:= [_,.slice none 0 0,_]) aD ze91 pl91 (.cons U (.cons U .nil)) U U (aX nxQ sz91 U U U U U B2 (by simp) sel0 (fun N2 B2=>?_))))))
 simp only [setL,List.set]at B2
 refine aB (s_2 (aR ((aW (L1:= []) U (.cell U (res_agg (ds:= [_,_,_]) ag91 B2 U U bZ) .nil) (.cons _ (.refl _)) aM ?_))))
 exact⟨rfl,rfl⟩
def NumI (x:Nat) (v:Value) (L:List Heaplet):Prop:= ∃M p k,v=.agg #[.bool false,.slice p (bytesOf x).length k,.slice none 0 0]∧L= [M]∧RSl M 1 p (bytesOf x).length k (u8s (bytesOf x))
theorem FOf_b {x:Nat} (hx:x<WW):Fn Tryz.prog 113 #[wo x] [] [] (NumI x):=by
 obtain⟨a,b,c,d,e,hv⟩:=wo_four hx
 have:=Of_f a b c d
 rw [←e]at this
 refine this.mono fun v L h=>?_
 unfold OfP at h
 rw [hv]at h
 obtain⟨M,p,k,h1,h2,h3⟩:=h
 exact⟨M,p,k,h1,h2,h3.rsl⟩
theorem rOf_b {x:Nat} (hx:x<WW):Fn Tryz.prog 115 #[wo x] [] [] (NumI x):=by
 obtain⟨a,b,c,d,e,hv⟩:=wo_four hx
 have:=rOf_f a b c d
 rw [←e]at this
 refine this.mono fun v L h=>?_
 unfold OfP at h
 rw [hv]at h
 obtain⟨M,p,k,h1,h2,h3⟩:=h
 exact⟨M,p,k,h1,h2,h3.rsl⟩
theorem u64_ww (u:UInt64):u.toNat<WW:=Nat.lt_of_lt_of_le u.toNat_lt (by decide)
theorem FNumber_b (u:UInt64):Fn Tryz.prog 112 #[.int .u64 (u.toNat:Int)] [] [] (NumI u.toNat):=by
 refine Fn.enter (vs:= [.int .u64 (u.toNat:Int)]) Tryz.func112 U U U ?_
 intro E R hR
 change At _ _ E [R] _
 refine aC fun _ s_1=>aA (bE aZ ze91 U (fun N2 b2 B2=>?_))
 change Blk N2 b2 _ [.bool false,.slice none 0 0,.slice none 0 0]at B2
 refine aB (s_1 (aC fun _ s_2=>aA (aF U U (aH aZ (.cons U .nil) (WOf_f u) Tryz.func145 U U (by simp) U ?_))))
 rintro _ _ ⟨rfl,rfl⟩
 show At _ _ _ [N2,R] _
 refine aH aZ (.cons U .nil) (FOf_b (u64_ww u)) Tryz.func113 U U (by simp) U ?_
 rintro _ _ ⟨M5,p5,k5,rfl,rfl,s5⟩
 show At _ _ _ [M5,N2,R] _
 refine aX nxQ sz91 U U U U U B2 (by simp) sel1 (fun N2 B2=>?_)
 simp only [setL,List.set]at B2
 refine aB (s_2 (aR ((aW (L1:= [M5]) U (.cell U (res_agg (ds:= [_,_,_]) ag91 B2 U U bZ) .nil) (.cons _ (.refl _)) aM ?_))))
 exact⟨M5,p5,k5,rfl,rfl,s5⟩
theorem rNum_b (u:UInt64):Fn Tryz.prog 116 #[.int .u64 (u.toNat:Int)] [] [] (NumI u.toNat):=by
 refine Fn.enter (vs:= [.int .u64 (u.toNat:Int)]) Tryz.func116 U U U ?_
 intro E R hR
 change At _ _ E [R] _
 refine aC fun _ s_1=>aA (bE aZ ze91 U (fun N2 b2 B2=>?_))
 change Blk N2 b2 _ [.bool false,.slice none 0 0,.slice none 0 0]at B2
 refine aB (s_1 (aC fun _ s_2=>aA (aF U U (aH aZ (.cons U .nil) (rOf_w u) Tryz.func155 U U (by simp) U ?_))))
 rintro _ _ ⟨rfl,rfl⟩
 show At _ _ _ [N2,R] _
 refine aH aZ (.cons U .nil) (rOf_b (u64_ww u)) Tryz.func115 U U (by simp) U ?_
 rintro _ _ ⟨M5,p5,k5,rfl,rfl,s5⟩
 show At _ _ _ [M5,N2,R] _
 refine aX nxQ sz91 U U U U U B2 (by simp) sel1 (fun N2 B2=>?_)
 simp only [setL,List.set]at B2
 refine aB (s_2 (aR ((aW (L1:= [M5]) U (.cell U (res_agg (ds:= [_,_,_]) ag91 B2 U U bZ) .nil) (.cons _ (.refl _)) aM ?_))))
 exact⟨M5,p5,k5,rfl,rfl,s5⟩
def StrI (b:List UInt8) (v:Value) (L:List Heaplet):Prop:= ∃M p k,v=.agg #[.bool false,.slice p b.length k,.slice none 0 0]∧L= [M]∧RSl M 1 p b.length k (u8s b)
theorem rStr_b {b:List UInt8} (h:RSl N 1 a n c (u8s b)) (hn:n≤1099511627776):Fn Tryz.prog 117 #[.slice a n c] [] [N] (StrI b):=by
 have hlen:=h.len8
 refine Fn.enter (vs:= [.slice a n c]) Tryz.func117 U U U ?_
 intro E R hR
 have h:=h.le (hR N (by simp))
 change At _ _ E [R] _
 refine aC fun _ s_1=>aA (bE aZ ze91 U (fun N2 b2 B2=>?_))
 change Blk N2 b2 _ [.bool false,.slice none 0 0,.slice none 0 0]at B2
 refine aB (s_1 (aC fun _ s_2=>aA (op_lit aZ Tryz.underlying22 ze5 sz5 .nil U U (by simp [Value.cells]) U U U (fun N3 a3 r3=>?_))))
 simp only [flatV,List.flatMap_cons,List.flatMap_nil,Value.cells,List.append_nil,List.cons_append,List.nil_append]at r3
 have s3:=r3.rsl
 refine aF U U ?_
 refine op_append nxQ Tryz.underlying22 Tryz.underlying22 te5 rfl rfl r3 h (by simp) (by first|exact one_u8s _|exact one_u64s _|exact one_u32s _|(intro u hu;simp at hu;subst hu;rfl)) (by omega) (by omega) sel0 rfl (fun N5 a5 p5 r5=>?_)
 have s5:=r5.rsl
 rw [Nat.zero_add]at s5
 refine op_build (out:= [.bool false,_,.slice none 0 0]) aD ze91 pl91 (.cons U .nil) U U (aX nxQ sz91 U U U U U B2 (by simp) sel1 (fun N2 B2=>?_))
 simp only [setL,List.set]at B2
 refine aB (s_2 (aR ((aW (L1:= [N5]) U (.cell U (res_agg (ds:= [_,_,_]) ag91 B2 U U bZ) .nil) (.cons _ (.refl _)) aM ?_))))
 exact⟨N5,a5,p5,by rw [hlen,Nat.zero_add],rfl,by rw [hlen];exact s5⟩
theorem rBytes_b {b:List UInt8} (h:RSl N 1 a n c (u8s b)) (hn:n≤1099511627776):Fn Tryz.prog 71 #[.slice a n c] [] [N] (StrI b):=by
 refine Fn.enter (vs:= [.slice a n c]) Tryz.func71 U U U ?_
 intro E R hR
 have h:=h.le (hR N (by simp))
 change At _ _ E [R] _
 refine aC fun _ s_1=>aA (bE aZ ze91 U (fun N2 b2 B2=>?_))
 change Blk N2 b2 _ [.bool false,.slice none 0 0,.slice none 0 0]at B2
 refine aB (s_1 (aC fun _ s_2=>aA (aF U U (aH aZ (.cons U .nil) (rStr_b h hn) Tryz.func117 U U (by simp) U ?_))))
 rintro _ _ ⟨M4,p4,k4,rfl,rfl,s4⟩
 show At _ _ _ [M4,N2,R] _
 refine aX nxQ sz91 U U U U U B2 (by simp) sel1 (fun N2 B2=>?_)
 simp only [setL,List.set]at B2
 refine aB (s_2 (aR ((aW (L1:= [M4]) U (.cell U (res_agg (ds:= [_,_,_]) ag91 B2 U U bZ) .nil) (.cons _ (.refl _)) aM ?_))))
 exact⟨M4,p4,k4,rfl,rfl,s4⟩
def FormP (t:It) (v:Value) (L:List Heaplet):Prop:= ∃M p k,v=.slice p t.form.length k∧L= [M]∧Row M 5 1 p t.form.length k (u8s t.form)
def IV.val (x:IV):Value:=.agg #[.bool x.l,.slice x.ab x.nb x.cb,.slice x.ai x.ni x.ci]
theorem FForm_b {t:It} {x:IV} (h:ItN N t x) (hlen:t.form.length≤1099511627776) (hd:t.depth≤1024):Fn Tryz.prog 75 #[.agg #[.bool x.l,.slice x.ab x.nb x.cb,.slice x.ai x.ni x.ci]] [] [N] (FormP t):=by
 have hE:Fn Tryz.prog 69 #[.agg #[.bool x.l,.slice x.ab x.nb x.cb,.slice x.ai x.ni x.ci]] [] [N] (fun v L=> ∃M p k,v=.tuple #[.slice p t.form.length k,.int .i64 0]∧L= [M]∧Row M 5 1 p t.form.length k (u8s t.form)):=
  (Encode_f h hlen).mono fun v L hp=>by
   rcases hp with ⟨M,p,k,h1,h2,h3,_⟩|⟨_,_,h3⟩
   ·exact⟨M,p,k,h1,h2,h3⟩
   ·omega
 refine Fn.enter (vs:= [.agg #[.bool x.l,.slice x.ab x.nb x.cb,.slice x.ai x.ni x.ci]]) Tryz.func75 U U U ?_
 intro E R hR
 have hE:=hE.liftB (hR N (by simp))
 change At _ _ E [R] _
 refine aC fun _ s_1=>aA (op_box aZ U U U (fun N1 b1 B1=>aG U U (aB (s_1 (aC fun _ s_2=>aA (aY (ds:= [_,_,_]) aD ag91 U B1 U U bZ U (aH aZ (.cons U .nil) (hE) Tryz.func69 U U (by simp) U ?_)))))))
 rintro _ _ ⟨M7,p7,k7,rfl,rfl,r7⟩
 show At _ _ _ [M7,N1,R] _
 refine aF U U (aN aD U U U (aN aD U U U (aG U U (aG U U (aB (s_2 (aC fun _ s_3=>aA (aF U U (aG U U (aB (s_3 (aR ((a7 (aW (L1:= [M7]) U (.tmp U .nil) (.refl _) aM ?_)))))))))))))))
 exact⟨M7,p7,k7,rfl,rfl,r7⟩
theorem rForm_b {t:It} {x:IV} (h:ItN N t x) (hlen:t.form.length≤1099511627776):Fn Tryz.prog 60 #[.agg #[.bool x.l,.slice x.ab x.nb x.cb,.slice x.ai x.ni x.ci]] [] [N] (FormP t):=by
 have hE:=form_f t N x h hlen
 refine Fn.enter (vs:= [.agg #[.bool x.l,.slice x.ab x.nb x.cb,.slice x.ai x.ni x.ci]]) Tryz.func60 U U U ?_
 intro E R hR
 have hE:=hE.liftB (hR N (by simp))
 change At _ _ E [R] _
 refine aC fun _ s_1=>aA (op_box aZ U U U (fun N1 b1 B1=>aG U U (aB (s_1 (aC fun _ s_2=>aA (aY (ds:= [_,_,_]) aD ag91 U B1 U U bZ U (aH aZ (.cons U .nil) (hE) Tryz.func109 U U (by simp) U ?_)))))))
 rintro _ _ ⟨M4,p4,k4,rfl,rfl,r4⟩
 show At _ _ _ [M4,N1,R] _
 refine aG U U (aB (s_2 (aR ((a7 (aW (L1:= [M4]) U (.tmp U .nil) (.refl _) aM ?_))))))
 exact⟨M4,p4,k4,rfl,rfl,r4⟩
def lastA (l:List UInt8):List UInt8:=(kec l).drop 12
end
theorem formS_len (b:List UInt8) (h:b.length≤4294967296):(itS b).form.length≤b.length+9:=by
 have:=rlpHead_le 128 b.length (Nat.lt_of_le_of_lt h (by decide))
 rw [itS,form_false]
 split
 ·omega
 ·rw [List.length_append];omega
theorem formL_len (l:List It) (h:(It.forms l).length≤4294967296):(itL l).form.length≤(It.forms l).length+9:=by
 have:=rlpHead_le 192 (It.forms l).length (Nat.lt_of_le_of_lt h (by decide))
 rw [itL,form_true,List.length_append];omega
theorem forms_nil:It.forms []= []:=by simp [It.forms]
theorem forms_cons (t:It) (l:List It):It.forms (t::l)=t.form++It.forms l:=by simp [It.forms]
theorem depthS (b:List UInt8):(itS b).depth=0:=by simp [itS,It.depth]
theorem depthL (l:List It):(itL l).depth=It.depths l+1:=by simp [itL,It.depth]
theorem bytes8 (n:UInt64):(bytesOf n.toNat).length≤8:=byteLen8 n.toNat_lt
def mkT (a:List UInt8) (n:Nat):It:=itL [itS a,itS (bytesOf n)]
def madeA (a:List UInt8) (n:Nat):List UInt8:=lastA (mkT a n).form
def saltA (a:List UInt8) (x:Nat) (code:List UInt8):List UInt8:=lastA (255::(a++bytesN 32 x++kec code))
section
variable {N : Heaplet} {ao : Option Addr} {n cap : Nat} {a l : List UInt8}
def fillA (h:List UInt8) (i:Nat):List UInt8:=(h.drop 12).take i++List.replicate (20- i) 0
end
open Go
section
variable {P : Program} {n : Nat} {l : List (Nat × Value)} {E : World} {L Ls : List Heaplet} {X Y : Act → World → Prop} {d : Nat} {t t' ty e : TypeId} {x y : Operand}
end
def mkA0:List UInt8:= [106,199,234,51,248,131,30,169,220,197,51,147,170,168,139,37,167,133,219,240]
theorem all_range8: ∀(xs ys:List UInt8),xs.length=ys.length→((List.range xs.length).all fun i=>xs.getD i 0==ys.getD i 0)=(xs==ys)
 | [],[],_=>rfl
 |x::xs,y::ys,h=>by
  have ih:=all_range8 xs ys (by simpa using h)
  rw [List.length_cons,List.range_succ_eq_map,List.all_cons,List.all_map]
  simp only [List.getD_cons_zero,Function.comp_def,List.getD_cons_succ,ih]
  simp [List.cons_beq_cons]
 | [],_::_,h=>by simp at h
 |_::_,[],h=>by simp at h
section
variable {P : Program}
theorem run_equalIn_bytes8 (w:World) (d:Nat) (t e:TypeId) (n:Nat) (ht:P.underlying t=some (.array n e)) (he:P.underlying e=some (.int .u8)) (hsz: ∀w,(sizeOf e).run P w=.ok 1 w)
 (xs ys:List UInt8) (hx:xs.length=n) (hy:ys.length=n):
 (Op.equalIn (d+2) t (.agg (u8s xs).toArray) (.agg (u8s ys).toArray)).run P w=.ok (xs==ys) w:=by
 rw [←all_range8 xs ys (hx.trans hy.symm),hx,List.range_eq_range',Op.equalIn]
 simp only [Sem.run_bind,Go.run_underlying ht,Result.andThen_ok,hsz,Std.Legacy.Range.forIn_eq_forIn_range',Std.Legacy.Range.size,Nat.sub_zero,Nat.add_sub_cancel,Nat.div_one]
 have hl: ∀i∈List.range' 0 n 1,i<n:=fun i hi=>by simpa using (List.mem_range'_1.1 hi).2
 generalize List.range' 0 n 1=l at hl⊢
 induction l with
 |nil=>simp
 |cons i l ih=>
  have hi:i<n:=hl i (by simp)
  have px:(part e (u8s xs).toArray (i*1)).run P w=.ok (.int .u8 ((xs.getD i 0).toNat:Int)) w:=by
   simp [part,isAgg,Go.run_underlying he,u8s,vb,List.getD,List.getElem?_eq_getElem (show i<xs.length by omega)]
  have py:(part e (u8s ys).toArray (i*1)).run P w=.ok (.int .u8 ((ys.getD i 0).toNat:Int)) w:=by
   simp [part,isAgg,Go.run_underlying he,u8s,vb,List.getD,List.getElem?_eq_getElem (show i<ys.length by omega)]
  have pe:(Op.equalIn (d+1) e (.int .u8 ((xs.getD i 0).toNat:Int)) (.int .u8 ((ys.getD i 0).toNat:Int))).run P w=.ok (xs.getD i 0==ys.getD i 0) w:=by
   rw [run_equalIn_int w d e .u8 .u8 _ _ he]
   congr 1
   rw [Bool.eq_iff_iff]
   simp [←UInt8.toNat_inj]
   omega
  simp only [List.forIn_cons,Sem.run_bind,px,py,pe,Result.andThen_ok,List.all_cons]
  cases hb:(xs.getD i 0==ys.getD i 0)
  ·simp
  ·simp only [Bool.not_true,Bool.false_eq_true,if_false,Sem.run_pure,Result.andThen_ok,Bool.true_and]
   exact ih fun j hj=>hl j (by simp [hj])
variable {n : Nat} {l : List (Nat × Value)} {E : World} {L Ls : List Heaplet} {X Y : Act → World → Prop} {d : Nat} {t t' ty e : TypeId} {x y : Operand}
theorem op_eqW8 {a b:List UInt8} {k:Nat} {pos:_} {aft:_} {g:_} (s:NxF P n l E L Ls ⟨some d,.binOp .eql t x y t',ty,pos,aft,g⟩ X Y) (ht:aelt P t=some (k,e,1)) (he:P.underlying e=some (.int .u8)) (hg:P.eqGuardType P.depth t=false) (hx:ev l x=some (.agg (u8s a).toArray)) (hy:ev l y=some (.agg (u8s b).toArray)) (ha:a.length=k) (hb:b.length=k) (hn:Nat.ble (d+1) n=true) (h:At n ((d,.bool (decide (a=b)))::l) E L Y):At n l E L X:=by
 obtain⟨hu,i,hi,hsz⟩:=aelt_spec ht
 exact op_bin s hx hy (fun w=>eqGuard_agg hg w) (fun w=>by
  rw [run_eql_struct,run_equalIn_bytes8 w 9998 t e k hu he (fun w=>by rw [run_sizeOf hi,hsz]) a b ha hb]
  simp only [Result.andThen_ok,show(a==b)=decide (a=b)from by rw [Bool.eq_iff_iff];simp]) hn h
end
def mkC (a:List UInt8) (n:UInt64) (x:Nat) (v:Value):List Value:=u8s a++(.int .u64 (n.toNat:Int)::(u64s (wl x)++ [v]))
section
variable {N : Heaplet} {ao : Option Addr} {m cap : Nat} {a l : List UInt8} {n : UInt64} {x : Nat} {v : Value}
theorem cK (l:List UInt8):(u8s l).length=l.length:=by simp [u8s]
theorem u64s_len (l:List UInt64):(u64s l).length=l.length:=by simp [u64s]
end
structure LogM where
 addr:List UInt8
 topics:List (List UInt8)
 data:List UInt8
def mbit (m:Nat):UInt8:=UInt8.ofNat (2^m)
def bitN (k:List UInt8) (i:Nat):Nat:=(256*(k.getD i 0).toNat+(k.getD (i+1) 0).toNat) % 2048
def bset (b:List UInt8) (n:Nat):List UInt8:=b.set (255- n/8) (b.getD (255- n/8) 0 |||mbit (n % 8))
def baddK (b:List UInt8) (k:List UInt8):Nat→List UInt8
 |0=>b
 |j+1=>bset (baddK b k j) (bitN k (2*j))
def badd (b x:List UInt8):List UInt8:=baddK b (kec x) 3
def zero256:List UInt8:=List.replicate 256 0
def LogM.items (g:LogM):List (List UInt8):=g.addr::g.topics
def bloomX (b:List UInt8) (xs:List (List UInt8)):List UInt8:=xs.foldl badd b
def bloomL (ls:List LogM):List UInt8:=bloomX zero256 (ls.flatMap LogM.items)
def bmask (n i:Nat):UInt8:=if 255- n/8=i then mbit (n % 8)else 0
def xmask (x:List UInt8) (i:Nat):UInt8:=bmask (bitN (kec x) 0) i |||bmask (bitN (kec x) 2) i |||bmask (bitN (kec x) 4) i
def smask (xs:List (List UInt8)) (i:Nat):UInt8:=xs.foldr (fun x a=>xmask x i |||a) 0
structure LV where
 addr:List UInt8
 topA:Option Addr
 topN:Nat
 topC:Nat
 datA:Option Addr
 datN:Nat
 datC:Nat
def LV.cells (x:LV):List Value:=u8s x.addr++ [.slice x.topA x.topN x.topC,.slice x.datA x.datN x.datC]
def logsC (xs:List LV):List Value:=xs.flatMap LV.cells
def hashC (hs:List (List UInt8)):List Value:=hs.flatMap u8s
def LogN (N:Heaplet) (g:LogM) (x:LV):Prop:=
 x.addr=g.addr∧g.addr.length=20∧x.topN=g.topics.length∧RSl N 32 x.topA x.topN x.topC (hashC g.topics)∧(∀h∈g.topics,h.length=32)∧RSl N 1 x.datA x.datN x.datC (u8s g.data)
def LogsN (N:Heaplet) (gs:List LogM) (xs:List LV):Prop:=xs.length=gs.length∧ ∀(i:Nat) (g:LogM) (x:LV),gs[i]? =some g→xs[i]? =some x→LogN N g x
section
variable {N M : Heaplet} {g : LogM} {x : LV} {gs : List LogM} {xs : List LV}
theorem LogN.le (hl:N.le M) (h:LogN N g x):LogN M g x:=⟨h.1,h.2.1,h.2.2.1,h.2.2.2.1.le hl,h.2.2.2.2.1,h.2.2.2.2.2.le hl⟩
theorem LogsN.le (hl:N.le M) (h:LogsN N gs xs):LogsN M gs xs:=⟨h.1,fun i g x h1 h2=>(h.2 i g x h1 h2).le hl⟩
theorem LogsN.nil:LogsN N [] []:=⟨rfl,fun i g x h=>by simp at h⟩
theorem LogsN.snoc (h:LogsN N gs xs) (k:LogN N g x):LogsN N (gs++ [g]) (xs++ [x]):=by
 refine⟨by simp [h.1],fun i g' x' h1 h2=>?_⟩
 rcases Nat.lt_or_ge i gs.length with hi|hi
 ·rw [List.getElem?_append_left hi]at h1
  rw [List.getElem?_append_left (by rw [h.1];exact hi)]at h2
  exact h.2 i g' x' h1 h2
 ·rw [List.getElem?_append_right hi]at h1
  rw [List.getElem?_append_right (by rw [h.1];exact hi),h.1]at h2
  have h0:i- gs.length=0:=by
   obtain⟨h3,_⟩:=List.getElem?_eq_some_iff.1 h1
   simp at h3;omega
  rw [h0]at h1 h2
  simp at h1 h2
  subst h1;subst h2;exact k
theorem LogsN.app {gs':List LogM} {xs':List LV} (h:LogsN N gs xs) (h':LogsN N gs' xs'):LogsN N (gs++gs') (xs++xs'):=by
 refine⟨by simp [h.1,h'.1],fun i g' x' h1 h2=>?_⟩
 rcases Nat.lt_or_ge i gs.length with hi|hi
 ·rw [List.getElem?_append_left hi]at h1
  rw [List.getElem?_append_left (by rw [h.1];exact hi)]at h2
  exact h.2 i g' x' h1 h2
 ·rw [List.getElem?_append_right hi]at h1
  rw [List.getElem?_append_right (by rw [h.1];exact hi),h.1]at h2
  exact h'.2 _ g' x' h1 h2
theorem LogsN.at (h:LogsN N gs xs) {i:Nat} (hi:i<gs.length): ∃g x,gs[i]? =some g∧xs[i]? =some x∧LogN N g x:=by
 have hx:i<xs.length:=by rw [h.1];exact hi
 exact⟨gs[i],xs[i],List.getElem?_eq_getElem hi,List.getElem?_eq_getElem hx,h.2 i _ _ (List.getElem?_eq_getElem hi) (List.getElem?_eq_getElem hx)⟩
end
theorem flat_at {α:Type} {k:Nat} (f:α→List Value): ∀ {xs:List α} {i:Nat} {x:α},(∀y∈xs,(f y).length=k)→xs[i]? =some x→((xs.flatMap f).drop (i*k)).take k=f x
 | [],i,x,_,h=>by simp at h
 |y::t,0,x,hl,h=>by
  simp at h;subst h
  rw [Nat.zero_mul,List.drop_zero,List.flatMap_cons,List.take_left' (hl y (by simp))]
 |y::t,i+1,x,hl,h=>by
  have ih:=flat_at f (xs:=t) (i:=i) (x:=x) (fun z hz=>hl z (List.mem_cons_of_mem _ hz)) (by simpa using h)
  rw [List.flatMap_cons,show(i+1)*k=k+i*k by rw [Nat.succ_mul,Nat.add_comm], ←List.drop_drop,List.drop_left' (hl y (by simp)),ih]
theorem flat_len {α:Type} {k:Nat} (f:α→List Value): ∀ {xs:List α},(∀y∈xs,(f y).length=k)→(xs.flatMap f).length=xs.length*k
 | [],_=>by simp
 |y::t,hl=>by
  rw [List.flatMap_cons,List.length_append,hl y (by simp),flat_len f (xs:=t) (fun z hz=>hl z (List.mem_cons_of_mem _ hz)),List.length_cons,Nat.succ_mul,Nat.add_comm]
theorem LV.cells_len {x:LV} (h:x.addr.length=20):x.cells.length=22:=by rw [LV.cells,List.length_append,cK,h];rfl
theorem LV.cells_one (x:LV):x.cells.all (·.oneCell')=true:=by
 refine List.all_eq_true.2 fun u hu=>?_
 rcases List.mem_append.1 hu with hu|hu
 ·exact one_u8s _ u hu
 ·rcases List.mem_cons.1 hu with rfl|hu
  ·rfl
  ·obtain rfl:=List.mem_singleton.1 hu;rfl
section
variable {N Nb : Heaplet} {ao : Option Addr} {n cap bb : Nat} {l cur : List UInt8}
end
theorem take_next2 {α:Type} {l:List α} {j:Nat} {u:α} (h:l[j]? =some u):l.take (j+1)=l.take j++ [u]:=by
 obtain⟨hlt,rfl⟩:=List.getElem?_eq_some_iff.1 h
 rw [List.take_succ_eq_append_getElem hlt]
theorem LogsN.cells {N:Heaplet} {gs:List LogM} {xs:List LV} (h:LogsN N gs xs): ∀y∈xs,y.cells.length=22:=fun y hy=>by
 obtain⟨i,hi,rfl⟩:=List.mem_iff_getElem.1 hy
 have hg:i<gs.length:=by rw [←h.1];exact hi
 have:=h.2 i _ _ (List.getElem?_eq_getElem hg) (List.getElem?_eq_getElem hi)
 exact LV.cells_len (by rw [this.1];exact this.2.1)
theorem LogsN.size {N M:Heaplet} {gs:List LogM} {xs:List LV} {ao:Option Addr} {n cap:Nat} (h:LogsN N gs xs) (s:RSl M 22 ao n cap (logsC xs)):n=gs.length:=by
 have h1:=s.1
 rw [logsC,flat_len LV.cells h.cells,h.1]at h1
 omega
section
variable {N : Heaplet} {ao : Option Addr} {n cap : Nat} {b l : List UInt8} {gs : List LogM} {xs : List LV}
end
theorem rngSub {N:Heaplet} {b off o k:Nat} {cs ds:List Value} (h:Rng N b off cs) (hd:(cs.drop o).take k=ds):Rng N b (off+o) ds:=fun i hi=>by
 subst hd
 have hl:i<k∧o+i<cs.length:=by rw [List.length_take,List.length_drop]at hi;omega
 have:=h (o+i) hl.2
 rw [show off+o+i=off+(o+i) by omega,this,List.getElem_take,List.getElem_drop]
theorem sub8 {N:Heaplet} {b off o k:Nat} {cs:List Value} {l:List UInt8} (h:Rng N b off cs) (hd:(cs.drop o).take k=u8s l) (hl:l.length=k) (hm:k≤9223372036854775807):RSl N 1 (some ⟨b,off+o+0*1,none⟩) (k- 0) (k- 0) (u8s l):=by
 refine⟨by simp [u8s,hl],Nat.le_refl _,by unfold maxLen;omega,fun h0=>⟨b,off+o,rfl,rngSub h hd⟩⟩
section
variable {N : Heaplet} {ao : Option Addr} {n cap : Nat} {gs : List LogM} {xs : List LV}
end
section
variable {P : Program} {n : Nat} {l : List (Nat × Value)} {E : World} {L Ls : List Heaplet} {X Y : Act → World → Prop} {K : Act → World → Prop} {d : Nat} {t t' ty : TypeId} {x y : Operand}
theorem At.knowV {v:Value} (hl:lk l d=some v) (h:At n ((d,v)::l) E L K):At n l E L K:=fun a w hf hw=>h a w ⟨hf.defers,hf.size,fun i u hi=>by
 unfold lk at hi
 by_cases e:d=i
 ·subst e
  simp at hi
  subst hi
  exact hf.get d v hl
 ·have:Nat.beq d i=false:=beq_no e
  rw [this]at hi
  exact hf.get i u hi⟩ hw
theorem At.knowT {p:Prop} [Decidable p] (hl:lk l d=some (.bool (decide p))) (hp:p) (h:At n ((d,.bool true)::l) E L K):At n l E L K:=
 At.knowV (by rw [hl,decide_eq_true hp]) h
theorem At.knowF {p:Prop} [Decidable p] (hl:lk l d=some (.bool (decide p))) (hp: ¬p) (h:At n ((d,.bool false)::l) E L K):At n l E L K:=
 At.knowV (by rw [hl,decide_eq_false hp]) h
theorem At.knowBT {b:Bool} (hl:lk l d=some (.bool b)) (hb:b=true) (h:At n ((d,.bool true)::l) E L K):At n l E L K:=At.knowV (by rw [hl,hb]) h
theorem At.knowBF {b:Bool} (hl:lk l d=some (.bool b)) (hb:b=false) (h:At n ((d,.bool false)::l) E L K):At n l E L K:=At.knowV (by rw [hl,hb]) h
end
section
variable {P : Program} {n : Nat} {l : List (Nat × Value)} {E : World} {L Ls : List Heaplet} {X Y : Act → World → Prop} {d : Nat} {t ty : TypeId} {x : Operand}
end
def LogM.cut (g:LogM):LogM:=⟨g.addr,g.topics.take 12,g.data.take 200⟩
def cutG (gs:List LogM):List LogM:=(gs.take 10).map LogM.cut
theorem hashC_one (hs:List (List UInt8)): ∀u∈hashC hs,u.oneCell'=true:=fun u hu=>by
 obtain⟨x,_,hx⟩:=List.mem_flatMap.1 hu
 exact one_u8s _ u hx
section
variable {N : Heaplet} {ao : Option Addr} {n cap : Nat} {hs : List (List UInt8)} {gs : List LogM} {xs : List LV}
end
def ItemP (t:It) (v:Value) (L:List Heaplet):Prop:= ∃J x,v=IV.val x∧L= [J]∧ItN J t x
theorem cellsI_oneB (xs:List IV): ∀u∈cellsI xs,u.oneCell'=true:=fun u hu=>by
 obtain⟨x,_,hx⟩:=List.mem_flatMap.1 hu
 simp only [IV.cells,List.mem_cons,List.not_mem_nil,or_false]at hx
 rcases hx with rfl|rfl|rfl<;>rfl
theorem cellsI_app (xs ys:List IV):cellsI (xs++ys)=cellsI xs++cellsI ys:=by rw [cellsI,cellsI,cellsI,List.flatMap_append]
section
variable {N : Heaplet} {ao : Option Addr} {n cap : Nat} {hs : List (List UInt8)}
end
def ItemR (N:Heaplet) (t:It) (v:Value) (L:List Heaplet):Prop:= ∃J x,v=IV.val x∧L= [J]∧ ∀K:Heaplet,J.le K→N.le K→ItN K t x
def logIt (g:LogM):It:=itL [itS g.addr,itL (g.topics.map itS),itS g.data]
section
variable {N : Heaplet} {ao : Option Addr} {n cap : Nat} {gs : List LogM} {xs : List LV}
end
def rcC (k:Int) (rv:Value) (ok:Bool) (gas:UInt64) (bl:List UInt8) (lv:Value):List Value:=.int .i64 k::rv::.bool ok::.int .u64 (gas.toNat:Int)::(u8s bl++ [lv])
def firstI (root:List UInt8) (ok:Bool):It:=if root.length=0∧ok=true then itS (bytesOf 1)else itS root
def rcIt (root:List UInt8) (ok:Bool) (gas:UInt64) (bl:List UInt8) (gs:List LogM):It:=itL [firstI root ok,itS (bytesOf gas.toNat),itS bl,itL (gs.map logIt)]
def kindB (k:Int):List UInt8:=if 0<k then [UInt8.ofNat k.toNat]else []
def rcB (k:Int) (root:List UInt8) (ok:Bool) (gas:UInt64) (bl:List UInt8) (gs:List LogM):List UInt8:=kindB k++(rcIt root ok gas bl gs).form
section
variable {k : Int} {rv lv : Value} {ok : Bool} {gas : UInt64} {bl : List UInt8}
end
def OutP (b:List UInt8) (v:Value) (L:List Heaplet):Prop:= ∃M a c,v=.tuple #[.slice a b.length c,.int .i64 0]∧L= [M]∧RSl M 1 a b.length c (u8s b)
section
variable {N : Heaplet} {k : Int} {ra la : Option Addr} {rn rc ln lc : Nat} {root bl : List UInt8} {ok : Bool} {gas : UInt64} {gs : List LogM} {xs : List LV}
end
end Go.Proofs.YtjfagifjajielaaGreat
