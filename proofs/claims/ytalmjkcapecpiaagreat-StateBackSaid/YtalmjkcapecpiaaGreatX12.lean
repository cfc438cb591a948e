/- Several texts in one: see the remarks ahead of each part. No condition but those told there. -/
import Derived.Test.YtalmjkcapecpiaaGreatX1
import Derived.Test.YtalmjkcapecpiaaGreatX11
import Derived.Test.YtalmjkcapecpiaaGreatX2
import Derived.Test.YtalmjkcapecpiaaGreatXT2
import Derived.Test.YtalmjkcapecpiaaGreatX4
import Derived.Test.YtalmjkcapecpiaaGreatX5
import Derived.Test.YtalmjkcapecpiaaGreatX6
import Derived.Test.YtalmjkcapecpiaaGreatX8
import Derived.Test.YtalmjkcapecpiaaGreatX3
set_option linter.unusedSimpArgs false
set_option linter.unusedVariables false
namespace Go.Proofs.YtalmjkcapecpiaaGreat
open Go Go.RowKit
set_option maxRecDepth 100000
structure OpM where
 on:Int
 dd:Int
 a:List UInt8
 k:Nat
 v:Nat
 n:Int
 b:List UInt8
def opC (m:OpM) (ba:Option Addr) (bc:Nat):List Value:=.int .i64 m.on::.int .i64 m.dd::(u8s m.a++(u64s (wl m.k)++(u64s (wl m.v)++ [.int .i64 m.n,.slice ba m.b.length bc])))
structure OpV (K:Heaplet) (m:OpM) (ba:Option Addr) (bc:Nat):Prop where
 a:m.a.length=20
 k:m.k<WW
 v:m.v<WW
 b:RSl K 1 ba m.b.length bc (u8s m.b)
theorem OpV.le {K J:Heaplet} {m:OpM} {ba:Option Addr} {bc:Nat} (h:OpV K m ba bc) (hl:K.le J):OpV J m ba bc:=⟨h.a,h.k,h.v,h.b.le hl⟩
section
variable {m : OpM} {ba : Option Addr} {bc : Nat}
theorem opC_len (h:m.a.length=20):(opC m ba bc).length=32:=by
 have hl:(u8s m.a).length=20:=by rw [cY,h]
 simp [opC,hl,bQ]
theorem opC_ge (h:m.a.length=20) (j:Nat):(opC m ba bc).drop (22+j)=(u64s (wl m.k)++(u64s (wl m.v)++ [Value.int .i64 m.n,Value.slice ba m.b.length bc])).drop j:=by
 have hl:(u8s m.a).length=20:=by rw [cY,h]
 rw [←List.drop_drop]
 congr 1
 show(u8s m.a++_).drop 20=_
 exact List.drop_left' hl
theorem opC_a (h:m.a.length=20):((opC m ba bc).drop 2).take 20=u8s m.a:=by
 show(u8s m.a++_).take 20=_
 exact List.take_left' (by rw [cY,h])
theorem opC_k (h:m.a.length=20):((opC m ba bc).drop 22).take 4=u64s (wl m.k):=by
 rw [show 22=22+0 from rfl,opC_ge h];rfl
theorem opC_v (h:m.a.length=20):((opC m ba bc).drop 26).take 4=u64s (wl m.v):=by
 rw [show 26=22+4 from rfl,opC_ge h];rfl
theorem opC_n (h:m.a.length=20):(opC m ba bc)[30]? =some (.int .i64 m.n):=by
 have:=congrArg (fun l=>l[0]?) (opC_ge (ba:=ba) (bc:=bc) h 8)
 simp only [List.getElem?_drop]at this
 exact this
theorem opC_b (h:m.a.length=20):(opC m ba bc)[31]? =some (.slice ba m.b.length bc):=by
 have:=congrArg (fun l=>l[0]?) (opC_ge (ba:=ba) (bc:=bc) h 9)
 simp only [List.getElem?_drop]at this
 exact this
end
def topC (b:List UInt8) (j:Nat):List Value:=.int .u8 ((b.getD 0 0).toNat:Int)::.int .u8 ((UInt8.ofNat j).toNat:Int)::List.replicate 30 (.int .u8 0)
def topsC (b:List UInt8) (n:Nat):List Value:=(List.range n).flatMap (topC b)
theorem topsC_succ (b:List UInt8) (n:Nat):topsC b (n+1)=topsC b n++topC b n:=by
 simp [topsC,List.range_succ,List.flatMap_append]
theorem topC_one (b:List UInt8) (j:Nat):(topC b j).all (·.oneCell')=true:=rfl
theorem topsC_one {b:List UInt8} {n:Nat} : ∀u∈topsC b n,u.oneCell'=true:=fun u hu=>by
 obtain⟨j,_,hj⟩:=List.mem_flatMap.1 hu
 exact List.all_eq_true.1 (topC_one b j) u hj
set_option maxHeartbeats 2000000 in
theorem FLog {K:Heaplet} {m:OpM} {ba:Option Addr} {bc:Nat} (h:OpV K m ba bc):Fn Tryz.prog 43 #[.agg (opC m ba bc).toArray] [] [K] (fun v L=> ∃J ta tc da dc,v=.agg (logC m.a (.slice ta (m.b.length % 5) tc) (.slice da (m.b.take 100).length dc)).toArray∧L= [J]∧LogV J m.a ta (m.b.length % 5) tc (topsC m.b (m.b.length % 5)) da dc (m.b.take 100)):=by
 have ha:=h.a
 have hl:=logC_len ha
 have hol:=opC_len (ba:=ba) (bc:=bc) ha
 have hbl:=h.b.len8
 have hcp:=h.b.cap63
 refine Fn.enter (vs:= [.agg (opC m ba bc).toArray]) Tryz.func43 U U U ?_
 intro E R hR
 have hb:=h.b.le (hR K (by simp))
 change At _ _ E [R] _
 refine aH fun _ s_1=>aB (cU bT U U U (fun N1 b1 B1=>bZ bT ze93 U (fun N2 b2 B2=>?_)))
 change Blk N2 b2 _ [.int .u8 0,.int .u8 0,.int .u8 0,.int .u8 0,.int .u8 0,.int .u8 0,.int .u8 0,.int .u8 0,.int .u8 0,.int .u8 0,.int .u8 0,.int .u8 0,.int .u8 0,.int .u8 0,.int .u8 0,.int .u8 0,.int .u8 0,.int .u8 0,.int .u8 0,.int .u8 0,.slice none 0 0,.slice none 0 0]at B2
 refine aI (s_1 (aH fun _ s_2=>At.meet (fun fr_ hp_=> ∃(N3 N9:Heaplet) (a9:Option Addr) (c9 b3:Nat),fr_= [(1,.pointer (some ⟨b1,0,none⟩)),(2,.pointer (some ⟨b2,0,none⟩)),(3,.pointer (some ⟨b3,0,none⟩))]∧hp_= [N3,N9,N1,N2,R]∧(Blk N3 b3 93 (logC m.a (.slice none 0 0) (.slice a9 (m.b.take 100).length c9)))∧(Row N9 5 1 a9 (m.b.take 100).length c9 (u8s (m.b.take 100)))) ?_ (fun K2_ jk_2=>?_)))
 rotate_left
 ·skip
  refine At.planS [N1,R] (.take 0 (.take 1 (.take 2 (.take 3 (.fork 4 false (.take 5 (.fork 6 false (.fork 7 true .done .nofork) .nofork)) (.fork 6 false (.fork 4 false (.take 5 (.fork 7 true .done .nofork)) .nofork) .nofork)))))) (by kernel_rfl) (by kernel_rfl) (.cons _ (.refl _)) (aJ (nxpf U U) fl39_2 U U (aK (ds:=u8s m.a) (nxpf U U) ag33 U B1 (by exact opC_a ha) (by exact len_A ha) cO U ?_))
  refine aJ (nxpf U U) fl39_6 U U (aU (nxpf U U) sc37 U B1 (opC_b ha) cO U (At.fork ?_ ?_))
  rotate_left
  ·refine At.fork ?_ ?_
   rotate_left
   ·exact At.pNo
   refine bZ (Nx.agree (nxpa U U)) ze93 U (fun N3 b3 B3=>?_)
   change Blk N3 b3 _ [.int .u8 0,.int .u8 0,.int .u8 0,.int .u8 0,.int .u8 0,.int .u8 0,.int .u8 0,.int .u8 0,.int .u8 0,.int .u8 0,.int .u8 0,.int .u8 0,.int .u8 0,.int .u8 0,.int .u8 0,.int .u8 0,.int .u8 0,.int .u8 0,.int .u8 0,.int .u8 0,.slice none 0 0,.slice none 0 0]at B3
   refine At.andS (.cons _ (.cons _ (.refl _))) (At.fork ?_ ?_)
   rotate_left
   ·exact At.pNo
   refine bG (Nx.agree (nxpa U U)) (.cons U (.cons U .nil)) (KTwinS hb 100 100 U (by decide)) Tryz.func33 U U (by simp) U ?_
   rintro _ _ ⟨N9,a9,c9,rfl,rfl,r9⟩
   show At _ _ _ [N9,N3,N2,N1,R] _
   refine At.andS (.cons _ (.cons _ (.cons _ (.refl _)))) (op_build (out:=logC m.a (.slice none 0 0) (.slice a9 (m.b.take 100).length c9)) (nxpf U U) ze93 pl93 (.cons U (.cons U .nil)) (fill_log2 ha U _ U U) U (At.fork ?_ ?_))
   rotate_left
   ·exact At.pNo
   refine bP (nxpl U U) sz93 U U U (hl _ _) (logC_one U U) B3 (by rw [hl];decide) sel1 (fun N3 B3=>?_)
   rw [setL_full (by rw [hl];rfl)]at B3
   refine At.pDone (bA (bI (bA (bA (bA (aS (jk_2 ?_ aZ ⟨N3,N9,a9,c9,b3,rfl,rfl,B3,r9⟩)))))))
   repeat first|apply cW|exact .nil|exact lkI rfl (by omega)|rfl
  refine bG (Nx.agree (nxpa U U)) (.cons U (.cons U .nil)) (KTwinS hb 100 100 U (by decide)) Tryz.func33 U U (by simp) U ?_
  rintro _ _ ⟨N9,a9,c9,rfl,rfl,r9⟩
  show At _ _ _ [N9,N2,N1,R] _
  refine At.andS (.cons _ (.cons _ (.refl _))) (op_build (out:=logC m.a (.slice none 0 0) (.slice a9 (m.b.take 100).length c9)) (nxpf U U) ze93 pl93 (.cons U (.cons U .nil)) (fill_log2 ha U _ U U) U (At.fork ?_ ?_))
  rotate_left
  ·exact At.pNo
  refine bZ (Nx.agree (nxpa U U)) ze93 U (fun N3 b3 B3=>?_)
  change Blk N3 b3 _ [.int .u8 0,.int .u8 0,.int .u8 0,.int .u8 0,.int .u8 0,.int .u8 0,.int .u8 0,.int .u8 0,.int .u8 0,.int .u8 0,.int .u8 0,.int .u8 0,.int .u8 0,.int .u8 0,.int .u8 0,.int .u8 0,.int .u8 0,.int .u8 0,.int .u8 0,.int .u8 0,.slice none 0 0,.slice none 0 0]at B3
  refine At.andS (.cons _ (.cons _ (.cons _ (.refl _)))) (At.fork ?_ ?_)
  rotate_left
  ·exact At.pNo
  refine bP (nxpl U U) sz93 U U U (hl _ _) (logC_one U U) B3 (by rw [hl];decide) sel0 (fun N3 B3=>?_)
  rw [setL_full (by rw [hl];rfl)]at B3
  refine At.pDone (bA (bI (bA (bA (bA (aS (jk_2 ?_ aZ ⟨N3,N9,a9,c9,b3,rfl,rfl,B3,r9⟩)))))))
  repeat first|apply cW|exact .nil|exact lkI rfl (by omega)|rfl
 rintro _ _ ⟨N3,N9,a9,c9,b3,rfl,rfl,B3,r9⟩
 refine s_2 (aH fun _ s_3=>aH fun _ s_4=>aB (bV U U (aI (s_4 (bX (At.empty (bS (bI (bS (bS (bA (bS (At.loop (fun fr_ hp_ ms_=> ∃(i t:Nat) (ta:Option Addr) (tc:Nat) (N3 NT:Heaplet),fr_= [(1,.pointer (some ⟨b1,0,none⟩)),(2,.pointer (some ⟨b2,0,none⟩)),(3,.pointer (some ⟨b3,0,none⟩)),(4,.int .i64 (i:Int))]∧hp_= [N3,NT,N1,N2,N9,R]∧m.b.length % 5- i=ms_∧(i≤m.b.length % 5)∧(t=i)∧(Blk N3 b3 93 (logC m.a (.slice ta t tc) (.slice a9 (m.b.take 100).length c9)))∧(Row NT 45 32 ta t tc (topsC m.b i))) ?_ aZ ⟨0,0,none,0,N3,nilH,rfl,rfl,rfl,Nat.zero_le _,rfl,B3,Row.nil _ _ _⟩ ?_)))))))))))))
 ·repeat first|apply cW|exact .nil|exact lkI rfl (by omega)|rfl
 rintro _ _ _ ⟨i,t,ta,tc,N3,NT,rfl,rfl,rfl,hi,hti,B3,rt⟩
 refine aH fun _ s_5=>aH fun _ s_6=>aB (bC U U (aJ aN fl39_6 U U (aU aN sc37 U B1 (opC_b ha) mem2 U (dB aN se37 U U (op_rem aN U U (by omega) (by omega) U (op_lss aN U U U (aI (s_6 (cD U (fun c16=>?_) (fun c16=>?_))))))))))
 ·have h0:0<m.b.length:=by omega
  have hi5:i<5:=by omega
  refine cG (aS (s_5 (aH fun _ s_7=>bX (bS (bI (bF (bS (bS (bS (cS [N3,N1,R] [10,12] [] [0,1,2,3,4,5,6,7,8,9,10,11,12] (by kernel_rfl) (by kernel_rfl) (.cons _ (.cons _ (.cons _ (.refl _)))) (aJ (bB U U U) fl93_1 U U (aU (bB U U U) sc91 U B3 (logC_20 ha) cO U (aJ (bB U U U) fl39_6 U U (aU (bB U U U) sc37 U B1 (opC_b ha) dG U (op_idx1 (bB U U U) se37 U U hb (show _=(((0:Nat)):Int)from by omega) (by omega) U ?_)))))))))))))))
  refine op_loadE (bB U U U) sc5 U hb (by first|exact get8 (by omega)|exact get64 (by omega)|exact get32 (by omega)) (by simp) U ?_
  refine aR (bB U U U) U U (op_conv8 (bB U U U) (und_some Tryz.underlying3) Tryz.underlying5 U (by first|rfl|exact(Int.toNat_of_nonneg (by omega)).symm) U ?_)
  refine op_buildA (out:= [_,_,.int .u8 0,.int .u8 0,.int .u8 0,.int .u8 0,.int .u8 0,.int .u8 0,.int .u8 0,.int .u8 0,.int .u8 0,.int .u8 0,.int .u8 0,.int .u8 0,.int .u8 0,.int .u8 0,.int .u8 0,.int .u8 0,.int .u8 0,.int .u8 0,.int .u8 0,.int .u8 0,.int .u8 0,.int .u8 0,.int .u8 0,.int .u8 0,.int .u8 0,.int .u8 0,.int .u8 0,.int .u8 0,.int .u8 0,.int .u8 0]) (bB U U U) ze45 ae45 (.cons U (.cons U .nil)) U U (op_lit (Nx.agree (nxsm U U U)) Tryz.underlying91 ze45 sz45 (.cons U .nil) U U (by simp [Value.cells]) U U U (fun N28 a28 r28=>?_))
  simp only [flatV,List.flatMap_cons,List.flatMap_nil,Value.cells,List.append_nil,List.cons_append,List.nil_append]at r28
  have s28:=r28.rsl
  refine aY (aY (aY (bI (aY (aY (aY (At.moreS (Lst:= [N3,N1,R]) (Lst':= [N28,N3,N1,R]) (.cons _ (.refl _)) (.cons _ (.cons _ (.cons _ (.refl _)))) ?_)))))))
  change Row N28 _ 32 a28 1 1 (topC m.b i)at r28
  have s28:=r28.rsl
  refine op_append (nxss U U U U) Tryz.underlying91 Tryz.underlying91 te45 U U rt s28 (by simp) (List.all_eq_true.1 (topC_one m.b i)) (by omega) (by omega) sel0 U (fun N29 a29 p29 r29=>?_)
  have s29:=r29.rsl
  refine At.anyS (.refl _) (aJ (bB U U U) fl93_1 U U ?_)
  refine bP (nxsl U U U U) sz91 U U U U U B3 (by rw [hl];exact(show 0+20+1≤22 by decide)) sel4 (fun N3 B3=>?_)
  rw [logC_top ha]at B3
  refine dH (cJ (aS (s_7 (aB (bC U U (dD aN U U (by omega) (by omega) U (bV U U (aI (dropAt4 (bS (bA (bA (bS (bS (bS ?_)))))))))))))))
  refine At.back ?_ aZ ⟨i+1,t+1,a29,p29,N3,N29,rfl,rfl,rfl,by omega,by omega,B3,by rw [topsC_succ];exact r29⟩ ?_
  ·repeat first|apply cW|exact .nil|exact lkI rfl (by omega)|rfl
  ·omega
 refine At.exit (bD (bD (dE (aS (s_3 (aH fun _ s_8=>aB (aK (ds:=logC m.a (.slice ta t tc) (.slice a9 (m.b.take 100).length c9)) aN ag93 U B3 (by exact bJ (hl _ _)) (by exact hl _ _) cO U ?_)))))))
 refine bP nxQ sz93 U U U (hl _ _) (logC_one U U) B2 (by rw [hl];decide) sel3 (fun N2 B2=>?_)
 rw [setL_full (by rw [hl];rfl)]at B2
 refine aI (s_8 (cK ((bS (bA (bI (bI (bS (bS (cV (fun Q Q1 Q2=>dropAt3 (dropAt2 (bF (cH (bF (cF (L1:= [Q]) U (.cell U (res_agg (ds:=logC m.a (.slice ta t tc) (.slice a9 (m.b.take 100).length c9)) ag93 B2 (bJ (hl _ _)) (hl _ _) cO) .nil) (.cons _ (.refl _)) aZ ?_))))))))))))))))
 have hin:i=m.b.length % 5:=by omega
 have htn:t=m.b.length % 5:=by omega
 rw [hin]at rt
 rw [htn]at rt⊢
 exact⟨Q,ta,tc,a9,c9,rfl,rfl,ha,rt.rsl.le Q1,topsC_one,by omega,r9.rsl.le Q2,by rw [List.length_take];omega⟩
section
variable {NS NT NM NW ND NP NQ NO NL NU NK : Heaplet} {t : SJ} {sp ma c : Nat}
end
def cutAt (b:List UInt8) (i n:Nat):Option (Bool×List UInt8×List UInt8):=
 if b.length- i<n then none
 else if 192≤(b.getD 0 0).toNat then some (true,(b.drop i).take n,b.drop (i+n))
 else if n=1∧(b.getD i 0).toNat<128 then none
 else some (false,(b.drop i).take n,b.drop (i+n))
def hdr (b:List UInt8):Nat:=((b.getD 0 0).toNat- 128) % 64
def lng (b:List UInt8):Nat:=be ((b.drop 1).take (hdr b- 54- 1))
def cutF (b:List UInt8):Option (Bool×List UInt8×List UInt8):=
 if b.length=0 then none
 else if (b.getD 0 0).toNat<128 then some (false,b.take 1,b.drop 1)
 else if hdr b≤55 then cutAt b 1 (hdr b)
 else if b.length<hdr b- 54∨(b.getD 1 0).toNat=0 then none
 else if lng b≤55∨b.length<lng b then none
 else cutAt b (hdr b- 54) (lng b)
inductive It where
 |mk (list:Bool) (bytes:List UInt8) (items:List It)
mutual
def It.form:It→List UInt8
 |.mk false bs _=>match bs with
  | [x]=>if x<128 then [x]else rlpHead 128 1++ [x]
  |bs=>rlpHead 128 bs.length++bs
 |.mk true _ its=>rlpHead 192 (It.forms its).length++It.forms its
def It.forms:List It→List UInt8
 | []=> []
 |t::ts=>It.form t++It.forms ts
end
mutual
def It.depth:It→Nat
 |.mk false _ _=>0
 |.mk true _ its=>It.depths its+1
def It.depths:List It→Nat
 | []=>0
 |t::ts=>max (It.depth t) (It.depths ts)
end
mutual
theorem It.ind_it {P:It→Prop} (h: ∀l bs its,(∀t∈its,P t)→P (.mk l bs its)): ∀t,P t
 |.mk l bs its=>h l bs its (It.ind_its h its)
theorem It.ind_its {P:It→Prop} (h: ∀l bs its,(∀t∈its,P t)→P (.mk l bs its)): ∀its:List It, ∀t∈its,P t
 | [],_,ht=>by cases ht
 |x::xs,t,ht=>by
  rcases List.mem_cons.1 ht with e|ht
  ·rw [e];exact It.ind_it h x
  ·exact It.ind_its h xs t ht
end
theorem forms_append (a b:List It):It.forms (a++b)=It.forms a++It.forms b:=by
 induction a with
 |nil=>rfl
 |cons t ts ih=>simp only [List.cons_append,It.forms,ih,List.append_assoc]
theorem forms_take_succ {its:List It} {k:Nat} {t:It} (h:its[k]? =some t):It.forms (its.take (k+1))=It.forms (its.take k)++t.form:=by
 obtain⟨hlt,rfl⟩:=List.getElem?_eq_some_iff.1 h
 rw [List.take_succ_eq_append_getElem hlt,forms_append]
 simp [It.forms]
theorem forms_take_le (its:List It) (k:Nat):(It.forms (its.take k)).length≤(It.forms its).length:=by
 conv=>rhs;rw [←List.take_append_drop k its]
 rw [forms_append,List.length_append]
 omega
theorem form_le {its:List It} {t:It} (h:t∈its):t.form.length≤(It.forms its).length:=by
 obtain⟨a,b,rfl⟩:=List.append_of_mem h
 rw [forms_append,It.forms]
 simp
 omega
theorem depths_le {its:List It} {d:Nat} :It.depths its≤d↔ ∀t∈its,t.depth≤d:=by
 induction its with
 |nil=>simp [It.depths]
 |cons t ts ih=>simp [It.depths,Nat.max_le,ih]
def small:List UInt8→Bool
 | [x]=>decide (x<128)
 |_=>false
theorem form_false (bs:List UInt8) (its:List It):(It.mk false bs its).form=if small bs then bs else rlpHead 128 bs.length++bs:=by
 cases bs with
 |nil=>simp [It.form,small]
 |cons x xs=>
  cases xs with
  |nil=>simp [It.form,small]
  |cons y ys=>simp [It.form,small]
theorem form_true (bs:List UInt8) (its:List It):(It.mk true bs its).form=rlpHead 192 (It.forms its).length++It.forms its:=by simp [It.form]
theorem small_iffI {bs:List UInt8} :small bs=true↔bs.length=1∧(bs.getD 0 0).toNat<128:=by
 cases bs with
 |nil=>simp [small]
 |cons x xs=>
  cases xs with
  |nil=>simp [small,UInt8.lt_iff_toNat_lt]
  |cons y ys=>simp [small]
theorem one_eq {bs:List UInt8} (h:bs.length=1):bs= [bs.getD 0 0]:=by
 cases bs with
 |nil=>simp at h
 |cons x xs=>cases xs with
  |nil=>rfl
  |cons y ys=>simp at h
structure IV where
 l:Bool
 ab:Option Addr
 nb:Nat
 cb:Nat
 ai:Option Addr
 ni:Nat
 ci:Nat
def IV.cells (x:IV):List Value:= [.bool x.l,.slice x.ab x.nb x.cb,.slice x.ai x.ni x.ci]
def cellsI (xs:List IV):List Value:=xs.flatMap IV.cells
theorem length_cellsI (xs:List IV):(cellsI xs).length=xs.length*3:=by
 induction xs with
 |nil=>rfl
 |cons x t ih=>simp only [cellsI,List.flatMap_cons,List.length_append,List.length_cons]at ih⊢;rw [ih];simp [IV.cells];omega
theorem cells_at {xs:List IV} {k:Nat} {x:IV} (h:xs[k]? =some x):((cellsI xs).drop (k*3)).take 3= [.bool x.l,.slice x.ab x.nb x.cb,.slice x.ai x.ni x.ci]:=by
 induction xs generalizing k with
 |nil=>simp at h
 |cons y t ih=>
  cases k with
  |zero=>simp at h;subst h;simp [cellsI,IV.cells]
  |succ k=>
   have:=ih (k:=k) (by simpa using h)
   rw [←this]
   have e:cellsI (y::t)=y.cells++cellsI t:=by simp [cellsI]
   have hl:y.cells.length=3:=rfl
   rw [e,show(k+1)*3=y.cells.length+k*3 from by rw [hl];omega,List.drop_append,List.drop_eq_nil_of_le (by omega),List.nil_append,Nat.add_sub_cancel_left]
mutual
def ItN (N:Heaplet):It→IV→Prop
 |.mk l bs its,x=>x.l=l∧RSl N 1 x.ab x.nb x.cb (u8s bs)∧ ∃xs,RSl N 3 x.ai x.ni x.ci (cellsI xs)∧ItsN N its xs
def ItsN (N:Heaplet):List It→List IV→Prop
 | [],xs=>xs= []
 |t::ts,xs=> ∃x r,xs=x::r∧ItN N t x∧ItsN N ts r
end
mutual
theorem ItN.le {N M:Heaplet} (hl:N.le M): ∀ {t:It} {x:IV},ItN N t x→ItN M t x
 |.mk l bs its,x,h=>by
  simp only [ItN]at h⊢
  obtain⟨h1,h2,xs,h3,h4⟩:=h
  exact⟨h1,h2.le hl,xs,h3.le hl,ItsN.le hl h4⟩
theorem ItsN.le {N M:Heaplet} (hl:N.le M): ∀ {ts:List It} {xs:List IV},ItsN N ts xs→ItsN M ts xs
 | [],xs,h=>h
 |t::ts,xs,h=>by
  simp only [ItsN]at h⊢
  obtain⟨x,r,e,h1,h2⟩:=h
  exact⟨x,r,e,ItN.le hl h1,ItsN.le hl h2⟩
end
theorem ItsN.length {N:Heaplet} : ∀ {ts:List It} {xs:List IV},ItsN N ts xs→xs.length=ts.length
 | [],xs,h=>by simp only [ItsN]at h;subst h;rfl
 |t::ts,xs,h=>by
  simp only [ItsN]at h
  obtain⟨x,r,rfl,_,h2⟩:=h
  simp [h2.length]
theorem ItsN.get {N:Heaplet} : ∀ {ts:List It} {xs:List IV} {k:Nat} {t:It},ItsN N ts xs→ts[k]? =some t→ ∃x,xs[k]? =some x∧ItN N t x
 | [],xs,k,t,_,h=>by simp at h
 |t'::ts,xs,0,t,h,hk=>by
  simp only [ItsN]at h
  obtain⟨x,r,rfl,h1,_⟩:=h
  simp at hk;subst hk
  exact⟨x,rfl,h1⟩
 |t'::ts,xs,k+1,t,h,hk=>by
  simp only [ItsN]at h
  obtain⟨x,r,rfl,_,h2⟩:=h
  obtain⟨y,hy,hi⟩:=h2.get (k:=k) (by simpa using hk)
  exact⟨y,by simpa using hy,hi⟩
theorem ItsN.snoc {N:Heaplet} : ∀ {ts:List It} {xs:List IV} {t:It} {x:IV},ItsN N ts xs→ItN N t x→ItsN N (ts++ [t]) (xs++ [x])
 | [],xs,t,x,h,hi=>by simp only [ItsN]at h;subst h;exact⟨x,[],rfl,hi,rfl⟩
 |t'::ts,xs,t,x,h,hi=>by
  simp only [ItsN]at h
  obtain⟨y,r,rfl,h1,h2⟩:=h
  exact⟨y,r++ [x],rfl,h1,h2.snoc hi⟩
theorem ItN.mk {N:Heaplet} {l:Bool} {bs:List UInt8} {its:List It} {ab ai:Option Addr} {nb cb ni ci:Nat} {xs:List IV} (h1:RSl N 1 ab nb cb (u8s bs)) (h2:RSl N 3 ai ni ci (cellsI xs)) (h3:ItsN N its xs):ItN N (.mk l bs its) ⟨l,ab,nb,cb,ai,ni,ci⟩:=⟨rfl,h1,xs,h2,h3⟩
def exMap {α:Type} (f:List α→List α):Except Nat (List α)→Except Nat (List α)
 |.ok l=>.ok (f l)
 |.error e=>.error e
def itemsF (dec:List UInt8→Except Nat (It×List UInt8)):Nat→List UInt8→Except Nat (List It)
 |_,[]=>.ok []
 |0,_::_=>.error 2
 |f+1,c::b=>match dec (c::b)with
  |.error e=>.error e
  |.ok (t,q)=>exMap (t:: ·) (itemsF dec f q)
def itF (dec:List UInt8→Except Nat (It×List UInt8)) (b:List UInt8):Except Nat (List It):=itemsF dec b.length b
def decF:Nat→List UInt8→Except Nat (It×List UInt8)
 |0,b=>match cutF b with
  |none=>.error 2
  |some (false,p,r)=>.ok (.mk false p [],r)
  |some (true,_,_)=>.error 7
 |k+1,b=>match cutF b with
  |none=>.error 2
  |some (false,p,r)=>.ok (.mk false p [],r)
  |some (true,p,r)=>match itF (decF k) p with
   |.error e=>.error e
   |.ok its=>.ok (.mk true [] its,r)
open Go Go.RowKit
set_option maxRecDepth 100000
def DecP (ao:Option Addr) (n cap:Nat) (b:List UInt8) (r:Except Nat (It×List UInt8)) (v:Value) (L:List Heaplet):Prop:=
 (∃t q M, ∃x:IV, ∃aq cq,r=.ok (t,q)∧v=.tuple #[.agg #[.bool x.l,.slice x.ab x.nb x.cb,.slice x.ai x.ni x.ci],.slice aq q.length cq,.int .i64 0]∧L= [M]∧ItN M t x∧ ∀N,RSl N 1 ao n cap (u8s b)→RSl N 1 aq q.length cq (u8s q))∨
 (∃e:Nat,r=.error e∧v=.tuple #[.agg #[.bool false,.slice none 0 0,.slice none 0 0],.slice none 0 0,.int .i64 (e:Int)]∧L= []∧e≠0)
open Go Go.RowKit
set_option maxRecDepth 100000
theorem rlpHead_le (b n:Nat) (h:n<256^8):(rlpHead b n).length≤9:=by
 unfold rlpHead
 split
 ·simp
 ·have:=bytesOf_le h
  simp;omega
def EncP (t:It) (lists:Nat) (v:Value) (L:List Heaplet):Prop:=
 (∃M a cap,v=.tuple #[.slice a t.form.length cap,.int .i64 0]∧L= [M]∧Row M 5 1 a t.form.length cap (u8s t.form)∧lists+t.depth≤1024)∨
 (v=.tuple #[.slice none 0 0,.int .i64 7]∧L= []∧ ¬lists+t.depth≤1024)
theorem encode_bs {N:Heaplet} {bs:List UInt8} {its:List It} {ab ai:Option Addr} {nb cb ni ci:Nat} (h:RSl N 1 ab nb cb (u8s bs)) (lists:Nat) (q:Int) (hl:lists≤1024) (hlen:(It.mk false bs its).form.length≤1099511627776):
 Fn Tryz.prog 106 #[.agg #[.bool false,.slice ab nb cb,.slice ai ni ci],.int .i64 q] [] [N] (EncP (.mk false bs its) lists):=by
 have hn:=h.len8
 have hcap:=h.cap63
 have hd:lists+(It.mk false bs its).depth≤1024:=by simpa [It.depth]using hl
 have hf:=form_false bs its
 have hsm:= @small_iffI bs
 have hub:small bs≠true→(rlpHead 128 nb).length+nb≤1099511627776:=fun e=>by rw [hf,if_neg e,List.length_append,hn]at hlen;exact hlen
 refine Fn.enter (vs:= [.agg #[.bool false,.slice ab nb cb,.slice ai ni ci],.int .i64 q]) Tryz.func106 U U U ?_
 intro E R hR
 have h:=h.le (hR N (by simp))
 change At _ _ E [R] _
 refine aH fun _ s_1=>aB (cU bT U U U (fun N2 b2 B2=>bV U U (bV U U (aI (s_1 (aH fun _ s_2=>aH fun _ s_3=>aB (aJ aN fl137_0 U U (aU aN sc4 U B2 U cO U ?_))))))))
 refine op_not aN U U (aI (s_3 (At.condT U (aH fun _ s_4=>aH fun _ s_5=>aB (aJ aN fl137_1 U U (aU aN sc37 U B2 U cO U ?_))))))
 refine dB aN se37 U U (op_eql aN U U U (bC U U (At.partP (d:=18) U (fun g18=>?_) (fun g18=>?_))))
 ·refine aJ (nxgf U U U U) fl137_1 U U (aU (nxgf U U U U) sc37 U B2 U cO U ?_)
  refine op_idx1 (nxgf U U U U) se37 U U (by assumption) (show _=(((0:Nat)):Int)from by omega) (by omega) U ?_
  refine op_loadE (nxgf U U U U) sc5 U (by assumption) (by first|exact get8 (by omega)|exact get64 (by omega)|exact get32 (by omega)) (by simp) U ?_
  refine op_lss (nxgf U U U U) U U U (op_pickT aN U U U (aI (s_5 (cD U (fun c24=>?_) (fun c24=>?_)))))
  ·refine aH fun _ s_6=>aB (aJ aN fl137_1 U U (aU aN sc37 U B2 U cO U ?_))
   refine op_idx1 aN se37 U U (by assumption) (show _=((0:Nat):Int)from U) (by omega) U ?_
   refine op_loadE aN sc5 U (by assumption) (by first|exact get8 (by omega)|exact get64 (by omega)|exact get32 (by omega)) (by simp) U ?_
   refine op_lit bT Tryz.underlying37 ze5 sz5 (.cons U .nil) U U (by simp [Value.cells]) U U U (fun N29 a29 r29=>?_)
   simp only [flatV,List.flatMap_cons,List.flatMap_nil,Value.cells,List.append_nil,List.cons_append,List.nil_append]at r29
   have s29:=r29.rsl
   refine bV U U (bV U U (aI (s_6 (cK (dC (dC ((cT (At.retN (L1:= [N29]) U (.tmp U (.tmp U .nil)) U (.refl _) aZ ?_)))))))))
   have e:(It.mk false bs its).form= [bs.getD 0 0]:=by
    rw [hf,if_pos (hsm.2 ⟨by omega,by omega⟩)]
    exact one_eq (by omega)
   exact .inl ⟨N29,a29,1,by rw [e];rfl,rfl,by rw [e];exact r29,hd⟩
  refine cG (aS (s_4 (aH fun _ s_7=>At.drawn [6] [0,1,2,4,5,3,6,7,8] (by kernel_rfl) (by kernel_rfl) (aJ (cX U U U (by kernel_rfl)) fl137_1 U U (aU (cX U U U (by kernel_rfl)) sc37 U B2 U cO U ?_)))))
  refine dB (cX U U U (by kernel_rfl)) se37 U U (aJ (cX U U U (by kernel_rfl)) fl137_1 U U (aU (cX U U U (by kernel_rfl)) sc37 U B2 U cO U ?_))
  have hub':=hub (fun e=>by have:=hsm.1 e;omega)
  refine bG (nxoa U U U) (.cons U (.cons U .nil)) (head_f 128 nb (by omega) (by omega)) Tryz.func119 U U (by simp) U ?_
  rintro _ _ ⟨M33,a33,p33,rfl,rfl,r33⟩
  show At _ _ _ [M33,N2,R] _
  refine op_append (nxos rfl rfl rfl rfl) Tryz.underlying37 Tryz.underlying37 te5 rfl rfl r33 (by assumption) (by simp) (by first|exact one_u8s _|exact one_u64s _|exact one_u32s _|(intro u hu;simp at hu;subst hu;rfl)) (by omega) (by omega) sel0 rfl (fun N36 a36 p36 r36=>?_)
  have s36:=r36.rsl
  refine cZ (cX U U U (by kernel_rfl)) U U (cZ (cX U U U (by kernel_rfl)) U U (At.oneNil (aS (s_7 (cK (dC ((cT (At.retN (L1:= [N36]) U (.tmp U (.tmp U .nil)) U (.refl _) aZ ?_)))))))))
  have e:(It.mk false bs its).form=rlpHead 128 nb++bs:=by rw [hf,if_neg (fun e=>by have:=hsm.1 e;omega),hn]
  exact .inl ⟨N36,a36,p36,by rw [e,List.length_append,hn],rfl,by rw [e,List.length_append,hn,u8s,List.map_append];exact r36,hd⟩
 refine dF U U U U U U U (dF U U U U U U U (dF U U U U U U U (dF U U U U U U U (dF U U U U U U U (op_pickF aN U U U (aI (s_5 (At.condF U (cG (aS (s_4 (aH fun _ s_8=>At.drawn [6] [0,1,2,4,5,3,6,7,8] (by kernel_rfl) (by kernel_rfl) (aJ (cX U U U (by kernel_rfl)) fl137_1 U U (aU (cX U U U (by kernel_rfl)) sc37 U B2 U cO U ?_))))))))))))))
 refine dB (cX U U U (by kernel_rfl)) se37 U U (aJ (cX U U U (by kernel_rfl)) fl137_1 U U (aU (cX U U U (by kernel_rfl)) sc37 U B2 U cO U ?_))
 have hub':=hub (fun e=>by have:=hsm.1 e;omega)
 refine bG (nxoa U U U) (.cons U (.cons U .nil)) (head_f 128 nb (by omega) (by omega)) Tryz.func119 U U (by simp) U ?_
 rintro _ _ ⟨M33,a33,p33,rfl,rfl,r33⟩
 show At _ _ _ [M33,N2,R] _
 refine op_append (nxos rfl rfl rfl rfl) Tryz.underlying37 Tryz.underlying37 te5 rfl rfl r33 (by assumption) (by simp) (by first|exact one_u8s _|exact one_u64s _|exact one_u32s _|(intro u hu;simp at hu;subst hu;rfl)) (by omega) (by omega) sel0 rfl (fun N36 a36 p36 r36=>?_)
 have s36:=r36.rsl
 refine cZ (cX U U U (by kernel_rfl)) U U (cZ (cX U U U (by kernel_rfl)) U U (At.oneNil (aS (s_8 (cK (dC ((cT (At.retN (L1:= [N36]) U (.tmp U (.tmp U .nil)) U (.refl _) aZ ?_)))))))))
 have e:(It.mk false bs its).form=rlpHead 128 nb++bs:=by rw [hf,if_neg (fun e=>by have:=hsm.1 e;omega),hn]
 exact .inl ⟨N36,a36,p36,by rw [e,List.length_append,hn],rfl,by rw [e,List.length_append,hn,u8s,List.map_append];exact r36,hd⟩
theorem encode_its {N:Heaplet} {its:List It} {xs:List IV} {ab ai:Option Addr} {nb cb ni ci:Nat} {bs:List UInt8} (hI:RSl N 3 ai ni ci (cellsI xs)) (hX:ItsN N its xs) (lists:Nat) (q:Int) (hq:q=lists) (hl:lists≤1024) (hlen:(It.mk true bs its).form.length≤1099511627776)
 (ih: ∀t∈its, ∀(N:Heaplet) (x:IV) (lists:Nat) (q:Int),ItN N t x→q=lists→lists≤1024→t.form.length≤1099511627776→Fn Tryz.prog 106 #[.agg #[.bool x.l,.slice x.ab x.nb x.cb,.slice x.ai x.ni x.ci],.int .i64 q] [] [N] (EncP t lists)):
 Fn Tryz.prog 106 #[.agg #[.bool true,.slice ab nb cb,.slice ai ni ci],.int .i64 q] [] [N] (EncP (.mk true bs its) lists):=by
 have hn:xs.length=ni:=by have:=hI.1;rw [length_cellsI]at this;omega
 have hn2:=hX.length
 have hcap:=hI.cap63
 have hf:=form_true bs its
 have hlf:(rlpHead 192 (It.forms its).length).length+(It.forms its).length≤1099511627776:=by rw [hf,List.length_append]at hlen;exact hlen
 have hdep:(It.mk true bs its).depth=It.depths its+1:=by simp [It.depth]
 refine Fn.enter (vs:= [.agg #[.bool true,.slice ab nb cb,.slice ai ni ci],.int .i64 q]) Tryz.func106 U U U ?_
 intro E R hR
 have hI:=hI.le (hR N (by simp))
 have hX:=hX.le (hR N (by simp))
 change At _ _ E [R] _
 refine aH fun _ s_1=>aB (cU bT U U U (fun N2 b2 B2=>bV U U (bV U U (aI (s_1 (aH fun _ s_2=>aH fun _ s_3=>aB (aJ aN fl137_0 U U (aU aN sc4 U B2 U cO U ?_))))))))
 refine op_not aN U U (aI (s_3 (At.condF U (cG (aS (s_2 (aH fun _ s_4=>aH fun _ s_5=>aB (bC U U (op_eql aN U U U (aI (s_5 (cD U (fun c38=>?_) (fun c38=>?_)))))))))))))
 ·refine aH fun _ s_6=>aB (bV U U (bV U U (aI (s_6 (cK (dC ((dropAt0 (At.retN (L1:= []) U (.tmp U (.tmp U .nil)) U (.refl _) aZ ?_)))))))))
  exact .inr ⟨rfl,rfl,by omega⟩
 refine cG (aS (s_4 (aH fun _ s_7=>aB (bV U U (aI (s_7 (aH fun _ s_8=>aH fun _ s_9=>aB (aJ aN fl137_2 U U (aU aN sc135 U B2 U cO U ?_)))))))))
 refine dB aN se135 U U (bC U U (aI (s_9 (bX (At.empty (bF (cH (bF (At.loop (fun fr_ hp_ ms_=> ∃(k np:Nat) (ap:Option Addr) (cp:Nat) (Np:Heaplet),fr_= [(1,.int .i64 q),(2,.pointer (some ⟨b2,0,none⟩)),(6,.slice ap np cp),(40,.slice ai ni ci),(41,.int .i64 (ni:Int)),(42,.int .i64 (k:Int))]∧hp_= [N2,Np,R]∧ni- k=ms_∧(k≤ni)∧(np=(It.forms (its.take k)).length)∧(Row Np 5 1 ap np cp (u8s (It.forms (its.take k))))∧(∀t∈its.take k,lists+1+t.depth≤1024)) ?_ aZ ⟨0,0,none,0,nilH,rfl,rfl,rfl,by omega,by simp [It.forms],by simpa [It.forms,u8s]using Row.nil nilH 5 1,by simp⟩ ?_)))))))))
 ·repeat first|apply cW|exact .nil|exact lkI rfl (by omega)|rfl
 rintro _ _ _ ⟨k,np,ap,cp,Np,rfl,rfl,rfl,hk,hnp,rp,hd⟩
 have sp:=rp.rsl
 have hle:=forms_take_le its k
 refine aH fun _ s_10=>aB (op_lss aN U U U (aI (s_10 (aH fun _ s_11=>cD U (fun c43=>?_) (fun c43=>?_)))))
 ·have hlt:k<its.length:=by omega
  obtain⟨x,hx,hi⟩:=hX.get (List.getElem?_eq_getElem hlt)
  have hts:=forms_take_succ (List.getElem?_eq_getElem hlt)
  have hfe:=form_le (List.getElem_mem hlt)
  have hle2:=forms_take_le its (k+1)
  have hsum:np+(its[k]).form.length≤(It.forms its).length:=by rw [hts,List.length_append]at hle2;omega
  refine cG (aS (s_11 (aH fun _ s_12=>bX (aH fun _ s_13=>aB (op_idxE aN se135 U U (by assumption) (show _=(((k:Nat)):Int)from by omega) (by omega) U ?_)))))
  refine op_loadAggE aN ag137 U (by assumption) (by exact cells_at hx) (by rfl) (by omega) (by simp) U ?_
  refine bZ bT ze137 U (fun N8 b8 B8=>?_)
  change Blk N8 b8 _ [.bool false,.slice none 0 0,.slice none 0 0]at B8
  refine bP nxQ sz137 U U U U U B8 (by simp) sel0 (fun N8 B8=>?_)
  simp only [setL,List.set]at B8
  refine aI (s_13 (aH fun _ s_14=>aB (aK (ds:= [_,_,_]) aN ag137 U B8 U U cO U (bC U U (dD aN U U (by omega) (by omega) U (bG bT (.cons U (.cons U .nil)) (ih its[k] (List.getElem_mem hlt) R x (lists+1) (q+1) hi (by omega) (by omega) (by omega)) Tryz.func106 U U (by simp) U ?_))))))
  rintro _ _ (⟨M50,a50,p50,rfl,rfl,r50,hd50⟩|⟨rfl,rfl,hd50⟩)
  ·show At _ _ _ [M50,N8,N2,Np,R] _
   have s50:=r50.rsl
   refine bC U U (bW aN U U U (bW aN U U U (bV U U (bV U U (aI (s_14 (aH fun _ s_15=>aH fun _ s_16=>aB (bC U U (op_neq aN U U U (aI (s_16 (At.condF U (cG (aS (s_15 (aB (bC U U (bC U U ?_))))))))))))))))))
   refine op_append nxQ Tryz.underlying37 Tryz.underlying37 te5 rfl rfl rp (by assumption) (by simp) (by first|exact one_u8s _|exact one_u64s _|exact one_u32s _|(intro u hu;simp at hu;subst hu;rfl)) (by omega) (by omega) sel3 rfl (fun N58 a58 p58 r58=>?_)
   have s58:=r58.rsl
   refine bV U U (cE (cJ (aS (s_12 (aB (dD aN U U (by omega) (by omega) U (bC U U (aI (dropAt2 (cT (bF (cH (bF ?_)))))))))))))
   refine At.back ?_ aZ ⟨k+1,np+(its[k]).form.length,a58,p58,N58,rfl,rfl,rfl,by omega,by rw [hts,List.length_append,hnp],by rw [hts,u8s,List.map_append];exact r58,fun t ht=>by rw [List.take_succ_eq_append_getElem hlt,List.mem_append]at ht;rcases ht with ht|ht;exact hd t ht;rw [List.mem_singleton.1 ht];exact hd50⟩ ?_
   ·repeat first|apply cW|exact .nil|exact lkI rfl (by omega)|rfl
   ·omega
  show At _ _ _ [N8,N2,Np,R] _
  refine bC U U (bW aN U U U (bW aN U U U (bV U U (bV U U (aI (s_14 (aH fun _ s_17=>aH fun _ s_18=>aB (bC U U (op_neq aN U U U (aI (s_18 (At.condT U (aH fun _ s_19=>aB (bC U U (bV U U (bV U U (aI (s_19 (cK (dC (At.inRet (dC (dC (At.inRet (dC ((dropAt2 (cT (dropAt0 (At.retN (L1:= []) U (.tmp U (.tmp U .nil)) U (.refl _) aZ (.inr ⟨rfl,rfl,fun h=>hd50 ?_⟩)))))))))))))))))))))))))))))))
  have:=depths_le.1 (Nat.le_refl _) _ (List.getElem_mem hlt)
  omega
 refine At.exit (bD (bD (dE (aS (s_8 (aH fun _ s_20=>aB (bC U U (dB aN se37 U U (bG bT (.cons U (.cons U .nil)) (head_f 192 np (by omega) (by omega)) Tryz.func119 U U (by simp) U ?_)))))))))
 rintro _ _ ⟨M62,a62,p62,rfl,rfl,r62⟩
 show At _ _ _ [M62,N2,Np,R] _
 refine bC U U ?_
 have h9:=rlpHead_le 192 np (by omega)
 refine op_append nxQ Tryz.underlying37 Tryz.underlying37 te5 rfl rfl r62 (by assumption) (by simp) (by first|exact one_u8s _|exact one_u64s _|exact one_u32s _|(intro u hu;simp at hu;subst hu;rfl)) (by omega) (by omega) sel0 rfl (fun N64 a64 p64 r64=>?_)
 have s64:=r64.rsl
 refine bV U U (bV U U (aI (s_20 (cK ((dropAt2 (cT (At.retN (L1:= [N64]) U (.tmp U (.tmp U .nil)) U (.refl _) aZ ?_))))))))
 obtain rfl:k=its.length:=by omega
 rw [List.take_length]at hnp hd r64
 subst hnp
 refine .inl ⟨N64,a64,p64,by rw [hf,List.length_append],rfl,by rw [hf,List.length_append,u8s,List.map_append];exact r64,?_⟩
 rw [hdep]
 by_cases hz:its= []
 ·subst hz;simp [It.depths];omega
 ·have:It.depths its≤1024- lists- 1:=depths_le.2 fun t ht=>by have:=hd t ht;omega
  obtain⟨t,ht⟩:=List.exists_mem_of_ne_nil _ hz
  have:=hd t ht
  omega
theorem encode_f (t:It): ∀(N:Heaplet) (x:IV) (lists:Nat) (q:Int),ItN N t x→q=lists→lists≤1024→t.form.length≤1099511627776→Fn Tryz.prog 106 #[.agg #[.bool x.l,.slice x.ab x.nb x.cb,.slice x.ai x.ni x.ci],.int .i64 q] [] [N] (EncP t lists):=by
 induction t using It.ind_it with|h l bs its ih=>?_
 intro N x lists q h hq hl hlen
 simp only [ItN]at h
 obtain⟨rfl,h1,xs,h2,h3⟩:=h
 cases hb:x.l with
 |false=>rw [hb]at hlen;exact encode_bs h1 lists q hl hlen
 |true=>rw [hb]at hlen;exact encode_its h2 h3 lists q hq hl hlen ih
theorem Encode_f {N:Heaplet} {t:It} {x:IV} (h:ItN N t x) (hlen:t.form.length≤1099511627776):Fn Tryz.prog 82 #[.agg #[.bool x.l,.slice x.ab x.nb x.cb,.slice x.ai x.ni x.ci]] [] [N] (EncP t 0):=by
 refine Fn.enter (vs:= [.agg #[.bool x.l,.slice x.ab x.nb x.cb,.slice x.ai x.ni x.ci]]) Tryz.func82 U U U ?_
 intro E R hR
 have h:=h.le (hR N (by simp))
 change At _ _ E [R] _
 refine aH fun _ s_1=>aB (cU bT U U U (fun N1 b1 B1=>bV U U (bV U U (aI (s_1 (aH fun _ s_2=>aB (aK (ds:= [_,_,_]) aN ag137 U B1 U U cO U (bG bT (.cons U (.cons U .nil)) (encode_f t R x 0 0 h U (by omega) hlen) Tryz.func106 U U (by simp) U ?_))))))))
 rintro _ _ (⟨M5,a5,p5,rfl,rfl,r5,hd5⟩|⟨rfl,rfl,hd5⟩)
 ·show At _ _ _ [M5,N1,R] _
  refine bW aN U U U (bW aN U U U (bV U U (bV U U (aI (s_2 (cK ((cT (At.retN (L1:= [M5]) U (.tmp U (.tmp U .nil)) U (.refl _) aZ ?_)))))))))
  exact .inl ⟨M5,a5,p5,rfl,rfl,r5,hd5⟩
 show At _ _ _ [N1,R] _
 refine bW aN U U U (bW aN U U U (bV U U (bV U U (aI (s_2 (cK ((dropAt0 (At.retN (L1:= []) U (.tmp U (.tmp U .nil)) U (.refl _) aZ ?_)))))))))
 exact .inr ⟨rfl,rfl,hd5⟩
open Go Go.RowKit
def decodeF (b:List UInt8):Except Nat It:=match decF 1024 b with
 |.error e=>.error e
 |.ok (t,q)=>if q.length=0 then .ok t else .error 2
def DecodeP (r:Except Nat It) (v:Value) (L:List Heaplet):Prop:=
 (∃t M, ∃x:IV,r=.ok t∧v=.tuple #[.agg #[.bool x.l,.slice x.ab x.nb x.cb,.slice x.ai x.ni x.ci],.int .i64 0]∧L= [M]∧ItN M t x)∨
 (∃e:Nat,r=.error e∧v=.tuple #[.agg #[.bool false,.slice none 0 0,.slice none 0 0],.int .i64 (e:Int)]∧L= []∧e≠0)
open Go Go.RowKit
def wakeT:It:=.mk true [] [.mk true [] [],.mk false [97] []]
theorem Encode_ok {N:Heaplet} {t:It} {x:IV} (h:ItN N t x) (hlen:t.form.length≤1099511627776) (hd:t.depth≤1024):Fn Tryz.prog 82 #[.agg #[.bool x.l,.slice x.ab x.nb x.cb,.slice x.ai x.ni x.ci]] [] [N] (fun v L=> ∃M a cap,v=.tuple #[.slice a t.form.length cap,.int .i64 0]∧L= [M]∧Row M 5 1 a t.form.length cap (u8s t.form)):=
 (Encode_f h hlen).mono fun v L hp=>by
  rcases hp with ⟨M,a,cap,h1,h2,h3,_⟩|⟨_,_,h3⟩
  ·exact⟨M,a,cap,h1,h2,h3⟩
  ·exact absurd (by omega) h3
open Go Go.RowKit
set_option maxRecDepth 100000
open Go Go.RowKit
def nestN:Nat→It→It
 |0,t=>t
 |k+1,t=>.mk true [] [nestN k t]
open Go Go.RowKit
def envF (b:List UInt8):Option (Nat×List UInt8):=
 if b.length=0∨(128≤(b.getD 0 0).toNat∧(b.getD 0 0).toNat<192)then none
 else if 192≤(b.getD 0 0).toNat then some (0,b)
 else some ((b.getD 0 0).toNat,b.drop 1)
def EnvP (N:Heaplet) (r:Option (Nat×List UInt8)) (v:Value):Prop:=
 (r=none∧v=.tuple #[.int .i64 0,.slice none 0 0,.int .i64 2])∨
 (∃k p a c,r=some (k,p)∧v=.tuple #[.int .i64 (k:Int),.slice a p.length c,.int .i64 0]∧RSl N 1 a p.length c (u8s p))
theorem EnvP.mk {N:Heaplet} {r:Option (Nat×List UInt8)} {k n c:Nat} {q:Int} {a:Option Addr} {p:List UInt8} (hr:r=some (k,p)) (hq:q=(k:Int)) (h:RSl N 1 a n c (u8s p)):EnvP N r (.tuple #[.int .i64 q,.slice a n c,.int .i64 0]):=by
 have e:=h.len8
 subst e;subst hq
 exact .inr ⟨k,p,a,c,hr,rfl,h⟩
open Go Go.RowKit
mutual
def It.same:It→It→Bool
 |.mk l bs its,.mk l' bs' its'=>decide (l=l')&&(decide (bs=bs')&&It.sames its its')
def It.sames:List It→List It→Bool
 | [],[]=>true
 |t::ts,u::us=>It.same t u&&It.sames ts us
 |_,_=>false
end
mutual
theorem It.same_self: ∀t:It,It.same t t=true
 |.mk l bs its=>by simp [It.same,It.sames_self its]
theorem It.sames_self: ∀ts:List It,It.sames ts ts=true
 | []=>by simp [It.sames]
 |t::ts=>by simp [It.sames,It.same_self t,It.sames_self ts]
end
open Go Go.RowKit
def numE (b:List UInt8):Nat:=if 0<b.length∧(b.getD 0 0).toNat=0 then 2 else if 32<b.length then 3 else 0
def numV (b:List UInt8):Nat:=if numE b=0 then be b else 0
def NumP (b:List UInt8) (v:Value) (L:List Heaplet):Prop:=
 ∃wa wb wc wd:UInt64,v=.tuple #[.agg #[.int .u64 (wa.toNat:Int),.int .u64 (wb.toNat:Int),.int .u64 (wc.toNat:Int),.int .u64 (wd.toNat:Int)],.int .i64 (numE b:Int)]∧L= []∧v64 [wa,wb,wc,wd]=numV b
theorem NumP.good {b:List UInt8} {wa wb wc wd:UInt64} (h:numE b=0) (hv:v64 [wa,wb,wc,wd]=be b):NumP b (.tuple #[.agg #[.int .u64 (wa.toNat:Int),.int .u64 (wb.toNat:Int),.int .u64 (wc.toNat:Int),.int .u64 (wd.toNat:Int)],.int .i64 0]) []:=
 ⟨wa,wb,wc,wd,by rw [h];rfl,rfl,by rw [numV,if_pos h,hv]⟩
def OfP (a b c d:UInt64) (v:Value) (L:List Heaplet):Prop:=
 ∃M p k,v=.agg #[.bool false,.slice p (bytesOf (v64 [a,b,c,d])).length k,.slice none 0 0]∧L= [M]∧Row M 5 1 p (bytesOf (v64 [a,b,c,d])).length k (u8s (bytesOf (v64 [a,b,c,d])))
theorem Of_f (a b c d:UInt64):Fn Tryz.prog 83 #[.agg #[.int .u64 (a.toNat:Int),.int .u64 (b.toNat:Int),.int .u64 (c.toNat:Int),.int .u64 (d.toNat:Int)]] [] [] (OfP a b c d):=by
 refine Fn.enter (vs:= [.agg #[.int .u64 (a.toNat:Int),.int .u64 (b.toNat:Int),.int .u64 (c.toNat:Int),.int .u64 (d.toNat:Int)]]) Tryz.func83 U U U ?_
 intro E R hR
 change At _ _ E [R] _
 refine aH fun _ s_1=>aB (cU bT U U U (fun N1 b1 B1=>bZ bT ze137 U (fun N2 b2 B2=>?_)))
 change Blk N2 b2 _ [.bool false,.slice none 0 0,.slice none 0 0]at B2
 refine aI (s_1 (aH fun _ s_2=>aB (aK (ds:= [_,_,_,_]) aN ag36 U B1 U U dG U (bG bT (.cons U .nil) (WShort_f a b c d) Tryz.func107 U U (by simp) U ?_))))
 rintro _ _ ⟨M4,p,k,rfl,rfl,r4⟩
 show At _ _ _ [M4,N2,N1,R] _
 refine op_build (out:= [.bool false,_,.slice none 0 0]) aN ze137 pl137 (.cons U .nil) U U (bP nxQ sz137 U U U U U B2 (by simp) sel1 (fun N2 B2=>?_))
 simp only [setL,List.set]at B2
 refine aI (s_2 (cK ((dropAt2 (cF (L1:= [M4]) U (.cell U (res_agg (ds:= [_,_,_]) ag137 B2 U U cO) .nil) (.cons _ (.refl _)) aZ ?_)))))
 exact⟨M4,p,k,rfl,rfl,r4⟩
open Go Go.RowKit
set_option maxRecDepth 100000
section
variable {bt be : Nat} {Nt Ne : Heaplet} {cs : List Value} {x : Value} {e : Int}
end
open Go Go.RowKit
def rolN (v:UInt64) (n:Nat):UInt64:=if n=0 then v else shl64 v n |||shr64 v (64- n)
theorem rol_go {v:UInt64} {n:Nat} (h:n<64):shl64 v n |||shr64 v (64- n)=rolN v n:=by
 unfold rolN
 split
 ·rename_i h0
  subst h0
  apply UInt64.toNat_inj.1
  rw [UInt64.toNat_or,shl64_nat,shr64_nat,Nat.pow_zero,Nat.mul_one,Nat.mod_eq_of_lt v.toNat_lt,Nat.div_eq_of_lt v.toNat_lt,Nat.or_zero]
 ·rfl
def rI:Nat→Int
 |0=>1
 |n+1=>bits .xor .u8 (IntKind.u8.wrap (rI n*2^(min (1:Int).toNat IntKind.u8.bits))) (IntKind.u8.wrap (rI n/2^(min (7:Int).toNat IntKind.u8.bits)*113))
def cStep (l:List UInt64) (n:Nat):List UInt64:=l.set (n/7) (l.getD (n/7) 0 |||shl64 (UInt64.ofNat (bits .and .u8 (rI n) 1).toNat) (shl64 1 (n % 7)- 1).toNat)
def cN:Nat→List UInt64
 |0=>List.replicate 24 0
 |n+1=>cStep (cN n) n
theorem cN_len: ∀n,(cN n).length=24
 |0=>rfl
 |n+1=>by rw [cN,cStep,List.length_set,cN_len n]
def rcL:List UInt64:=cN 168
def rJ:Nat→Int
 |0=>1
 |n+1=>if rJ n*2≥256 then bits .xor .i64 (rJ n*2- 256) 113 else rJ n*2
def wJ (r:Nat):Nat→UInt64
 |0=>0
 |n+1=>if 7*r≤n∧bits .and .i64 (rJ n) 1=1 then wJ r n |||shl64 1 (shl64 1 (n- 7*r)- 1).toNat else wJ r n
set_option maxRecDepth 100000 in
theorem rI_ok: ∀n:Fin 169,0≤rI n.1∧rI n.1≤255∧0≤bits .and .u8 (rI n.1) 1:=by decide+kernel
def thC (a:List UInt64):Nat→List UInt64
 |0=> [0,0,0,0,0]
 |i+1=>(thC a i).set (i % 5) ((thC a i).getD (i % 5) 0^^^a.getD i 0)
theorem thC_len (a:List UInt64): ∀i,(thC a i).length=5
 |0=>rfl
 |i+1=>by rw [thC,List.length_set,thC_len a i]
def thA (c a:List UInt64):Nat→List UInt64
 |0=>a
 |i+1=>(thA c a i).set i ((thA c a i).getD i 0^^^(c.getD ((i % 5+4) % 5) 0^^^rolN (c.getD ((i % 5+1) % 5) 0) 1))
theorem thA_len (c a:List UInt64): ∀i,(thA c a i).length=a.length
 |0=>rfl
 |i+1=>by rw [thA,List.length_set,thA_len c a i]
def theta (a:List UInt64):List UInt64:=thA (thC a 25) a 25
theorem theta_len (a:List UInt64):(theta a).length=a.length:=thA_len ..
def pX:Nat→Nat×Nat
 |0=>(1,0)
 |t+1=>((pX t).2,(2*(pX t).1+3*(pX t).2) % 5)
theorem pX_lt: ∀t,(pX t).1<5∧(pX t).2<5
 |0=>⟨by decide,by decide⟩
 |t+1=>⟨(pX_lt t).2,Nat.mod_lt _ (by decide)⟩
def pos (t:Nat):Nat:=(pX t).1+5*(pX t).2
theorem pos_lt (t:Nat):pos t<25:=by
 have:=pX_lt t
 unfold pos;omega
def rot (t:Nat):Nat:=(t+1)*(t+2)/2 % 64
def tuP (a:List UInt64):Nat→List UInt64×UInt64
 |0=>(a,a.getD 1 0)
 |t+1=>((tuP a t).1.set (pos (t+1)) (rolN (tuP a t).2 (rot t)),(tuP a t).1.getD (pos (t+1)) 0)
theorem tuP_len (a:List UInt64): ∀t,(tuP a t).1.length=a.length
 |0=>rfl
 |t+1=>by rw [tuP];simp only [List.length_set];exact tuP_len a t
def tuR (a:List UInt64):Nat→List UInt64
 |0=>(List.replicate 25 0).set 0 (a.getD 0 0)
 |t+1=>(tuR a t).set (pos (t+1)) (rolN (a.getD (pos t) 0) (rot t))
def chL (b:List UInt64) (y x:Nat):UInt64:=b.getD (y+x) 0^^^(~~~(b.getD (y+(x+1) % 5) 0)&&&b.getD (y+(x+2) % 5) 0)
def chI (row p:List UInt64) (y:Nat):Nat→List UInt64
 |0=>p
 |x+1=>(chI row p y x).set (y+x) (row.getD x 0^^^(~~~(row.getD ((x+1) % 5) 0)&&&row.getD ((x+2) % 5) 0))
theorem chI_len (row p:List UInt64) (y:Nat): ∀x,(chI row p y x).length=p.length
 |0=>rfl
 |x+1=>by rw [chI,List.length_set,chI_len row p y x]
def chP (a:List UInt64):Nat→List UInt64
 |0=>a
 |k+1=>chI (((chP a k).drop (5*k)).take 5) (chP a k) (5*k) 5
theorem chP_len (a:List UInt64): ∀k,(chP a k).length=a.length
 |0=>rfl
 |k+1=>by rw [chP,chI_len,chP_len a k]
def chR (b a:List UInt64):Nat→List UInt64
 |0=>a
 |i+1=>(chR b a i).set i (b.getD i 0^^^(~~~(b.getD (i- i % 5+(i+1) % 5) 0)&&&b.getD (i- i % 5+(i+2) % 5) 0))
def kRound (a:List UInt64) (k:Nat):List UInt64:=(chP (tuP (theta a) 24).1 5).set 0 ((chP (tuP (theta a) 24).1 5).getD 0 0^^^rcL.getD k 0)
theorem kRound_len (a:List UInt64) (k:Nat):(kRound a k).length=a.length:=by rw [kRound,List.length_set,chP_len,tuP_len,theta_len]
def prm (a:List UInt64):Nat→List UInt64
 |0=>a
 |k+1=>kRound (prm a k) k
theorem prm_len (a:List UInt64): ∀k,(prm a k).length=a.length
 |0=>rfl
 |k+1=>by rw [prm,kRound_len,prm_len a k]
def abI (a:List UInt64) (l:List UInt8):Nat→List UInt64
 |0=>a
 |i+1=>(abI a l i).set (i/8) ((abI a l i).getD (i/8) 0^^^shl64 (UInt64.ofNat (l.getD i 0).toNat) (i % 8*8))
theorem abI_len (a:List UInt64) (l:List UInt8): ∀i,(abI a l i).length=a.length
 |0=>rfl
 |i+1=>by rw [abI,List.length_set,abI_len a l i]
def absorb (a:List UInt64) (l:List UInt8):List UInt64:=prm (abI a l 136) 24
theorem absorb_len (a:List UInt64) (l:List UInt8):(absorb a l).length=a.length:=by rw [absorb,prm_len,abI_len]
def absN (l:List UInt8):Nat→List UInt64
 |0=>List.replicate 25 0
 |k+1=>absorb (absN l k) ((l.drop (136*k)).take 136)
theorem absN_len (l:List UInt8): ∀k,(absN l k).length=25
 |0=>List.length_replicate
 |k+1=>by rw [absN,absorb_len,absN_len l k]
def padL (r:List UInt8):List UInt8:=
 let z:=(r++List.replicate (136- r.length) 0).set r.length 1
 z.set 135 (z.getD 135 0 |||128)
def ouI (a:List UInt64):Nat→List UInt8
 |0=>List.replicate 32 0
 |i+1=>(ouI a i).set i (UInt8.ofNat (shr64 (a.getD (i/8) 0) (i % 8*8)).toNat)
theorem ouI_len (a:List UInt64): ∀i,(ouI a i).length=32
 |0=>List.length_replicate
 |i+1=>by rw [ouI,List.length_set,ouI_len a i]
def kec (l:List UInt8):List UInt8:=ouI (absorb (absN l (l.length/136)) (padL (l.drop (136*(l.length/136))))) 32
theorem kec_len (l:List UInt8):(kec l).length=32:=ouI_len ..
end Go.Proofs.YtalmjkcapecpiaaGreat
