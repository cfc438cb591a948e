/- Several texts in one: see the remarks ahead of each part. No condition but those told there. -/
import Derived.Test.YtdpjbefeabokgaaGreatUYm
import Derived.Test.YtdpjbefeabokgaaGreatUKE8
import Derived.Test.YtdpjbefeabokgaaGreatU7
import Derived.Test.YtdpjbefeabokgaaGreatU9
import Derived.Stop.BytesEq
import Derived.Test.YtdpjbefeabokgaaGreatU10
import Derived.Test.YtdpjbefeabokgaaGreatU4
import Derived.WalkKit
import Derived.ProofKit
import Derived.OpenShut
import Derived.Below
import Derived.ChangeSame
import Derived.WideKeyArgs
import Derived.Deep.Slices
import Derived.Test.YtdpjbefeabokgaaGreatU5
set_option linter.unusedSimpArgs false
set_option linter.unusedVariables false
/- Layer 12, the statements' helps: keys and values cut, two tries that play one call. No condition but bounds. -/
namespace Go.Proofs.YtdpjbefeabokgaaGreat
open Go Go.RowKit
set_option maxRecDepth 100000
def RefN (N:Heaplet) (bt:Nat) (R0:List PR):Prop:= ∃Nt Nk Nv Ne,[Nt,Nk,Nv,Ne].Pairwise Apart∧N=joinL [Nt,Nk,Nv,Ne]∧RefO bt Nt Nk Nv Ne R0
theorem RefN.s {bt:Nat} {N J:Heaplet} {R0:List PR} (h:RefN N bt R0) (hl:N.le J):RefS J bt R0:=by
 obtain⟨Nt,Nk,Nv,Ne,h1,rfl,h3⟩:=h
 exact h3.s (Heaplet.le_trans (le_joinL h1 (by simp)) hl) (Heaplet.le_trans (le_joinL h1 (by simp)) hl) (Heaplet.le_trans (le_joinL h1 (by simp)) hl) (Heaplet.le_trans (le_joinL h1 (by simp)) hl)
theorem alone4 (N:Heaplet): [N,nilH,nilH,nilH].Pairwise Apart∧N=joinL [N,nilH,nilH,nilH]:=by
 refine⟨?_,?_⟩
 ·simp only [List.pairwise_cons,List.mem_cons,List.not_mem_nil,or_false]
  refine⟨fun M hM k=>?_,fun M hM k=>.inl rfl,fun M hM k=>.inl rfl,?_⟩
  ·rcases hM with rfl|rfl|rfl<;>exact .inr rfl
  ·exact⟨fun M hM=>hM.elim,.nil⟩
 ·funext k
  simp only [joinL,join2]
  cases N k<;>rfl
theorem RefN.start {b:Nat} {N:Heaplet} (h:Blk N b 52 [.slice none 0 0,.slice none 0 0]):RefN N b []:=by
 obtain⟨h1,h2⟩:=alone4 N
 exact⟨N,nilH,nilH,nilH,h1,h2,none,0,none,0,[],[],h,Row.nil _ _ _,Row.nil _ _ _,Bags.nil _,Bags.nil _,Good.nil⟩
section
variable {N K V : Heaplet} {bt : Nat} {R0 : List PR} {ka va : Option Addr} {kn kc vn vc : Nat} {k v : List UInt8}
theorem rPut (h:RefN N bt R0) (hk:RSl K 1 ka kn kc (u8s k)) (hv:RSl V 1 va vn vc (u8s v)) (hkn:kn≤40) (hvn:vn≤1000000) (hc:R0.length≤1000000):Fn Tryz.prog 27 #[.pointer (some ⟨bt,0,none⟩),.slice ka kn kc,.slice va vn vc] [N] [K,V] (fun x L=> ∃N',x=.tuple #[]∧L= [N']∧RefN N' bt (putM k v R0)):=by
 obtain⟨Nt,Nk,Nv,Ne,h1,rfl,h3⟩:=h
 refine Fn.pack (As:= [Nt,Nk,Nv,Ne]) (L0:= []) h1 (rPut_o h3 hk hv hkn hvn hc) ?_
 rintro x L ⟨Nt',Nk',Nv',Ne',rfl,rfl,hO⟩
 exact⟨[Nt',Nk',Nv',Ne'],[],rfl,fun hp=>⟨_,rfl,rfl,Nt',Nk',Nv',Ne',hp,rfl,hO⟩⟩
def CutP (m:Nat) (l:List UInt8) (x:Value) (L:List Heaplet):Prop:= ∃M a c,x=.slice a (l.take m).length c∧L= [M]∧Row M 5 1 a (l.take m).length c (u8s (l.take m))
theorem FValue (h:RSl K 1 ka kn kc (u8s k)):Fn Tryz.prog 7 #[.slice ka kn kc] [] [K] (CutP 120 k):=by
 refine Fn.enter (vs:= [.slice ka kn kc]) Tryz.func7 rfl rfl rfl ?_
 intro E R hR
 have h:=h.le (hR K (by simp))
 change At _ _ E [R] _
 refine At.seq fun _ s_1=>At.region (aE (aD rfl) rfl rfl (aA (aB (s_1 (At.seq fun _ s_2=>At.region (aC (aD rfl) rfl rfl (aG (aS rfl) (.cons rfl (.cons rfl .nil)) (KTwin_f h 120 120 rfl (by decide)) Tryz.func20 rfl rfl (by simp) rfl ?_)))))))
 rintro v4 L4 ⟨M4,a4,c4,rfl,rfl,r4⟩
 change At _ _ _ [M4,R] _
 refine aE (aD rfl) rfl rfl (aA (aB (s_2 (At.ret ((aO (L1:= [M4]) rfl (.tmp rfl .nil) (.refl _) (.refl _) ?_))))))
 exact⟨M4,a4,c4,rfl,rfl,r4⟩
end
theorem root_nil:rootM []=kec [128]:=by
 have e:(nodeF 81 (prs [])).form= [128]:=by
  show(itS []).form= [128]
  decide+kernel
 rw [rootM,e]
set_option maxHeartbeats 2000000 in
theorem TWakes:Fn Tryz.prog 11 #[] [] [] (fun v L=>v=.bool true∧L= []):=by
 obtain⟨z,hz⟩: ∃z,rootM []=z:=⟨_,rfl⟩
 have hzk:z=kec [128]:=by rw [←hz,root_nil]
 rw [k80]at hzk
 have hlz:(u8s z).length=32:=by rw [hzk];rfl
 have h0:(u8s z)[0]? =some (.int .u8 86):=by rw [hzk];rfl
 have h31:(u8s z)[31]? =some (.int .u8 33):=by rw [hzk];rfl
 have e1:(getR (putM [100,111] [118,101,114,98] []) [100,111]).getD []= [118,101,114,98]:=by decide
 have e2:hasM [100,111] (putM [100,111] [118,101,114,98] [])=true:=by decide
 have e3:(putM [100,111] [118,101,114,98] []).length=1:=by decide
 clear hzk
 refine Fn.enter (vs:= []) Tryz.func11 rfl rfl rfl ?_
 intro E R hR
 change At _ _ E [R] _
 refine At.seq fun _ s_1=>At.region (aE (aD rfl) rfl rfl (aA (aB (s_1 (At.seq fun _ s_2=>At.region (aG (aS rfl) .nil (FNew) Tryz.func22 rfl rfl (by simp) rfl ?_))))))
 rintro v5 L5 ⟨Nt,bt,rfl,rfl,hT⟩
 change At _ _ _ [Nt,R] _
 refine aE (aD rfl) rfl rfl (aA (aB (s_2 (At.seq fun _ s_3=>At.seq fun _ s_4=>At.region (aC (aD rfl) rfl rfl (op_eqPt (aD rfl) Tryz.underlying32 rfl rfl (aA (aB (s_4 (At.condF rfl (At.skip (aB (s_3 (At.seq fun _ s_5=>At.region (aC (aD rfl) rfl rfl (aG (aS rfl) (.cons rfl .nil) (FRoot hT (by simp)) Tryz.func17 rfl rfl (by simp) rfl ?_))))))))))))))))
 rintro v9 L9 ⟨rfl,rfl⟩
 change At _ _ _ [Nt,R] _
 rw [hz]
 refine op_alloc (aS rfl) ze26 rfl (fun N2 b2 B2=>?_)
 change Blk N2 b2 _ [.int .u8 0,.int .u8 0,.int .u8 0,.int .u8 0,.int .u8 0,.int .u8 0,.int .u8 0,.int .u8 0,.int .u8 0,.int .u8 0,.int .u8 0,.int .u8 0,.int .u8 0,.int .u8 0,.int .u8 0,.int .u8 0,.int .u8 0,.int .u8 0,.int .u8 0,.int .u8 0,.int .u8 0,.int .u8 0,.int .u8 0,.int .u8 0,.int .u8 0,.int .u8 0,.int .u8 0,.int .u8 0,.int .u8 0,.int .u8 0,.int .u8 0,.int .u8 0]at B2
 refine aR (nxl rfl) sz26 rfl rfl (vs:=u8s z) rfl hlz (all8x2 z) B2 (by rw [hlz];exact Nat.le_refl _) sel0 (fun N2 B2=>?_)
 rw [setL_whole (by exact hlz.symm)]at B2
 refine aA (aB (s_5 (At.seq fun _ s_6=>At.region (aC (aD rfl) rfl rfl (op_lit (aS rfl) Tryz.underlying23 ze5 sz5 (.cons rfl (.cons rfl .nil)) rfl rfl (by simp [Value.cells]) rfl rfl rfl (fun N11 a11 r11=>?_))))))
 simp only [flatV,List.flatMap_cons,List.flatMap_nil,Value.cells,List.append_nil,List.cons_append,List.nil_append]at r11
 have s11:=r11.rsl
 refine op_convB (nxl rfl) Tryz.underlying23 Tryz.underlying5 rfl r11 (by omega) sel0 rfl (fun N11 s11=>op_lit (aS rfl) Tryz.underlying23 ze5 sz5 (.cons rfl (.cons rfl (.cons rfl (.cons rfl .nil)))) rfl rfl (by simp [Value.cells]) rfl rfl rfl (fun N13 a13 r13=>?_))
 simp only [flatV,List.flatMap_cons,List.flatMap_nil,Value.cells,List.append_nil,List.cons_append,List.nil_append]at r13
 have s13:=r13.rsl
 refine op_convB (nxl rfl) Tryz.underlying23 Tryz.underlying5 rfl r13 (by omega) sel0 rfl (fun N13 s13=>At.perm sel4 (At.perm sel3 (At.perm sel3 (At.perm sel3 (At.perm sel4 (op_call (nxl rfl) (.cons rfl (.cons rfl (.cons rfl .nil))) (FPut hT (k:= [100,111]) (v:= [118,101,114,98]) s11 s13 (by decide) (by decide) (by decide)) (F:= [N13,N11,N2,R]) Tryz.func26 rfl rfl (.refl _) (by simp) rfl ?_))))))
 rintro v15 L15 ⟨N',rfl,rfl,hT'⟩
 change At _ _ _ [N',N13,N11,N2,R] _
 refine aA (aB (s_6 (At.seq fun _ s_7=>At.region (aC (aD rfl) rfl rfl (op_lit (aS rfl) Tryz.underlying23 ze5 sz5 (.cons rfl (.cons rfl .nil)) rfl rfl (by simp [Value.cells]) rfl rfl rfl (fun N18 a18 r18=>?_))))))
 simp only [flatV,List.flatMap_cons,List.flatMap_nil,Value.cells,List.append_nil,List.cons_append,List.nil_append]at r18
 have s18:=r18.rsl
 refine op_convB (nxl rfl) Tryz.underlying23 Tryz.underlying5 rfl r18 (by omega) sel0 rfl (fun N18 s18=>aG (aS rfl) (.cons rfl (.cons rfl .nil)) (FGet hT' (k:= [100,111]) s18 (by decide)) Tryz.func18 rfl rfl (by simp) rfl ?_)
 rintro v20 L20 ⟨M20,a20,c20,rfl,rfl,r20⟩
 change At _ _ _ [M20,N18,N',N13,N11,N2,R] _
 rw [e1]at r20;rw [e1,e2];have s20:=r20.rsl
 refine aC (aD rfl) rfl rfl (op_extract (aD rfl) rfl rfl rfl (op_extract (aD rfl) rfl rfl rfl (aE (aD rfl) rfl rfl (aE (aD rfl) rfl rfl (aA (aB (s_7 (At.seq fun _ s_8=>At.region (op_idxA (aD rfl) ae26 rfl rfl (show _=((0:Nat):Int)from rfl) (by omega) rfl (aL (aD rfl) sc5 rfl B2 (h0) mem5 rfl (op_eql (aD rfl) rfl rfl rfl (aC (aD rfl) rfl rfl (At.partP (d:=26) rfl (fun g26=>?_) (fun g26=>?_))))))))))))))
 rotate_left
 ·exact absurd rfl g26
 refine op_idxA (nxgf rfl rfl rfl rfl) ae26 rfl rfl (show _=((31:Nat):Int)from rfl) (by omega) rfl (aL (nxgf rfl rfl rfl rfl) sc5 rfl B2 (h31) mem5 rfl (op_eql (nxgf rfl rfl rfl rfl) rfl rfl rfl (op_pickT (aD rfl) rfl rfl rfl (aC (aD rfl) rfl rfl (At.partP (d:=31) rfl (fun g31=>?_) (fun g31=>?_))))))
 rotate_left
 ·exact absurd rfl g31
 refine aC (nxgf rfl rfl rfl rfl) rfl rfl (op_pickT (aD rfl) rfl rfl rfl (aC (aD rfl) rfl rfl (At.part (d:=34) rfl (fun g34=>?_) (fun g34=>?_))))
 rotate_left
 ·cases g34
 refine aC (nxgf rfl rfl rfl rfl) rfl rfl (op_str (nxgf rfl rfl rfl rfl) Tryz.underlying23 Tryz.underlying5 Tryz.underlying9 rfl (by assumption) (by first|exact aP|exact aY|exact bA|exact mem3|exact mem4|exact mem5|exact mem6|exact mem7|exact mem8|exact mem9) rfl ?_)
 refine op_eqS (b:= [118,101,114,98]) (nxgf rfl rfl rfl rfl) rfl rfl rfl (op_pickT (aD rfl) rfl rfl rfl (aC (aD rfl) rfl rfl (At.partP (d:=39) rfl (fun g39=>?_) (fun g39=>?_))))
 rotate_left
 ·exact absurd rfl g39
 refine aC (nxgf rfl rfl rfl rfl) rfl rfl (aG (nxga rfl rfl rfl rfl) (.cons rfl .nil) (FLen hT') Tryz.func38 rfl rfl (by simp) rfl ?_)
 rintro v41 L41 ⟨rfl,rfl⟩
 change At _ _ _ [M20,N18,N',N13,N11,N2,R] _
 rw [e3]
 refine op_eql (nxgf rfl rfl rfl rfl) rfl rfl rfl (op_pickT (aD rfl) rfl rfl rfl (aE (aD rfl) rfl rfl (aA (aB (s_8 (At.ret ((At.sub (L':= [R]) (.cons _ (.cons _ (.cons _ (.cons _ (.cons _ (.cons _ (.cons_cons _ (.slnil)))))))) (aO (L1:= []) rfl (.tmp rfl .nil) (.refl _) (.refl _) ?_)))))))))
 exact⟨rfl,rfl⟩
end Go.Proofs.YtdpjbefeabokgaaGreat
/- The engine, arrays of bytes compared. For whatever program. No condition. -/
namespace Go.Proofs.YtdpjbefeabokgaaGreat
open Go Go.RowKit
theorem all_range8: ∀(xs ys:List UInt8),xs.length=ys.length→((List.range xs.length).all fun i=>xs.getD i 0==ys.getD i 0)=(xs==ys)
 | [],[],_=>rfl
 |x::xs,y::ys,h=>by
  have ih:=all_range8 xs ys (by simpa using h)
  rw [List.length_cons,List.range_succ_eq_map,List.all_cons,List.all_map]
  simp only [List.getD_cons_zero,Function.comp_def,List.getD_cons_succ,ih]
  simp [List.cons_beq_cons]
 | [],_::_,h=>by simp at h
 |_::_,[],h=>by simp at h
section
variable {P : Program}
theorem run_equalIn_bytes8 (w:World) (d:Nat) (t e:TypeId) (n:Nat) (ht:P.underlying t=some (.array n e)) (he:P.underlying e=some (.int .u8)) (hsz: ∀w,(sizeOf e).run P w=.ok 1 w)
 (xs ys:List UInt8) (hx:xs.length=n) (hy:ys.length=n):
 (Op.equalIn (d+2) t (.agg (u8s xs).toArray) (.agg (u8s ys).toArray)).run P w=.ok (xs==ys) w:=by
 rw [←all_range8 xs ys (hx.trans hy.symm),hx,List.range_eq_range',Op.equalIn]
 simp only [Sem.run_bind,Go.run_underlying ht,Result.andThen_ok,hsz,Std.Legacy.Range.forIn_eq_forIn_range',Std.Legacy.Range.size,Nat.sub_zero,Nat.add_sub_cancel,Nat.div_one]
 have hl: ∀i∈List.range' 0 n 1,i<n:=fun i hi=>by simpa using (List.mem_range'_1.1 hi).2
 generalize List.range' 0 n 1=l at hl⊢
 induction l with
 |nil=>simp
 |cons i l ih=>
  have hi:i<n:=hl i (by simp)
  have px:(part e (u8s xs).toArray (i*1)).run P w=.ok (.int .u8 ((xs.getD i 0).toNat:Int)) w:=by
   simp [part,isAgg,Go.run_underlying he,u8s,vb,List.getD,List.getElem?_eq_getElem (show i<xs.length by omega)]
  have py:(part e (u8s ys).toArray (i*1)).run P w=.ok (.int .u8 ((ys.getD i 0).toNat:Int)) w:=by
   simp [part,isAgg,Go.run_underlying he,u8s,vb,List.getD,List.getElem?_eq_getElem (show i<ys.length by omega)]
  have pe:(Op.equalIn (d+1) e (.int .u8 ((xs.getD i 0).toNat:Int)) (.int .u8 ((ys.getD i 0).toNat:Int))).run P w=.ok (xs.getD i 0==ys.getD i 0) w:=by
   rw [run_equalIn_int w d e .u8 .u8 _ _ he]
   congr 1
   rw [Bool.eq_iff_iff]
   simp [←UInt8.toNat_inj]
   omega
  simp only [List.forIn_cons,Sem.run_bind,px,py,pe,Result.andThen_ok,List.all_cons]
  cases hb:(xs.getD i 0==ys.getD i 0)
  ·simp
  ·simp only [Bool.not_true,Bool.false_eq_true,if_false,Sem.run_pure,Result.andThen_ok,Bool.true_and]
   exact ih fun j hj=>hl j (by simp [hj])
variable {n : Nat} {l : List (Nat × Value)} {E : World} {L Ls : List Heaplet} {X Y : Act → World → Prop} {d : Nat} {t t' ty e : TypeId} {x y : Operand}
theorem op_eqW8 {a b:List UInt8} {k:Nat} {pos:_} {aft:_} {g:_} (s:NxF P n l E L Ls ⟨some d,.binOp .eql t x y t',ty,pos,aft,g⟩ X Y) (ht:aelt P t=some (k,e,1)) (he:P.underlying e=some (.int .u8)) (hg:P.eqGuardType P.depth t=false) (hx:ev l x=some (.agg (u8s a).toArray)) (hy:ev l y=some (.agg (u8s b).toArray)) (ha:a.length=k) (hb:b.length=k) (hn:Nat.ble (d+1) n=true) (h:At n ((d,.bool (decide (a=b)))::l) E L Y):At n l E L X:=by
 obtain⟨hu,i,hi,hsz⟩:=aelt_spec ht
 exact op_bin s hx hy (fun w=>eqGuard_agg hg w) (fun w=>by
  rw [run_eql_struct,run_equalIn_bytes8 w 9998 t e k hu he (fun w=>by rw [run_sizeOf hi,hsz]) a b ha hb]
  simp only [Result.andThen_ok,show(a==b)=decide (a=b)from by rw [Bool.eq_iff_iff];simp]) hn h
end
end Go.Proofs.YtdpjbefeabokgaaGreat
/- Layer 12: the root of a list, program and reference. Conditions: up to 300 values. -/
namespace Go.Proofs.YtdpjbefeabokgaaGreat
open Go Go.RowKit
set_option maxRecDepth 100000
def idxK (i:Nat):List UInt8:=(itS (bytesOf i)).form
def listM (vs:List (List UInt8)):Nat→List PR
 |0=> []
 |i+1=>putM (idxK i) (vs.getD i []) (listM vs i)
theorem idx_len {i:Nat} (h:i<300):(bytesOf i).length≤2:=bytesOf_le (Nat.lt_trans h (by decide))
theorem idxK_len {i:Nat} (h:i<300):(idxK i).length≤11:=by
 have h1:=idx_len h
 have h2:=formS_le (b:=bytesOf i) (by omega)
 unfold idxK
 omega
theorem listM_len (vs:List (List UInt8)): ∀i,(listM vs i).length≤i
 |0=>Nat.le_refl _
 |i+1=>by
  have ih:=listM_len vs i
  have hd:(delM (idxK i) (listM vs i)).length≤(listM vs i).length:=List.length_filter_le _ _
  show(putM _ _ _).length≤_
  unfold putM
  split
  ·omega
  ·rw [List.length_append];simp only [List.length_cons,List.length_nil];omega
theorem depthS (b:List UInt8):(itS b).depth≤1024:=by simp [itS,It.depth,It.depths]
theorem u64_300 {i:Nat} (h:i<300):(UInt64.ofNat i).toNat=i:=by rw [UInt64.toNat_ofNat'];exact Nat.mod_eq_of_lt (by omega)
theorem takeL_len {vs:List (List UInt8)} {i:Nat} (h:i≤vs.length):((vs.take i).map fun o=>o.take 120).length=i:=by rw [List.length_map,List.length_take];omega
theorem takeL_sml {vs:List (List UInt8)} (i:Nat): ∀v∈(vs.take i).map fun o=>o.take 120,v.length≤1000:=fun v hv=>by
 obtain⟨o,_,rfl⟩:=List.mem_map.1 hv
 have:=List.length_take_le 120 o
 omega
section
variable {N : Heaplet} {ao : Option Addr} {n cap : Nat} {us : List Value} {vs : List (List UInt8)}
theorem FListT (h:RSl N 1 ao n cap us) (hb:Bags N us vs) (hn:vs.length≤300) (hv: ∀v∈vs,v.length≤1000):Fn Tryz.prog 8 #[.slice ao n cap] [] [N] (fun v L=>v=.agg (u8s (rootM (listM vs vs.length))).toArray∧L= []):=by
 have hlen:n=vs.length:=by rw [←hb.len];have:=h.1;omega
 have hll:=listM_len vs vs.length
 obtain⟨z,hz⟩: ∃z,rootM (listM vs vs.length)=z:=⟨_,rfl⟩
 have lz:z.length=32:=by rw [←hz,rootM,kec_len]
 have lz8:(u8s z).length=32:=by simp [u8s,lz]
 rw [hz]
 refine Fn.enter (vs:= [.slice ao n cap]) Tryz.func8 rfl rfl rfl ?_
 intro E R hR
 have h:=h.le (hR N (by simp))
 have hb:=hb.le (hR N (by simp))
 change At _ _ E [R] _
 refine At.seq fun _ s_1=>At.region (op_alloc (aS rfl) ze26 rfl (fun N2 b2 B2=>?_))
 change Blk N2 b2 _ [.int .u8 0,.int .u8 0,.int .u8 0,.int .u8 0,.int .u8 0,.int .u8 0,.int .u8 0,.int .u8 0,.int .u8 0,.int .u8 0,.int .u8 0,.int .u8 0,.int .u8 0,.int .u8 0,.int .u8 0,.int .u8 0,.int .u8 0,.int .u8 0,.int .u8 0,.int .u8 0,.int .u8 0,.int .u8 0,.int .u8 0,.int .u8 0,.int .u8 0,.int .u8 0,.int .u8 0,.int .u8 0,.int .u8 0,.int .u8 0,.int .u8 0,.int .u8 0]at B2
 refine aA (aB (s_1 (At.seq fun _ s_2=>At.region (aG (aS rfl) .nil (FNew) Tryz.func22 rfl rfl (by simp) rfl ?_))))
 rintro v8 L8 ⟨NT,b8,rfl,rfl,hT⟩
 change At _ _ _ [NT,N2,R] _
 refine aE (aD rfl) rfl rfl (aA (aB (s_2 (At.seq fun _ s_3=>At.seq fun _ s_4=>At.region (aC (aD rfl) rfl rfl (aQ (aD rfl) se22 rfl rfl (aC (aD rfl) rfl rfl (aA (aB (s_4 (At.block (At.loop (fun fr_ hp_ ms_=> ∃(i:Nat) (NT:Heaplet),fr_= [(2,.pointer (some ⟨b2,0,none⟩)),(3,.pointer (some ⟨b8,0,none⟩)),(9,.slice ao n cap),(10,.int .i64 (n:Int)),(11,.int .i64 (i:Int))]∧hp_= [NT,N2,R]∧n- i=ms_∧(i≤n)∧(TrieN NT b8 i (listM vs i))) ?_ (.refl _) ⟨0,NT,rfl,rfl,rfl,Nat.zero_le _,hT⟩ ?_))))))))))))
 ·exact .cons (by first|exact aK rfl (by omega)|rfl) (.cons (by first|exact aK rfl (by omega)|rfl) (.cons (by first|exact aK rfl (by omega)|rfl) (.cons (by first|exact aK rfl (by omega)|rfl) (.cons (by first|exact aK rfl (by omega)|rfl) .nil))))
 rintro _ _ _ ⟨i,NT,rfl,rfl,rfl,hi,hT⟩
 refine At.seq fun _ s_5=>At.region (op_lss (aD rfl) rfl rfl rfl (aA (aB (s_5 (At.seq fun _ s_6=>aI rfl (fun c12=>?_) (fun c12=>?_))))))
 ·have hi3:i<300:=by omega
  have hil:=idx_len hi3
  have hik:=idxK_len hi3
  obtain⟨bi,hbi⟩: ∃z,bytesOf i=z:=⟨_,rfl⟩
  have hdp:=depthS bi
  obtain⟨kx,hkx⟩: ∃z,(itS bi).form=z:=⟨_,rfl⟩
  have hls:listM vs (i+1)=putM kx (vs.getD i []) (listM vs i):=by rw [listM,idxK,hbi,hkx]
  rw [idxK,hbi,hkx]at hik
  rw [hbi]at hil
  have hik0:(itS bi).form.length≤1099511627776:=by rw [hkx];omega
  have hof:=u64_300 hi3
  obtain⟨v,hx⟩: ∃y,vs[i]? =some y:=⟨_,List.getElem?_eq_getElem (by omega)⟩
  obtain⟨va,vc,hu1,hvr⟩:=hb.rsl i v hx
  have hvl:=hv v (List.mem_of_getElem? hx)
  have hgd:vs.getD i []=v:=by rw [List.getD_eq_getElem?_getD,hx];rfl
  rw [hgd]at hls
  have hos:=h.isSome (by omega)
  refine At.skip (aB (s_6 (At.seq fun _ s_7=>At.block (At.seq fun _ s_8=>At.region (aC (aD rfl) rfl rfl (op_idx1 (aD rfl) se22 rfl rfl h (show _=(((i:Nat)):Int)from by omega) (by omega) rfl ?_))))))
  refine aV (aD rfl) sc23 rfl h (by first|exact get8 (by omega)|exact get64 (by omega)|exact get32 (by omega)|exact hu1) (by first|exact aP|exact aY|exact bA|exact mem3|exact mem4|exact mem5|exact mem6|exact mem7|exact mem8|exact mem9) rfl ?_
  refine aE (aD rfl) rfl rfl (aE (aD rfl) rfl rfl (aA (aB (s_8 (At.seq fun _ s_9=>At.region (aC (aD rfl) rfl rfl (op_conv64 (aD rfl) (und_some Tryz.underlying3) Tryz.underlying70 rfl (show _=(((i:Nat)):Int)from by omega) rfl ?_)))))))
  refine aG (aS rfl) (.cons rfl .nil) (WOf_f (UInt64.ofNat i)) Tryz.func34 rfl rfl (by simp) rfl ?_
  rintro v19 L19 ⟨rfl,rfl⟩
  change At _ _ _ [NT,N2,R] _
  rw [hof]
  refine aG (aS rfl) (.cons rfl .nil) (FOf_b (x:=i) (hof▸u64_ww (UInt64.ofNat i))) Tryz.func33 rfl rfl (by simp) rfl ?_
  rintro v20 L20 ⟨N20,p20,k20,rfl,rfl,s20⟩
  change At _ _ _ [N20,NT,N2,R] _
  rw [hbi]at s20⊢
  refine aG (aS rfl) (.cons rfl .nil) (Encode_ok (t:=itS bi) (x:=ivS p20 bi.length k20) (ItN_S s20) hik0 hdp) Tryz.func32 rfl rfl (by simp) rfl ?_
  rintro v21 L21 ⟨N21,a21,c21,rfl,rfl,r21⟩
  change At _ _ _ [N21,N20,NT,N2,R] _
  rw [hkx]at r21⊢
  refine aC (aD rfl) rfl rfl (op_extract (aD rfl) rfl rfl rfl (op_extract (aD rfl) rfl rfl rfl (aE (aD rfl) rfl rfl (aE (aD rfl) rfl rfl (aA (aB (s_9 (At.region (aC (aD rfl) rfl rfl (aC (aD rfl) rfl rfl (aC (aD rfl) rfl rfl (At.perm sel4 (At.perm sel4 (At.perm sel3 (At.perm sel3 (At.perm sel4 (op_call (nxl rfl) (.cons rfl (.cons rfl (.cons rfl .nil))) (FPut hT (k:=kx) (v:=v) r21.rsl hvr (by omega) (by omega) (by omega)) (F:= [N21,N20,N2,R]) Tryz.func26 rfl rfl (.refl _) (by simp) rfl ?_)))))))))))))))))
  rintro v27 L27 ⟨NT,rfl,rfl,hT⟩
  change At _ _ _ [NT,N21,N20,N2,R] _
  refine aA (aN (aB (s_7 (At.region (aM (aD rfl) rfl rfl (by omega) (by omega) rfl (aC (aD rfl) rfl rfl (aA (aB (At.sub (L':= [NT,N2,R]) (.cons_cons _ (.cons _ (.cons _ (.cons_cons _ (.cons_cons _ (.slnil)))))) ?_)))))))))
  refine aW ?_ (.refl _) ⟨i+1,NT,rfl,rfl,rfl,by omega,by rw [hls];exact hT⟩ ?_
  ·exact .cons (by first|exact aK rfl (by omega)|rfl) (.cons (by first|exact aK rfl (by omega)|rfl) (.cons (by first|exact aK rfl (by omega)|rfl) (.cons (by first|exact aK rfl (by omega)|rfl) (.cons (by first|exact aK rfl (by omega)|rfl) .nil))))
  ·omega
 have hin:i=vs.length:=by omega
 rw [hin]at hT
 refine At.exit (aF (aF (aU (aB (s_3 (At.seq fun _ s_10=>At.region (aC (aD rfl) rfl rfl (aG (aS rfl) (.cons rfl .nil) (FRoot hT (by omega)) Tryz.func17 rfl rfl (by simp) rfl ?_))))))))
 rintro v30 L30 ⟨rfl,rfl⟩
 change At _ _ _ [NT,N2,R] _
 rw [hz]
 refine aR (nxl rfl) sz26 rfl rfl (vs:=u8s z) rfl lz8 (all8x2 z) B2 (by rw [lz8];exact Nat.le_refl _) sel1 (fun N2 B2=>?_)
 rw [setL_whole (by exact lz8.symm)]at B2
 refine aA (aB (s_10 (At.ret ((At.sub (L':= [N2,R]) (.cons_cons _ (.cons _ (.cons_cons _ (.slnil)))) (aO (L1:= []) rfl (.cell rfl (res_agg (ds:=u8s z) ag26 B2 (tk_all lz8) lz8 aP) .nil) (.cons _ (.refl _)) (.refl _) ?_))))))
 exact⟨rfl,rfl⟩
theorem rListT (h:RSl N 1 ao n cap us) (hb:Bags N us vs) (hn:vs.length≤300) (hv: ∀v∈vs,v.length≤1000):Fn Tryz.prog 10 #[.slice ao n cap] [] [N] (fun v L=>v=.agg (u8s (rootM (listM vs vs.length))).toArray∧L= []):=by
 have hlen:n=vs.length:=by rw [←hb.len];have:=h.1;omega
 have hll:=listM_len vs
 obtain⟨z,hz⟩: ∃z,rootM (listM vs vs.length)=z:=⟨_,rfl⟩
 have lz:z.length=32:=by rw [←hz,rootM,kec_len]
 have lz8:(u8s z).length=32:=by simp [u8s,lz]
 rw [hz]
 refine Fn.enter (vs:= [.slice ao n cap]) Tryz.func10 rfl rfl rfl ?_
 intro E R hR
 have h:=h.le (hR N (by simp))
 have hb:=hb.le (hR N (by simp))
 change At _ _ E [R] _
 refine At.seq fun _ s_1=>At.region (op_alloc (aS rfl) ze26 rfl (fun N2 b2 B2=>?_))
 change Blk N2 b2 _ [.int .u8 0,.int .u8 0,.int .u8 0,.int .u8 0,.int .u8 0,.int .u8 0,.int .u8 0,.int .u8 0,.int .u8 0,.int .u8 0,.int .u8 0,.int .u8 0,.int .u8 0,.int .u8 0,.int .u8 0,.int .u8 0,.int .u8 0,.int .u8 0,.int .u8 0,.int .u8 0,.int .u8 0,.int .u8 0,.int .u8 0,.int .u8 0,.int .u8 0,.int .u8 0,.int .u8 0,.int .u8 0,.int .u8 0,.int .u8 0,.int .u8 0,.int .u8 0]at B2
 refine aA (aB (s_1 (At.seq fun _ s_2=>At.region (op_build (out:= [.slice none 0 0,.slice none 0 0]) (aD rfl) ze52 pl52 .nil rfl rfl (op_box (aS rfl) rfl rfl rfl (fun N6 b6 B6=>aE (aD rfl) rfl rfl (aA (aB (s_2 (At.seq fun _ s_3=>At.seq fun _ s_4=>?_))))))))))
 have hF:=RefN.start B6
 refine At.region (aE (aD rfl) rfl rfl (aA (aB (s_4 (At.block (At.loop (fun fr_ hp_ ms_=> ∃(i:Nat) (NF:Heaplet),fr_= [(0,.slice ao n cap),(2,.pointer (some ⟨b2,0,none⟩)),(3,.pointer (some ⟨b6,0,none⟩)),(4,.int .i64 (i:Int))]∧hp_= [NF,N2,R]∧n- i=ms_∧(i≤n)∧(RefN NF b6 (listM vs i))) ?_ (.refl _) ⟨0,N6,rfl,rfl,rfl,Nat.zero_le _,hF⟩ ?_))))))
 ·exact .cons (by first|exact aK rfl (by omega)|rfl) (.cons (by first|exact aK rfl (by omega)|rfl) (.cons (by first|exact aK rfl (by omega)|rfl) (.cons (by first|exact aK rfl (by omega)|rfl) .nil)))
 rintro _ _ _ ⟨i,NF,rfl,rfl,rfl,hi,hF⟩
 refine At.seq fun _ s_5=>At.seq fun _ s_6=>At.region (aC (aD rfl) rfl rfl (aC (aD rfl) rfl rfl (aQ (aD rfl) se22 rfl rfl (op_lss (aD rfl) rfl rfl rfl (aA (aB (s_6 (aI rfl (fun c10=>?_) (fun c10=>?_)))))))))
 ·have hi3:i<300:=by omega
  have hil:=idx_len hi3
  have hik:=idxK_len hi3
  obtain⟨bi,hbi⟩: ∃z,bytesOf i=z:=⟨_,rfl⟩
  have hdp:=depthS bi
  obtain⟨kx,hkx⟩: ∃z,(itS bi).form=z:=⟨_,rfl⟩
  have hls:listM vs (i+1)=putM kx (vs.getD i []) (listM vs i):=by rw [listM,idxK,hbi,hkx]
  rw [idxK,hbi,hkx]at hik
  rw [hbi]at hil
  have hik0:(itS bi).form.length≤1099511627776:=by rw [hkx];omega
  have hof:=u64_300 hi3
  have hli:=hll i
  obtain⟨v,hx⟩: ∃y,vs[i]? =some y:=⟨_,List.getElem?_eq_getElem (by omega)⟩
  obtain⟨va,vc,hu1,hvr⟩:=hb.rsl i v hx
  have hvl:=hv v (List.mem_of_getElem? hx)
  have hgd:vs.getD i []=v:=by rw [List.getD_eq_getElem?_getD,hx];rfl
  rw [hgd]at hls
  have hos:=h.isSome (by omega)
  refine At.skip (aB (s_5 (At.seq fun _ s_7=>At.block (At.drawnS [N2,R] [10] [0,6,7] [0,1,2,6,7,8,9,3,4,5,10] (by kernel_rfl) (by kernel_rfl) (.cons _ (.refl _)) (aC (nxsf rfl rfl rfl) rfl rfl (aC (nxsf rfl rfl rfl) rfl rfl (op_conv64 (nxsf rfl rfl rfl) (und_some Tryz.underlying3) Tryz.underlying70 rfl (show _=(((i:Nat)):Int)from by omega) rfl ?_)))))))
  refine aC (nxsf rfl rfl rfl) rfl rfl (aC (nxsf rfl rfl rfl) rfl rfl (op_idx1 (nxsf rfl rfl rfl) se22 rfl rfl h (show _=(((i:Nat)):Int)from by omega) (by omega) rfl ?_))
  refine aV (nxsf rfl rfl rfl) sc23 rfl h (by first|exact get8 (by omega)|exact get64 (by omega)|exact get32 (by omega)|exact hu1) (by first|exact aP|exact aY|exact bA|exact mem3|exact mem4|exact mem5|exact mem6|exact mem7|exact mem8|exact mem9) rfl ?_
  refine aG (Nx.agree (nxsm rfl rfl rfl)) (.cons rfl .nil) (rOf_w (UInt64.ofNat i)) Tryz.func37 rfl rfl (by simp) rfl ?_
  rintro v16 L16 ⟨rfl,rfl⟩
  change At _ _ _ [NF,N2,R] _
  rw [hof]
  refine At.moreS (Lst:= [N2,R]) (Lst':= [N2,R]) (.refl _) (.cons _ (.refl _)) (aG (Nx.agree (nxsm rfl rfl rfl)) (.cons rfl .nil) (rOf_b (x:=i) (hof▸u64_ww (UInt64.ofNat i))) Tryz.func36 rfl rfl (by simp) rfl ?_)
  rintro v17 L17 ⟨N17,p17,k17,rfl,rfl,s17⟩
  change At _ _ _ [N17,NF,N2,R] _
  rw [hbi]at s17⊢
  refine At.perm sel3 (At.perm sel3 (At.perm sel2 (At.perm sel3 (At.moreS (Lst:= [N2,R]) (Lst':= [N17,N2,R]) (.cons _ (.refl _)) (.cons _ (.refl _)) (aG (Nx.agree (nxsm rfl rfl rfl)) (.cons rfl .nil) (rForm_b (t:=itS bi) (x:=ivS p17 bi.length k17) (ItN_S s17) hik0) Tryz.func35 rfl rfl (by simp) rfl ?_)))))
  rintro v18 L18 ⟨N18,p18,k18,rfl,rfl,r18⟩
  change At _ _ _ [N18,NF,N17,N2,R] _
  rw [hkx]at r18⊢
  refine At.perm sel4 (At.perm sel4 (At.perm sel4 (At.perm sel3 (At.perm sel4 (At.moreS (Lst:= [N17,N2,R]) (Lst':= [N18,N17,N2,R]) (.cons _ (.refl _)) (.cons _ (.refl _)) (op_call (nxsl rfl rfl rfl rfl) (.cons rfl (.cons rfl (.cons rfl .nil))) (rPut hF (k:=kx) (v:=v) r18.rsl hvr (by omega) (by omega) (by omega)) (F:= [N18,N17,N2,R]) Tryz.func27 rfl rfl (.refl _) (by simp) rfl ?_))))))
  rintro v23 L23 ⟨NF,rfl,rfl,hF⟩
  change At _ _ _ [NF,N18,N17,N2,R] _
  refine At.sNil (aN (aB (s_7 (At.region (aC (aD rfl) rfl rfl (aM (aD rfl) rfl rfl (by omega) (by omega) rfl (aE (aD rfl) rfl rfl (aA (aB (At.sub (L':= [NF,N2,R]) (.cons_cons _ (.cons _ (.cons _ (.cons_cons _ (.cons_cons _ (.slnil)))))) ?_))))))))))
  refine aW ?_ (.refl _) ⟨i+1,NF,rfl,rfl,rfl,by omega,by rw [hls];exact hF⟩ ?_
  ·exact .cons (by first|exact aK rfl (by omega)|rfl) (.cons (by first|exact aK rfl (by omega)|rfl) (.cons (by first|exact aK rfl (by omega)|rfl) (.cons (by first|exact aK rfl (by omega)|rfl) .nil)))
  ·omega
 have hin:i=vs.length:=by omega
 rw [hin]at hF
 have hl0:=hll vs.length
 refine At.exit (aF (aF (aU (aB (s_3 (At.seq fun _ s_8=>At.region (aC (aD rfl) rfl rfl (aG (aS rfl) (.cons rfl .nil) (rRoot (hF.s (Heaplet.le_refl NF)) (by omega)) Tryz.func31 rfl rfl (by simp) rfl ?_))))))))
 rintro v25 L25 ⟨rfl,rfl⟩
 change At _ _ _ [NF,N2,R] _
 rw [hz]
 refine aR (nxl rfl) sz26 rfl rfl (vs:=u8s z) rfl lz8 (all8x2 z) B2 (by rw [lz8];exact Nat.le_refl _) sel1 (fun N2 B2=>?_)
 rw [setL_whole (by exact lz8.symm)]at B2
 refine aA (aB (s_8 (At.ret ((At.sub (L':= [N2,R]) (.cons_cons _ (.cons _ (.cons_cons _ (.slnil)))) (aO (L1:= []) rfl (.cell rfl (res_agg (ds:=u8s z) ag26 B2 (tk_all lz8) lz8 aP) .nil) (.cons _ (.refl _)) (.refl _) ?_))))))
 exact⟨rfl,rfl⟩
theorem take_nextL {α:Type} {l:List α} {i:Nat} {x:α} (h:l[i]? =some x):l.take (i+1)=l.take i++ [x]:=by
 rw [List.take_add_one,h];rfl
theorem FTwins2 (h:RSl N 1 ao n cap us) (hb:Bags N us vs) (hn:n≤1000000) (hv: ∀v∈vs,v.length≤1000):Fn Tryz.prog 9 #[.slice ao n cap] [] [N] (fun v L=> ∃Q a c us',v=.slice a n c∧L= [Q]∧RSl Q 1 a n c us'∧Bags Q us' vs):=by
 have hlen:n=vs.length:=by rw [←hb.len];have:=h.1;omega
 refine Fn.enter (vs:= [.slice ao n cap]) Tryz.func9 rfl rfl rfl ?_
 intro E R hR
 have h:=h.le (hR N (by simp))
 have hb:=hb.le (hR N (by simp))
 change At _ _ E [R] _
 refine At.seq fun _ s_1=>At.region (aE (aD rfl) rfl rfl (aA (aB (s_1 (At.seq fun _ s_2=>At.region (aE (aD rfl) rfl rfl (aA (aB (s_2 (At.seq fun _ s_3=>At.seq fun _ s_4=>At.region (aE (aD rfl) rfl rfl (aA (aB (s_4 (At.block (At.empty (At.empty (At.perm sel2 (At.perm sel1 ?_)))))))))))))))))))
 refine At.perm sel2 (At.loop (fun fr_ hp_ ms_=> ∃(i cq:Nat) (a:Option Addr) (us':List Value) (Na NJ:Heaplet),fr_= [(0,.slice ao n cap),(3,.slice a i cq),(4,.int .i64 (i:Int))]∧hp_= [Na,NJ,R]∧n- i=ms_∧(i≤n)∧(Row Na 23 1 a i cq us')∧(Bags NJ us' (vs.take i))) ?_ (.refl _) ⟨0,0,none,[],nilH,nilH,rfl,rfl,rfl,Nat.zero_le _,Row.nil _ _ _,Bags.nil _⟩ ?_)
 ·exact .cons (by first|exact aK rfl (by omega)|rfl) (.cons (by first|exact aK rfl (by omega)|rfl) (.cons (by first|exact aK rfl (by omega)|rfl) .nil))
 rintro _ _ _ ⟨i,cq,a,us',Na,NJ,rfl,rfl,rfl,hi,ra,hB⟩
 refine At.seq fun _ s_5=>At.seq fun _ s_6=>At.region (aC (aD rfl) rfl rfl (aC (aD rfl) rfl rfl (aQ (aD rfl) se22 rfl rfl (op_lss (aD rfl) rfl rfl rfl (aA (aB (s_6 (aI rfl (fun c8=>?_) (fun c8=>?_)))))))))
 ·obtain⟨v,hx⟩: ∃y,vs[i]? =some y:=⟨_,List.getElem?_eq_getElem (by omega)⟩
  obtain⟨va,vc,hu1,hvr⟩:=hb.rsl i v hx
  have hos:=h.isSome (by omega)
  have hvc:=hvr.cap63
  have hvl:=hv v (List.mem_of_getElem? hx)
  have hbk:=bags_one hB
  refine At.skip (aB (s_5 (At.seq fun _ s_7=>At.block (At.region (aC (aD rfl) rfl rfl (op_lit (aS rfl) Tryz.underlying23 ze5 sz5 .nil rfl rfl (by simp [Value.cells]) rfl rfl rfl (fun N12 a12 r12=>?_)))))))
  simp only [flatV,List.flatMap_cons,List.flatMap_nil,Value.cells,List.append_nil,List.cons_append,List.nil_append]at r12
  have s12:=r12.rsl
  refine aC (aD rfl) rfl rfl (aC (aD rfl) rfl rfl (op_idx1 (aD rfl) se22 rfl rfl h (show _=(((i:Nat)):Int)from by omega) (by omega) rfl ?_))
  refine aV (aD rfl) sc23 rfl h (by first|exact get8 (by omega)|exact get64 (by omega)|exact get32 (by omega)|exact hu1) (by first|exact aP|exact aY|exact bA|exact mem3|exact mem4|exact mem5|exact mem6|exact mem7|exact mem8|exact mem9) rfl ?_
  refine aX (nxl rfl) Tryz.underlying23 Tryz.underlying23 te5 rfl rfl r12 hvr (by first|exact aP|exact aY|exact bA|exact mem3|exact mem4|exact mem5|exact mem6|exact mem7|exact mem8|exact mem9) (by first|exact one_u8s _|exact one_u64s _|exact one_u32s _|(intro u hu;simp at hu;subst hu;rfl)) (by omega) (by omega) sel0 rfl (fun N17 a17 p17 r17=>?_)
  have s17:=r17.rsl
  refine op_lit (aS rfl) Tryz.underlying22 ze23 sz23 (.cons rfl .nil) rfl rfl (by simp [Value.cells]) rfl rfl rfl (fun N18 a18 r18=>?_)
  simp only [flatV,List.flatMap_cons,List.flatMap_nil,Value.cells,List.append_nil,List.cons_append,List.nil_append]at r18
  have s18:=r18.rsl
  change Row N18 _ 1 a18 1 1 [.slice a17 (0+v.length) p17]at r18
  have s18:=r18.rsl
  refine aX (nxl rfl) Tryz.underlying22 Tryz.underlying22 te23 rfl rfl ra s18 (by first|exact aP|exact aY|exact bA|exact mem3|exact mem4|exact mem5|exact mem6|exact mem7|exact mem8|exact mem9) (by intro u hu;simp at hu;subst hu;rfl) (by omega) (by omega) sel2 rfl (fun N19 a19 p19 r19=>?_)
  have s19:=r19.rsl
  refine aE (aD rfl) rfl rfl (aA ?_)
  rw [Nat.zero_add]at r17 r19
  refine aN (aB (s_7 (At.region (aC (aD rfl) rfl rfl (aM (aD rfl) rfl rfl (by omega) (by omega) rfl (aE (aD rfl) rfl rfl (aA (aB (At.perm sel4 (At.perm sel2 (At.perm sel2 (At.perm sel3 (At.perm sel4 (At.mergeN (fun J J1 J2=>At.sub (L':= [J,N19,R]) (.cons_cons _ (.cons_cons _ (.cons _ (.cons_cons _ (.slnil))))) (At.perm sel2 (At.perm sel1 (At.perm sel2 ?_))))))))))))))))))
  refine aW ?_ (.refl _) ⟨i+1,p19,a19,_,N19,J,rfl,rfl,rfl,by omega,r19,by rw [take_nextL hx];exact(hB.le J1).one (r17.rsl.le J2)⟩ ?_
  ·exact .cons (by first|exact aK rfl (by omega)|rfl) (.cons (by first|exact aK rfl (by omega)|rfl) (.cons (by first|exact aK rfl (by omega)|rfl) .nil))
  ·omega
 refine At.exit (aF (aF (aU (aB (s_3 (At.seq fun _ s_8=>At.region (aC (aD rfl) rfl rfl (aE (aD rfl) rfl rfl (aA (aB (s_8 (At.ret ((At.mergeN (fun Q Q1 Q2=>aO (L1:= [Q]) rfl (.tmp rfl .nil) (.refl _) (.refl _) ?_)))))))))))))))
 have hin:i=n:=by omega
 rw [hin]at ra hB⊢
 rw [hlen,List.take_length]at hB
 exact⟨Q,a,cq,us',rfl,rfl,ra.rsl.le Q1,hB.le Q2⟩
theorem TrieList_f (h:RSl N 1 ao n cap us) (hb:Bags N us vs):Fn Tryz.prog 3 #[.slice ao n cap] [] [N] (fun v L=>v=.bool true∧L= []):=by
 have hlen:n=vs.length:=by rw [←hb.len];have:=h.1;omega
 have hc:=h.2.1
 have hm:=h.2.2.1
 unfold maxLen at hm
 refine Fn.enter (vs:= [.slice ao n cap]) Tryz.func3 rfl rfl rfl ?_
 intro E R hR
 have h:=h.le (hR N (by simp))
 have hb:=hb.le (hR N (by simp))
 change At _ _ E [R] _
 refine At.seq fun _ s_1=>At.region (aE (aD rfl) rfl rfl (aA (aB (s_1 (At.seq fun _ s_2=>At.region (aE (aD rfl) rfl rfl (aA (aB (s_2 (At.seq fun _ s_3=>At.meet (fun fr_ hp_=> ∃(W:List (List UInt8)) (k cq:Nat) (a:Option Addr) (us':List Value) (Na NJ:Heaplet),fr_= [(3,.slice a k cq)]∧hp_= [Na,NJ,R]∧(k=W.length)∧(Row Na 23 1 a k cq us')∧(Bags NJ us' W)∧(W.length≤300)∧(∀v∈W,v.length≤1000)) ?_ (fun K3_ jk_3=>?_)))))))))))
 rotate_left
 ·skip
  refine At.seq fun _ s_4=>At.region (aE (aD rfl) rfl rfl (aA (aB (s_4 (At.block (At.empty (At.empty (At.perm sel2 (At.perm sel1 (At.perm sel2 (At.loop (fun fr_ hp_ ms_=> ∃(i cq:Nat) (a:Option Addr) (us':List Value) (Na NJ:Heaplet),fr_= [(0,.slice ao n cap),(3,.slice a i cq),(4,.int .i64 (i:Int))]∧hp_= [Na,NJ,R]∧n- i=ms_∧(i≤n)∧(i≤300)∧(Row Na 23 1 a i cq us')∧(Bags NJ us' ((vs.take i).map fun o=>o.take 120))) ?_ (.refl _) ⟨0,0,none,[],nilH,nilH,rfl,rfl,rfl,Nat.zero_le _,Nat.zero_le _,Row.nil _ _ _,Bags.nil _⟩ ?_)))))))))))
  ·exact .cons (by first|exact aK rfl (by omega)|rfl) (.cons (by first|exact aK rfl (by omega)|rfl) (.cons (by first|exact aK rfl (by omega)|rfl) .nil))
  rintro _ _ _ ⟨i,cq,a,us',Na,NJ,rfl,rfl,rfl,hi,hi3,ra,hB⟩
  refine At.seq fun _ s_5=>At.seq fun _ s_6=>At.region (aC (aD rfl) rfl rfl (aC (aD rfl) rfl rfl (aQ (aD rfl) se22 rfl rfl (op_lss (aD rfl) rfl rfl rfl (aC (aD rfl) rfl rfl (At.partP (d:=9) rfl (fun g9=>?_) (fun g9=>?_)))))))
  ·refine aC (nxgf rfl rfl rfl rfl) rfl rfl (op_lss (nxgf rfl rfl rfl rfl) rfl rfl rfl (op_pickT (aD rfl) rfl rfl rfl (aA (aB (s_6 (aI rfl (fun c12=>?_) (fun c12=>?_)))))))
   ·obtain⟨v,hx⟩: ∃y,vs[i]? =some y:=⟨_,List.getElem?_eq_getElem (by omega)⟩
    obtain⟨va,vc,hu1,hvr⟩:=hb.rsl i v hx
    have hos:=h.isSome (by omega)
    have hbk:=bags_one hB
    refine At.skip (aB (s_5 (At.seq fun _ s_7=>At.block (At.region (aC (aD rfl) rfl rfl (aC (aD rfl) rfl rfl (aC (aD rfl) rfl rfl (op_idx1 (aD rfl) se22 rfl rfl h (show _=(((i:Nat)):Int)from by omega) (by omega) rfl ?_))))))))
    refine aV (aD rfl) sc23 rfl h (by first|exact get8 (by omega)|exact get64 (by omega)|exact get32 (by omega)|exact hu1) (by first|exact aP|exact aY|exact bA|exact mem3|exact mem4|exact mem5|exact mem6|exact mem7|exact mem8|exact mem9) rfl ?_
    refine aG (aS rfl) (.cons rfl .nil) (FValue hvr) Tryz.func7 rfl rfl (by simp) rfl ?_
    rintro v20 L20 ⟨N20,a20,c20,rfl,rfl,r20⟩
    change At _ _ _ [N20,Na,NJ,R] _
    refine op_lit (aS rfl) Tryz.underlying22 ze23 sz23 (.cons rfl .nil) rfl rfl (by simp [Value.cells]) rfl rfl rfl (fun N21 a21 r21=>?_)
    simp only [flatV,List.flatMap_cons,List.flatMap_nil,Value.cells,List.append_nil,List.cons_append,List.nil_append]at r21
    have s21:=r21.rsl
    change Row N21 _ 1 a21 1 1 [.slice a20 (v.take 120).length c20]at r21
    have s21:=r21.rsl
    refine aX (nxl rfl) Tryz.underlying22 Tryz.underlying22 te23 rfl rfl ra s21 (by first|exact aP|exact aY|exact bA|exact mem3|exact mem4|exact mem5|exact mem6|exact mem7|exact mem8|exact mem9) (by intro u hu;simp at hu;subst hu;rfl) (by omega) (by omega) sel2 rfl (fun N22 a22 p22 r22=>?_)
    have s22:=r22.rsl
    refine aE (aD rfl) rfl rfl (aA (aN (aB (s_7 (At.region (aC (aD rfl) rfl rfl (aM (aD rfl) rfl rfl (by omega) (by omega) rfl (aE (aD rfl) rfl rfl (aA (aB (At.perm sel4 (At.perm sel2 (At.perm sel2 (At.perm sel3 (At.perm sel4 (At.mergeN (fun J J1 J2=>At.sub (L':= [J,N22,R]) (.cons_cons _ (.cons_cons _ (.cons _ (.cons_cons _ (.slnil))))) (At.perm sel2 (At.perm sel1 (At.perm sel2 ?_))))))))))))))))))))
    refine aW ?_ (.refl _) ⟨i+1,p22,a22,_,N22,J,rfl,rfl,rfl,by omega,by omega,r22,by rw [take_nextL hx,List.map_append];exact(hB.le J1).one (r20.rsl.le J2)⟩ ?_
    ·exact .cons (by first|exact aK rfl (by omega)|rfl) (.cons (by first|exact aK rfl (by omega)|rfl) (.cons (by first|exact aK rfl (by omega)|rfl) .nil))
    ·omega
   refine At.exit (aF (aF (aU ?_)))
   refine aB (jk_3 ?_ (.refl _) ⟨(vs.take i).map fun o=>o.take 120,i,cq,a,us',Na,NJ,rfl,rfl,(takeL_len (by omega)).symm,ra,hB,by rw [takeL_len (by omega)];exact hi3,takeL_sml _⟩)
   exact .cons (by first|exact aK rfl (by omega)|rfl) .nil
  refine op_skip rfl rfl rfl rfl rfl rfl rfl (op_skip rfl rfl rfl rfl rfl rfl rfl (op_pickF (aD rfl) rfl rfl rfl (aA (aB (s_6 (At.condF rfl (At.exit (aF (aF (aU ?_))))))))))
  refine aB (jk_3 ?_ (.refl _) ⟨(vs.take i).map fun o=>o.take 120,i,cq,a,us',Na,NJ,rfl,rfl,(takeL_len (by omega)).symm,ra,hB,by rw [takeL_len (by omega)];exact hi3,takeL_sml _⟩)
  exact .cons (by first|exact aK rfl (by omega)|rfl) .nil
 rintro _ _ ⟨W,k,cq,a,us',Na,NJ,rfl,rfl,hkW,ra,hB,hl,hv⟩
 obtain⟨z,hz⟩: ∃z,rootM (listM W W.length)=z:=⟨_,rfl⟩;have lz:z.length=32:=by rw [←hz,rootM,kec_len]
 refine s_3 (At.seq fun _ s_8=>At.region (aC (aD rfl) rfl rfl (aG (aS rfl) (.cons rfl .nil) (Fn.overJ (Ns:= [Na,NJ]) fun J hJ=>FTwins2 (ra.rsl.le (hJ _ (by simp))) (hB.le (hJ _ (by simp))) (by omega) hv) Tryz.func9 rfl rfl (by simp) rfl ?_)))
 rintro v24 L24 ⟨NQ,aq,cq2,uq,rfl,rfl,sq,bq⟩
 change At _ _ _ [NQ,Na,NJ,R] _
 refine aG (aS rfl) (.cons rfl .nil) (FListT sq bq hl hv) Tryz.func8 rfl rfl (by simp) rfl ?_
 rintro v25 L25 ⟨rfl,rfl⟩
 change At _ _ _ [NQ,Na,NJ,R] _
 rw [hz]
 refine aC (aD rfl) rfl rfl (aG (aS rfl) (.cons rfl .nil) (Fn.overJ (Ns:= [Na,NJ]) fun J hJ=>rListT (ra.rsl.le (hJ _ (by simp))) (hB.le (hJ _ (by simp))) hl hv) Tryz.func10 rfl rfl (by simp) rfl ?_)
 rintro v27 L27 ⟨rfl,rfl⟩
 change At _ _ _ [NQ,Na,NJ,R] _
 rw [hz]
 refine op_eqW8 (a:=z) (b:=z) (aD rfl) ae26 Tryz.underlying5 (by kernel_rfl) rfl rfl lz lz rfl (aC (aD rfl) rfl rfl (At.partP (d:=29) rfl (fun g29=>?_) (fun g29=>?_)))
 rotate_left
 ·exact absurd rfl g29
 refine aG (nxga rfl rfl rfl rfl) .nil (TWakes) Tryz.func11 rfl rfl (by simp) rfl ?_
 rintro v30 L30 ⟨rfl,rfl⟩
 change At _ _ _ [NQ,Na,NJ,R] _
 refine op_pickT (aD rfl) rfl rfl rfl (aE (aD rfl) rfl rfl (aA (aB (s_8 (At.ret ((At.sub (L':= [R]) (.cons _ (.cons _ (.cons _ (.cons_cons _ (.slnil))))) (aO (L1:= []) rfl (.tmp rfl .nil) (.refl _) (.refl _) ?_))))))))
 exact⟨rfl,rfl⟩
end
end Go.Proofs.YtdpjbefeabokgaaGreat
/- From what an argument reads as to the engine's facts; what is read again behind the call. No condition. -/
namespace Go.Proofs.YtdpjbefeabokgaaGreat
open Go Go.RowKit Go.ChangeShapes Go.WideShapes Go.Deep
theorem add_off (a:Addr) (n:Nat):(a.add n).off=a.off+n:=by unfold Addr.add;split<;>simp_all
theorem add_block (a:Addr) (n:Nat):(a.add n).block=a.block:=by unfold Addr.add;split<;>rfl
theorem cellOf_whole {w:World} {a:Addr} {v:Value} (h:w.cell? a=some v):a.spot=none∧cellOf (whole w) a.block a.off=some v:=by
 unfold World.cell? at h
 unfold cellOf whole
 split at h
 ·rename_i c t fr e
  split at h
  ·cases h
  ·rename_i hs
   rw [e]
   exact⟨by simpa using hs,h⟩
 ·cases h
theorem rng_whole {w:World} {a:Addr} {base n size:Nat} {C:Nat→List Value} (h: ∀i,i<n→w.cells? base (a.add (i*size)) size=some (C i)):
 Rng (whole w) a.block a.off ((List.range n).flatMap C)∧((List.range n).flatMap C).length=n*size:=by
 induction n with
 |zero=>exact⟨fun i hi=>by simp at hi,by simp⟩
 |succ n ih=>
  obtain⟨h1,h2⟩:=ih fun i hi=>h i (by omega)
  obtain⟨_,hl,hc⟩:=World.cells?_some (h n (by omega))
  have e:(List.range (n+1)).flatMap C=(List.range n).flatMap C++C n:=by simp [List.range_succ]
  rw [e]
  refine⟨fun i hi=>?_,by rw [List.length_append,h2,hl,Nat.succ_mul]⟩
  by_cases hlt:i<((List.range n).flatMap C).length
  ·rw [List.getElem_append_left hlt];exact h1 i hlt
  ·rw [List.length_append]at hi
   rw [List.getElem_append_right (by omega)]
   have hk:=hc (i- n*size) (by omega)
   rw [List.getElem?_eq_getElem (by omega)]at hk
   have h3:=(cellOf_whole hk).2
   have e2:((a.add (n*size)).add (i- n*size)).off=a.off+i:=by rw [add_off,add_off];omega
   rw [e2,add_block,add_block]at h3
   have e3:i- ((List.range n).flatMap C).length=i- n*size:=by rw [h2]
   simp only [e3]
   exact h3
section
variable {H : Type} {enc : TypeId × Value → H} {P : Program} {w : World} {spare : Nat → Bool} {held : Bool}
theorem open_rsl {t e:TypeId} {fuel:Nat} {cs:List Value} {x:DataW H×List MemPlace} (ht:P.underlying t=some (.slice e)) (hpos:0<P.cellsOf e) (h:DataW.trod enc P w 0 spare held fuel t cs=some x):
 ∃ao n cap C m,cs= [.slice ao n cap]∧RSl (whole w) (P.cellsOf e) ao n cap ((List.range n).flatMap C)∧(n=0∨fuel=m+1)∧
  ∀i,i<n→(C i).length=P.cellsOf e∧ ∃y,DataW.trod enc P w 0 spare held m e (C i)=some y:=by
 rcases DataW.trod_slice ht h with ⟨rfl,_⟩|⟨a,len,cap,elems,rest,n,hf,rfl,rfl,hb,hl,hm,hlen,hel,hsp,hns⟩
 ·exact⟨none,0,0,fun _=> [],0,rfl,⟨by simp,by omega,by simp [maxLen],fun h=>by omega⟩,Or.inl rfl,fun i hi=>by omega⟩
 ·obtain⟨C,hC⟩:=choose_lt (α:=List Value) (p:=fun i c=>w.cells? 0 (a.add (i*P.cellsOf e)) (P.cellsOf e)=some c∧ ∃y,DataW.trod enc P w 0 spare held n e c=some y) (n:=len) (fun i hi=>by
   have:=hel i hi
   rw [List.getElem?_eq_getElem (by omega)]at this
   obtain⟨c,h1,h2⟩:=Option.bind_eq_some_iff.1 this
   exact⟨c,h1,_,h2⟩)
  obtain⟨h1,h2⟩:=rng_whole (fun i hi=>(hC i hi).1)
  refine⟨some a,len,cap,C,n,rfl,⟨h2,hl,hm,fun h0=>?_⟩,Or.inr hf,fun i hi=>⟨(World.cells?_some (hC i hi).1).2.1,(hC i hi).2⟩⟩
  obtain⟨_,hl0,hc0⟩:=World.cells?_some (hC 0 h0).1
  have hk:=hc0 0 hpos
  rw [List.getElem?_eq_getElem (by omega)]at hk
  have hs:=(cellOf_whole hk).1
  have hs':a.spot=none:=by simpa [Addr.add]using hs
  refine⟨a.block,a.off,?_,h1⟩
  cases a;simp at hs';subst hs';rfl
/-- The bytes that a list of cells holds. -/
def u8of:Value→UInt8
 |.int _ q=>UInt8.ofNat q.toNat
 |_=>0
theorem open_u8 {t e:TypeId} {fuel:Nat} {cs:List Value} {x:DataW H×List MemPlace} (ht:P.underlying t=some (.slice e)) (he:P.underlying e=some (.int .u8)) (hc:P.cellsOf e=1) (h:DataW.trod enc P w 0 spare held fuel t cs=some x):
 ∃ao n cap bs,cs= [.slice ao n cap]∧RSl (whole w) 1 ao n cap (u8s bs):=by
 obtain⟨ao,n,cap,C,m,rfl,hr,_,hC⟩:=open_rsl ht (by omega) h
 refine⟨ao,n,cap,((List.range n).flatMap C).map u8of,rfl,?_⟩
 have e:u8s (((List.range n).flatMap C).map u8of)=(List.range n).flatMap C:=by
  unfold u8s
  rw [List.map_map]
  refine(List.map_congr_left (g:=id) fun v hv=>?_).trans (List.map_id _)
  obtain⟨i,hi,hv⟩:=List.mem_flatMap.1 hv
  obtain⟨hl,y,hy⟩:=hC i (List.mem_range.1 hi)
  obtain⟨q,hq,_,hw⟩:=DataW.trod_int he hy
  rw [hq]at hv
  obtain rfl:=List.mem_singleton.1 hv
  have hb:0≤q∧q≤255:=by simpa [Lit.wf,IntKind.min,IntKind.max,IntKind.signed,IntKind.bits]using hw
  simp only [Function.comp,u8of,vb,id]
  have h8:(UInt8.ofNat q.toNat).toNat=q.toNat:=by rw [UInt8.toNat_ofNat'];omega
  rw [h8]
  congr 1
  omega
 rw [e, ←hc]
 exact hr
theorem stays_all {W W':World} {sp:Nat→Bool} (hl:laidOutB P=true): ∀ {ts:List TypeId} {vs:List Value} {ds:List (DataW H)} {ps:List MemPlace},(∀t∈ts,P.readableRec t=true∧t<P.types.size)→
 DataW.TrodAll enc P W 0 (fun _=>true) true ts vs ds ps→(∀p∈ps,W.sameAt W' p)→(∀p∈ps,sp p.block=true)→DataW.TrodAll enc P W' 0 sp true ts vs ds ps
 | [],[],[],_,_,h,_,_=>h
 |t::_,_::_,_::_,_,hr,⟨p,q,h1,h2,e⟩,hs,hb=>⟨p,q,
  Go.WideElems.Trod_stays hl (hr t (by simp)).1 (hr t (by simp)).2 h1 (fun x hx=>hs x (by rw [e];simp [hx])) (fun x hx=>hb x (by rw [e];simp [hx])),
  stays_all hl (fun t ht=>hr t (by simp [ht])) h2 (fun x hx=>hs x (by rw [e];simp [hx])) (fun x hx=>hb x (by rw [e];simp [hx])),e⟩
theorem sameAt_below {W W':World} (h:Below W.heap.size W W') {p:MemPlace} (hp:p.block<W.heap.size):W.sameAt W' p:=by
 cases p with
 |cell b off=>
  show W'.cell? ⟨b,off,none⟩=W.cell? ⟨b,off,none⟩
  have e:W'.heap[b]? =W.heap[b]? :=h.block b hp
  unfold World.cell?
  simp only [e]
 |map b=>exact h.block b hp
/-- A law's last step: it answered v, and all that was there is there as it was. -/
theorem law_post {f:Func} {s:ChangeSpec} {W W':World} {args:Array Value} {v:Value} {r:DataW H} {ds gs:List (DataW H)} {before:List MemPlace} {tr:TypeId}
 (hW:DataW.Whole enc P f.params.toList s.vars false W args.toList ds gs before) (hv:s.vars= [])
 (hs:s.fn H (ds++gs)= { results:= [r],args:=ds }) (hone':v.resultList 1= [v]) (hres:f.resultTypes= #[tr])
 (hr: ∀(b:Nat) (sp:Nat→Bool) (hd:Bool),DataW.Trod enc P W' b sp hd tr v r []) (hok:Value.okWide P W' .any 0 tr v)
 (hl:laidOutB P=true) (ht: ∀t∈f.params.toList,P.readableRec t=true∧t<P.types.size) (hb:Below W.heap.size W W'):
 s.post enc P f false true false false W args v W':=by
 have hlt: ∀p∈before,p.block<W.heap.size:=fun p hp=>hW.lt p hp
 have hW':=hW
 obtain⟨p,q,hA,hV,rfl,hfz,hnd⟩:=hW
 rw [hv]at hV
 obtain⟨rfl,rfl⟩:=trodVars_none hV
 simp only [List.append_nil]at hs hlt hW' hfz
 have again: ∀sp:Nat→Bool,(∀x∈p,sp x.block=true)→DataW.TrodAll enc P W' 0 sp true f.params.toList args.toList ds p:=fun sp hsp=>
  stays_all hl ht hA (fun x hx=>sameAt_below hb (hlt x hx)) hsp
 have hrl:v.resultList f.resultTypes.size= [v]:=by rw [hres];exact hone'
 have hone: ∀(b:Nat) (sp:Nat→Bool) (hd:Bool),DataW.TrodAll enc P W' b sp hd f.resultTypes.toList (v.resultList f.resultTypes.size) [r] []:=fun b sp hd=>by
  rw [hrl,hres];exact⟨[],[],hr b sp hd,rfl,rfl⟩
 have hold: ∀x∈p,(fun b=>decide (b<W.heap.size)) x.block=true:=fun x hx=>by simpa using hlt x hx
 have hvs: ∀sp:Nat→Bool,DataW.TrodVars enc P W' sp s.vars [] []:=fun sp=>by rw [hv];rfl
 refine⟨ds,[],p,[],p,[],by simpa using hW',by simp only [List.append_nil];rw [hs];exact hone _ _ _,by simp only [List.append_nil];rw [hs];exact again _ hold,by simp only [List.append_nil];rw [hs];exact hvs _,
  World.keptBut_mono (fun x hx=>⟨hx,Or.inr (Or.inl hx)⟩) (hb.frame (· ∈p)),fun _=>?_⟩
 refine⟨?_,_,_,([]++p)++ [],⟨[]++p,[],trodAll_append (again _ (fun _ _=>rfl)) (hone _ _ _),hvs _,rfl,?_,?_⟩,?_⟩
 ·intro j t r hj hr
  rw [hrl]at hr
  rw [hres]at hj
  cases j with
  |zero=>simp at hj hr;subst hj;subst hr;exact hok
  |succ j=>simp at hr
 ·intro b off hp
  have hin:MemPlace.cell b off∈p:=by simpa using hp
  rw [hb.frozen (hlt _ hin)]
  exact hfz b off hin
 ·intro ha
  cases ha
 ·intro x hx _
  simpa using hx
end
end Go.Proofs.YtdpjbefeabokgaaGreat
/- Byte strings as an argument. No condition. -/
namespace Go.Proofs.YtdpjbefeabokgaaGreat
open Go Go.RowKit Go.ChangeShapes Go.WideShapes Go.Deep
set_option maxRecDepth 100000
section
variable {H : Type} {enc : TypeId × Value → H} {w : World} {spare : Nat → Bool} {held : Bool}
theorem each_open {α:Type} {f:α→List Value} {Q:α→Prop} {n:Nat} {C:Nat→List Value} (h: ∀i,i<n→ ∃y,C i=f y∧Q y): ∃xs:List α,(List.range n).flatMap C=xs.flatMap f∧ ∀x∈xs,Q x:=by
 induction n with
 |zero=>exact⟨[],rfl,fun x hx=>by cases hx⟩
 |succ n ih=>
  obtain⟨xs,e,hi⟩:=ih fun i hi=>h i (by omega)
  obtain⟨y,e2,hx⟩:=h n (by omega)
  refine⟨xs++ [y],?_,fun z hz=>?_⟩
  ·simp only [List.range_succ,List.flatMap_append,List.flatMap_cons,List.flatMap_nil,List.append_nil,e,e2]
  ·rcases List.mem_append.1 hz with hz|hz
   ·exact hi z hz
   ·rw [List.mem_singleton.1 hz];exact hx
theorem open_bags {r:Reach} {b0:Nat} {v:Value} {d:DataW H} {ps:List MemPlace} (hval:Value.okWide Tryz.prog w r b0 22 v) (hd:DataW.Trod enc Tryz.prog w 0 spare held 22 v d ps):
 ∃ao n cap, ∃x:List Value×List (List UInt8),v=.slice ao n cap∧RSl (whole w) 1 ao n cap x.1∧Bags (whole w) x.1 x.2:=by
 obtain⟨ao',n',cap',rfl⟩:=okWide_slice Tryz.underlying22 hval
 obtain⟨fuel,hf⟩:=hd
 have hc:Tryz.prog.cellsOf 23=1:=by kernel_rfl
 obtain⟨ao,n,cap,C,m,e,hr,_,hC⟩:=open_rsl Tryz.underlying22 (by rw [hc];decide) hf
 rw [hc]at hr
 obtain⟨xs,h1,h2⟩:=each_open (f:=fun q:Option Addr×Nat×List UInt8=> [Value.slice q.1 q.2.2.length q.2.1]) (Q:=fun q=>RSl (whole w) 1 q.1 q.2.2.length q.2.1 (u8s q.2.2)) (n:=n) (C:=C) fun i hi=>by
  obtain⟨_,y,hy⟩:=hC i hi
  obtain⟨a,k,c,bs,e1,h1⟩:=open_u8 Tryz.underlying23 Tryz.underlying5 (by kernel_rfl) hy
  obtain rfl:=h1.len8
  exact⟨(a,c,bs),e1,h1⟩
 rw [h1, ←List.map_eq_flatMap]at hr
 refine⟨ao,n,cap,(_,xs.map fun q=>q.2.2),(List.cons.inj e).1,hr,⟨by simp,fun i x hx=>?_⟩⟩
 rw [List.getElem?_map]at hx
 obtain⟨q,hq,rfl⟩:=Option.map_eq_some_iff.1 hx
 exact⟨q.1,q.2.1,by show(xs.map _)[i]? =_;rw [List.getElem?_map,hq];rfl,h2 q (List.mem_of_getElem? hq)⟩
end
end Go.Proofs.YtdpjbefeabokgaaGreat
