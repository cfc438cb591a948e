/- Several texts in one: see the remarks ahead of each part. No condition but those told there. -/
import Derived.Test.YtdpjbefeabokgaaGreatUYm
import Derived.Test.YtdpjbefeabokgaaGreatUKE8
import Derived.Test.YtdpjbefeabokgaaGreatU7
import Derived.Test.YtdpjbefeabokgaaGreatU9
import Derived.Stop.BytesEq
import Derived.Test.YtdpjbefeabokgaaGreatU10
import Derived.Test.YtdpjbefeabokgaaGreatU4
import Derived.WalkKit
import Derived.ProofKit
import Derived.OpenShut
import Derived.Below
import Derived.ChangeSame
import Derived.WideKeyArgs
import Derived.Deep.Slices
import Derived.Test.YtdpjbefeabokgaaGreatU5
import Derived.Test.YtdpjbefeabokgaaGreatU11
set_option linter.unusedSimpArgs false
set_option linter.unusedVariables false
/- Layer 12, the statements' helps: keys and values cut, two tries that play one call. No condition but bounds. -/
namespace Go.Proofs.YtdpjbefeabokgaaGreat
open Go Go.RowKit
set_option maxRecDepth 100000
def RefN (N:Heaplet) (bt:Nat) (R0:List PR):Prop:= ∃Nt Nk Nv Ne,[Nt,Nk,Nv,Ne].Pairwise Apart∧N=joinL [Nt,Nk,Nv,Ne]∧RefO bt Nt Nk Nv Ne R0
theorem RefN.s {bt:Nat} {N J:Heaplet} {R0:List PR} (h:RefN N bt R0) (hl:N.le J):RefS J bt R0:=by
 obtain⟨Nt,Nk,Nv,Ne,h1,rfl,h3⟩:=h
 exact h3.s (Heaplet.le_trans (le_joinL h1 (by simp)) hl) (Heaplet.le_trans (le_joinL h1 (by simp)) hl) (Heaplet.le_trans (le_joinL h1 (by simp)) hl) (Heaplet.le_trans (le_joinL h1 (by simp)) hl)
theorem alone4 (N:Heaplet): [N,nilH,nilH,nilH].Pairwise Apart∧N=joinL [N,nilH,nilH,nilH]:=by
 refine⟨?_,?_⟩
 ·simp only [List.pairwise_cons,List.mem_cons,List.not_mem_nil,or_false]
  refine⟨fun M hM k=>?_,fun M hM k=>.inl rfl,fun M hM k=>.inl rfl,?_⟩
  ·rcases hM with rfl|rfl|rfl<;>exact .inr rfl
  ·exact⟨fun M hM=>hM.elim,.nil⟩
 ·funext k
  simp only [joinL,join2]
  cases N k<;>rfl
theorem RefN.start {b:Nat} {N:Heaplet} (h:Blk N b 52 [.slice none 0 0,.slice none 0 0]):RefN N b []:=by
 obtain⟨h1,h2⟩:=alone4 N
 exact⟨N,nilH,nilH,nilH,h1,h2,none,0,none,0,[],[],h,Row.nil _ _ _,Row.nil _ _ _,Bags.nil _,Bags.nil _,Good.nil⟩
section
variable {N K V : Heaplet} {bt : Nat} {R0 : List PR} {ka va : Option Addr} {kn kc vn vc : Nat} {k v : List UInt8}
theorem rDelete (h:RefN N bt R0) (hk:RSl K 1 ka kn kc (u8s k)) (hc:R0.length≤1000000):Fn Tryz.prog 25 #[.pointer (some ⟨bt,0,none⟩),.slice ka kn kc] [N] [K] (fun x L=> ∃N',x=.bool (hasM k R0)∧L= [N']∧RefN N' bt (delM k R0)):=by
 obtain⟨Nt,Nk,Nv,Ne,h1,rfl,h3⟩:=h
 refine Fn.pack (As:= [Nt,Nk,Nv,Ne]) (L0:= []) h1 (rDelete_o h3 hk hc) ?_
 rintro x L ⟨Nt',Nk',Nv',Ne',rfl,rfl,hO⟩
 exact⟨[Nt',Nk',Nv',Ne'],[],rfl,fun hp=>⟨_,rfl,rfl,Nt',Nk',Nv',Ne',hp,rfl,hO⟩⟩
theorem rPut (h:RefN N bt R0) (hk:RSl K 1 ka kn kc (u8s k)) (hv:RSl V 1 va vn vc (u8s v)) (hkn:kn≤40) (hvn:vn≤1000000) (hc:R0.length≤1000000):Fn Tryz.prog 27 #[.pointer (some ⟨bt,0,none⟩),.slice ka kn kc,.slice va vn vc] [N] [K,V] (fun x L=> ∃N',x=.tuple #[]∧L= [N']∧RefN N' bt (putM k v R0)):=by
 obtain⟨Nt,Nk,Nv,Ne,h1,rfl,h3⟩:=h
 refine Fn.pack (As:= [Nt,Nk,Nv,Ne]) (L0:= []) h1 (rPut_o h3 hk hv hkn hvn hc) ?_
 rintro x L ⟨Nt',Nk',Nv',Ne',rfl,rfl,hO⟩
 exact⟨[Nt',Nk',Nv',Ne'],[],rfl,fun hp=>⟨_,rfl,rfl,Nt',Nk',Nv',Ne',hp,rfl,hO⟩⟩
def CutP (m:Nat) (l:List UInt8) (x:Value) (L:List Heaplet):Prop:= ∃M a c,x=.slice a (l.take m).length c∧L= [M]∧Row M 5 1 a (l.take m).length c (u8s (l.take m))
theorem FKey (h:RSl K 1 ka kn kc (u8s k)):Fn Tryz.prog 14 #[.slice ka kn kc] [] [K] (CutP 40 k):=by
 refine Fn.enter (vs:= [.slice ka kn kc]) Tryz.func14 rfl rfl rfl ?_
 intro E R hR
 have h:=h.le (hR K (by simp))
 change At _ _ E [R] _
 refine At.seq fun _ s_1=>At.region (aE (aD rfl) rfl rfl (aA (aB (s_1 (At.seq fun _ s_2=>At.region (aC (aD rfl) rfl rfl (aJ (bA rfl) (.cons rfl (.cons rfl .nil)) (KTwin_f h 40 40 rfl (by decide)) Tryz.func20 rfl rfl (by simp) rfl ?_)))))))
 rintro v4 L4 ⟨M4,a4,c4,rfl,rfl,r4⟩
 change At _ _ _ [M4,R] _
 refine aE (aD rfl) rfl rfl (aA (aB (s_2 (At.ret ((aW (L1:= [M4]) rfl (.tmp rfl .nil) (.refl _) (.refl _) ?_))))))
 exact⟨M4,a4,c4,rfl,rfl,r4⟩
theorem FValue (h:RSl K 1 ka kn kc (u8s k)):Fn Tryz.prog 7 #[.slice ka kn kc] [] [K] (CutP 120 k):=by
 refine Fn.enter (vs:= [.slice ka kn kc]) Tryz.func7 rfl rfl rfl ?_
 intro E R hR
 have h:=h.le (hR K (by simp))
 change At _ _ E [R] _
 refine At.seq fun _ s_1=>At.region (aE (aD rfl) rfl rfl (aA (aB (s_1 (At.seq fun _ s_2=>At.region (aC (aD rfl) rfl rfl (aJ (bA rfl) (.cons rfl (.cons rfl .nil)) (KTwin_f h 120 120 rfl (by decide)) Tryz.func20 rfl rfl (by simp) rfl ?_)))))))
 rintro v4 L4 ⟨M4,a4,c4,rfl,rfl,r4⟩
 change At _ _ _ [M4,R] _
 refine aE (aD rfl) rfl rfl (aA (aB (s_2 (At.ret ((aW (L1:= [M4]) rfl (.tmp rfl .nil) (.refl _) (.refl _) ?_))))))
 exact⟨M4,a4,c4,rfl,rfl,r4⟩
end
theorem root_nil:rootM []=kec [128]:=by
 have e:(nodeF 81 (prs [])).form= [128]:=by
  show(itS []).form= [128]
  decide+kernel
 rw [rootM,e]
set_option maxHeartbeats 2000000 in
theorem TWakes:Fn Tryz.prog 11 #[] [] [] (fun v L=>v=.bool true∧L= []):=by
 obtain⟨z,hz⟩: ∃z,rootM []=z:=⟨_,rfl⟩
 have hzk:z=kec [128]:=by rw [←hz,root_nil]
 rw [k80]at hzk
 have hlz:(u8s z).length=32:=by rw [hzk];rfl
 have h0:(u8s z)[0]? =some (.int .u8 86):=by rw [hzk];rfl
 have h31:(u8s z)[31]? =some (.int .u8 33):=by rw [hzk];rfl
 have e1:(getR (putM [100,111] [118,101,114,98] []) [100,111]).getD []= [118,101,114,98]:=by decide
 have e2:hasM [100,111] (putM [100,111] [118,101,114,98] [])=true:=by decide
 have e3:(putM [100,111] [118,101,114,98] []).length=1:=by decide
 clear hzk
 refine Fn.enter (vs:= []) Tryz.func11 rfl rfl rfl ?_
 intro E R hR
 change At _ _ E [R] _
 refine At.seq fun _ s_1=>At.region (aE (aD rfl) rfl rfl (aA (aB (s_1 (At.seq fun _ s_2=>At.region (aJ (bA rfl) .nil (FNew) Tryz.func22 rfl rfl (by simp) rfl ?_))))))
 rintro v5 L5 ⟨Nt,bt,rfl,rfl,hT⟩
 change At _ _ _ [Nt,R] _
 refine aE (aD rfl) rfl rfl (aA (aB (s_2 (At.seq fun _ s_3=>At.seq fun _ s_4=>At.region (aC (aD rfl) rfl rfl (op_eqPt (aD rfl) Tryz.underlying32 rfl rfl (aA (aB (s_4 (At.condF rfl (At.skip (aB (s_3 (At.seq fun _ s_5=>At.region (aC (aD rfl) rfl rfl (aJ (bA rfl) (.cons rfl .nil) (FRoot hT (by simp)) Tryz.func17 rfl rfl (by simp) rfl ?_))))))))))))))))
 rintro v9 L9 ⟨rfl,rfl⟩
 change At _ _ _ [Nt,R] _
 rw [hz]
 refine bO (bA rfl) ze26 rfl (fun N2 b2 B2=>?_)
 change Blk N2 b2 _ [.int .u8 0,.int .u8 0,.int .u8 0,.int .u8 0,.int .u8 0,.int .u8 0,.int .u8 0,.int .u8 0,.int .u8 0,.int .u8 0,.int .u8 0,.int .u8 0,.int .u8 0,.int .u8 0,.int .u8 0,.int .u8 0,.int .u8 0,.int .u8 0,.int .u8 0,.int .u8 0,.int .u8 0,.int .u8 0,.int .u8 0,.int .u8 0,.int .u8 0,.int .u8 0,.int .u8 0,.int .u8 0,.int .u8 0,.int .u8 0,.int .u8 0,.int .u8 0]at B2
 refine aO (nxl rfl) sz26 rfl rfl (vs:=u8s z) rfl hlz (all8x2 z) B2 (by rw [hlz];exact Nat.le_refl _) sel0 (fun N2 B2=>?_)
 rw [setL_whole (by exact hlz.symm)]at B2
 refine aA (aB (s_5 (At.seq fun _ s_6=>At.region (aC (aD rfl) rfl rfl (op_lit (bA rfl) Tryz.underlying23 ze5 sz5 (.cons rfl (.cons rfl .nil)) rfl rfl (by simp [Value.cells]) rfl rfl rfl (fun N11 a11 r11=>?_))))))
 simp only [flatV,List.flatMap_cons,List.flatMap_nil,Value.cells,List.append_nil,List.cons_append,List.nil_append]at r11
 have s11:=r11.rsl
 refine op_convB (nxl rfl) Tryz.underlying23 Tryz.underlying5 rfl r11 (by omega) sel0 rfl (fun N11 s11=>op_lit (bA rfl) Tryz.underlying23 ze5 sz5 (.cons rfl (.cons rfl (.cons rfl (.cons rfl .nil)))) rfl rfl (by simp [Value.cells]) rfl rfl rfl (fun N13 a13 r13=>?_))
 simp only [flatV,List.flatMap_cons,List.flatMap_nil,Value.cells,List.append_nil,List.cons_append,List.nil_append]at r13
 have s13:=r13.rsl
 refine op_convB (nxl rfl) Tryz.underlying23 Tryz.underlying5 rfl r13 (by omega) sel0 rfl (fun N13 s13=>At.perm sel4 (At.perm sel3 (At.perm sel3 (At.perm sel3 (At.perm sel4 (op_call (nxl rfl) (.cons rfl (.cons rfl (.cons rfl .nil))) (FPut hT (k:= [100,111]) (v:= [118,101,114,98]) s11 s13 (by decide) (by decide) (by decide)) (F:= [N13,N11,N2,R]) Tryz.func26 rfl rfl (.refl _) (by simp) rfl ?_))))))
 rintro v15 L15 ⟨N',rfl,rfl,hT'⟩
 change At _ _ _ [N',N13,N11,N2,R] _
 refine aA (aB (s_6 (At.seq fun _ s_7=>At.region (aC (aD rfl) rfl rfl (op_lit (bA rfl) Tryz.underlying23 ze5 sz5 (.cons rfl (.cons rfl .nil)) rfl rfl (by simp [Value.cells]) rfl rfl rfl (fun N18 a18 r18=>?_))))))
 simp only [flatV,List.flatMap_cons,List.flatMap_nil,Value.cells,List.append_nil,List.cons_append,List.nil_append]at r18
 have s18:=r18.rsl
 refine op_convB (nxl rfl) Tryz.underlying23 Tryz.underlying5 rfl r18 (by omega) sel0 rfl (fun N18 s18=>aJ (bA rfl) (.cons rfl (.cons rfl .nil)) (FGet hT' (k:= [100,111]) s18 (by decide)) Tryz.func18 rfl rfl (by simp) rfl ?_)
 rintro v20 L20 ⟨M20,a20,c20,rfl,rfl,r20⟩
 change At _ _ _ [M20,N18,N',N13,N11,N2,R] _
 rw [e1]at r20;rw [e1,e2];have s20:=r20.rsl
 refine aC (aD rfl) rfl rfl (aS (aD rfl) rfl rfl rfl (aS (aD rfl) rfl rfl rfl (aE (aD rfl) rfl rfl (aE (aD rfl) rfl rfl (aA (aB (s_7 (At.seq fun _ s_8=>At.region (op_idxA (aD rfl) ae26 rfl rfl (show _=((0:Nat):Int)from rfl) (by omega) rfl (aI (aD rfl) sc5 rfl B2 (h0) bH rfl (op_eql (aD rfl) rfl rfl rfl (aC (aD rfl) rfl rfl (At.partP (d:=26) rfl (fun g26=>?_) (fun g26=>?_))))))))))))))
 rotate_left
 ·exact absurd rfl g26
 refine op_idxA (aY rfl rfl rfl rfl) ae26 rfl rfl (show _=((31:Nat):Int)from rfl) (by omega) rfl (aI (aY rfl rfl rfl rfl) sc5 rfl B2 (h31) bH rfl (op_eql (aY rfl rfl rfl rfl) rfl rfl rfl (bS (aD rfl) rfl rfl rfl (aC (aD rfl) rfl rfl (At.partP (d:=31) rfl (fun g31=>?_) (fun g31=>?_))))))
 rotate_left
 ·exact absurd rfl g31
 refine aC (aY rfl rfl rfl rfl) rfl rfl (bS (aD rfl) rfl rfl rfl (aC (aD rfl) rfl rfl (At.part (d:=34) rfl (fun g34=>?_) (fun g34=>?_))))
 rotate_left
 ·cases g34
 refine aC (aY rfl rfl rfl rfl) rfl rfl (op_str (aY rfl rfl rfl rfl) Tryz.underlying23 Tryz.underlying5 Tryz.underlying9 rfl (by assumption) (by first|exact aL|exact aZ|exact bB|exact bF|exact bG|exact bH|exact bL|exact bK|exact bJ|exact bM) rfl ?_)
 refine op_eqS (b:= [118,101,114,98]) (aY rfl rfl rfl rfl) rfl rfl rfl (bS (aD rfl) rfl rfl rfl (aC (aD rfl) rfl rfl (At.partP (d:=39) rfl (fun g39=>?_) (fun g39=>?_))))
 rotate_left
 ·exact absurd rfl g39
 refine aC (aY rfl rfl rfl rfl) rfl rfl (aJ (nxga rfl rfl rfl rfl) (.cons rfl .nil) (FLen hT') Tryz.func38 rfl rfl (by simp) rfl ?_)
 rintro v41 L41 ⟨rfl,rfl⟩
 change At _ _ _ [M20,N18,N',N13,N11,N2,R] _
 rw [e3]
 refine op_eql (aY rfl rfl rfl rfl) rfl rfl rfl (bS (aD rfl) rfl rfl rfl (aE (aD rfl) rfl rfl (aA (aB (s_8 (At.ret ((At.sub (L':= [R]) (.cons _ (.cons _ (.cons _ (.cons _ (.cons _ (.cons _ (.cons_cons _ (.slnil)))))))) (aW (L1:= []) rfl (.tmp rfl .nil) (.refl _) (.refl _) ?_)))))))))
 exact⟨rfl,rfl⟩
end Go.Proofs.YtdpjbefeabokgaaGreat
/- The engine, arrays of bytes compared. For whatever program. No condition. -/
namespace Go.Proofs.YtdpjbefeabokgaaGreat
open Go Go.RowKit
theorem all_range8: ∀(xs ys:List UInt8),xs.length=ys.length→((List.range xs.length).all fun i=>xs.getD i 0==ys.getD i 0)=(xs==ys)
 | [],[],_=>rfl
 |x::xs,y::ys,h=>by
  have ih:=all_range8 xs ys (by simpa using h)
  rw [List.length_cons,List.range_succ_eq_map,List.all_cons,List.all_map]
  simp only [List.getD_cons_zero,Function.comp_def,List.getD_cons_succ,ih]
  simp [List.cons_beq_cons]
 | [],_::_,h=>by simp at h
 |_::_,[],h=>by simp at h
section
variable {P : Program}
theorem run_equalIn_bytes8 (w:World) (d:Nat) (t e:TypeId) (n:Nat) (ht:P.underlying t=some (.array n e)) (he:P.underlying e=some (.int .u8)) (hsz: ∀w,(sizeOf e).run P w=.ok 1 w)
 (xs ys:List UInt8) (hx:xs.length=n) (hy:ys.length=n):
 (Op.equalIn (d+2) t (.agg (u8s xs).toArray) (.agg (u8s ys).toArray)).run P w=.ok (xs==ys) w:=by
 rw [←all_range8 xs ys (hx.trans hy.symm),hx,List.range_eq_range',Op.equalIn]
 simp only [Sem.run_bind,Go.run_underlying ht,Result.andThen_ok,hsz,Std.Legacy.Range.forIn_eq_forIn_range',Std.Legacy.Range.size,Nat.sub_zero,Nat.add_sub_cancel,Nat.div_one]
 have hl: ∀i∈List.range' 0 n 1,i<n:=fun i hi=>by simpa using (List.mem_range'_1.1 hi).2
 generalize List.range' 0 n 1=l at hl⊢
 induction l with
 |nil=>simp
 |cons i l ih=>
  have hi:i<n:=hl i (by simp)
  have px:(part e (u8s xs).toArray (i*1)).run P w=.ok (.int .u8 ((xs.getD i 0).toNat:Int)) w:=by
   simp [part,isAgg,Go.run_underlying he,u8s,vb,List.getD,List.getElem?_eq_getElem (show i<xs.length by omega)]
  have py:(part e (u8s ys).toArray (i*1)).run P w=.ok (.int .u8 ((ys.getD i 0).toNat:Int)) w:=by
   simp [part,isAgg,Go.run_underlying he,u8s,vb,List.getD,List.getElem?_eq_getElem (show i<ys.length by omega)]
  have pe:(Op.equalIn (d+1) e (.int .u8 ((xs.getD i 0).toNat:Int)) (.int .u8 ((ys.getD i 0).toNat:Int))).run P w=.ok (xs.getD i 0==ys.getD i 0) w:=by
   rw [run_equalIn_int w d e .u8 .u8 _ _ he]
   congr 1
   rw [Bool.eq_iff_iff]
   simp [←UInt8.toNat_inj]
   omega
  simp only [List.forIn_cons,Sem.run_bind,px,py,pe,Result.andThen_ok,List.all_cons]
  cases hb:(xs.getD i 0==ys.getD i 0)
  ·simp
  ·simp only [Bool.not_true,Bool.false_eq_true,if_false,Sem.run_pure,Result.andThen_ok,Bool.true_and]
   exact ih fun j hj=>hl j (by simp [hj])
variable {n : Nat} {l : List (Nat × Value)} {E : World} {L Ls : List Heaplet} {X Y : Act → World → Prop} {d : Nat} {t t' ty e : TypeId} {x y : Operand}
theorem op_eqW8 {a b:List UInt8} {k:Nat} {pos:_} {aft:_} {g:_} (s:NxF P n l E L Ls ⟨some d,.binOp .eql t x y t',ty,pos,aft,g⟩ X Y) (ht:aelt P t=some (k,e,1)) (he:P.underlying e=some (.int .u8)) (hg:P.eqGuardType P.depth t=false) (hx:ev l x=some (.agg (u8s a).toArray)) (hy:ev l y=some (.agg (u8s b).toArray)) (ha:a.length=k) (hb:b.length=k) (hn:Nat.ble (d+1) n=true) (h:At n ((d,.bool (decide (a=b)))::l) E L Y):At n l E L X:=by
 obtain⟨hu,i,hi,hsz⟩:=aelt_spec ht
 exact op_bin s hx hy (fun w=>eqGuard_agg hg w) (fun w=>by
  rw [run_eql_struct,run_equalIn_bytes8 w 9998 t e k hu he (fun w=>by rw [run_sizeOf hi,hsz]) a b ha hb]
  simp only [Result.andThen_ok,show(a==b)=decide (a=b)from by rw [Bool.eq_iff_iff];simp]) hn h
end
end Go.Proofs.YtdpjbefeabokgaaGreat
/- Layer 12, the statements' helps: one call played on both tries. Conditions: fewer than 1000 keys. -/
namespace Go.Proofs.YtdpjbefeabokgaaGreat
open Go Go.RowKit
set_option maxRecDepth 100000
def opM (d:Int) (k v:List UInt8) (R:List PR):List PR:=if d=1 then putM (k.take 40) (v.take 120) R else if d=2 then delM (k.take 40) R else R
section
variable {Np Nr K : Heaplet} {bp br c : Nat} {R0 : List PR} {ka va : Option Addr} {kn kc vn vc : Nat} {k v : List UInt8} {on dd : Int}
end
end Go.Proofs.YtdpjbefeabokgaaGreat
/- The engine: a contract that leaves more of the caller's own memory alone; a bit of a signed number. For whatever program. No condition. -/
namespace Go.Proofs.YtdpjbefeabokgaaGreat
open Go Go.RowKit
section
variable {P : Program} {f : FuncId} {args : Array Value} {L0 Lr F0 : List Heaplet} {Post Post' : Value → List Heaplet → Prop}
theorem Fn.frame (h:Fn P f args L0 Lr Post) (F0:List Heaplet):Fn P f args (L0++F0) Lr (fun v L=> ∃L1,L=L1++F0∧Post v L1):=fun E w R hw hr=>by
 have hw1:Hp E ((F0++ [R])++L0) w:=hw.perm (by rw [List.append_assoc];exact List.perm_append_comm)
 have hs:=(List.pairwise_append.1 hw1.sep).1
 have hw2:Hp E (L0++ [joinL (F0++ [R])]) w:=hw1.packL.perm (List.perm_append_comm (l₁:= [joinL (F0++ [R])]))
 refine(h E w _ hw2 fun N hN=>Heaplet.le_trans (hr N hN) (le_joinL hs (by simp))).mono ?_
 rintro e w' ⟨v,L1,rfl,hP,hh⟩
 refine⟨v,L1++F0,rfl,⟨L1,rfl,hP⟩,?_⟩
 have h3:Hp E (joinL (F0++ [R])::L1) w':=hh.perm (List.perm_append_comm (l₁:=L1))
 refine(h3.unpackL hs).perm ?_
 rw [List.append_assoc L1]
 exact List.perm_append_comm
theorem Fn.out (h:Fn P f args L0 Lr Post) (hp: ∀v L,Post v L→ ∃L',L.Perm L'∧Post' v L'):Fn P f args L0 Lr Post':=fun E w R hw hr=>by
 refine(h E w R hw hr).mono ?_
 rintro e w' ⟨v,L1,rfl,hP,hh⟩
 obtain⟨L',h1,h2⟩:=hp v L1 hP
 exact⟨v,L',rfl,h2,hh.perm (h1.append_right _)⟩
end
end Go.Proofs.YtdpjbefeabokgaaGreat
/- Layer 12: calls in memory; a call played on one of two sides. Conditions: fewer than 1000 keys. -/
namespace Go.Proofs.YtdpjbefeabokgaaGreat
open Go Go.RowKit
set_option maxRecDepth 100000
theorem flatO_at {α:Type} {k:Nat} (f:α→List Value): ∀ {xs:List α} {i:Nat} {x:α},(∀y∈xs,(f y).length=k)→xs[i]? =some x→((xs.flatMap f).drop (i*k)).take k=f x
 | [],i,x,_,h=>by simp at h
 |y::t,0,x,hl,h=>by
  simp at h;subst h
  rw [Nat.zero_mul,List.drop_zero,List.flatMap_cons,List.take_left' (hl y (by simp))]
 |y::t,i+1,x,hl,h=>by
  rw [List.flatMap_cons,Nat.succ_mul,Nat.add_comm, ←List.drop_drop,List.drop_left' (hl y (by simp))]
  exact flatO_at f (fun z hz=>hl z (by simp [hz])) (by simpa using h)
theorem flatO_len {α:Type} {k:Nat} (f:α→List Value): ∀ {xs:List α},(∀y∈xs,(f y).length=k)→(xs.flatMap f).length=xs.length*k
 | [],_=>by simp
 |y::t,h=>by rw [List.flatMap_cons,List.length_append,h y (by simp),flatO_len f (fun z hz=>h z (by simp [hz])),List.length_cons,Nat.succ_mul,Nat.add_comm]
structure OV where
 on:Int
 dd:Int
 ka:Option Addr
 kn:Nat
 kc:Nat
 va:Option Addr
 vn:Nat
 vc:Nat
 key:List UInt8
 val:List UInt8
def OV.cells (x:OV):List Value:= [.int .i64 x.on,.int .i64 x.dd,.slice x.ka x.kn x.kc,.slice x.va x.vn x.vc]
def OpN (N:Heaplet) (x:OV):Prop:=RSl N 1 x.ka x.kn x.kc (u8s x.key)∧RSl N 1 x.va x.vn x.vc (u8s x.val)
def OpsN (N:Heaplet) (xs:List OV):Prop:= ∀x∈xs,OpN N x
def opsC (xs:List OV):List Value:=xs.flatMap OV.cells
theorem OpsN.le {N M:Heaplet} {xs:List OV} (h:OpsN N xs) (hl:N.le M):OpsN M xs:=fun x hx=>⟨(h x hx).1.le hl,(h x hx).2.le hl⟩
theorem opsC_at {xs:List OV} {i:Nat} {x:OV} (h:xs[i]? =some x):((opsC xs).drop (i*4)).take 4=x.cells:=flatO_at OV.cells (fun _ _=>rfl) h
theorem opsC_len (xs:List OV):(opsC xs).length=xs.length*4:=flatO_len OV.cells (fun _ _=>rfl)
theorem opsC_j {xs:List OV} {i j:Nat} {x:OV} (h:xs[i]? =some x) (hj:j<4):(opsC xs)[i*4+j]? =x.cells[j]? :=by
 rw [←opsC_at h,List.getElem?_take,if_pos hj,List.getElem?_drop]
/-- One side: both tries hold the same map, of at most m keys. -/
def Side (P Q:Heaplet) (bp br m:Nat):Prop:= ∃c R0,TrieN P bp c R0∧RefN Q br R0∧c≤m∧R0.length≤m
theorem Side.up {P Q:Heaplet} {bp br m k:Nat} (h:Side P Q bp br m) (hm:m≤k):Side P Q bp br k:=by
 obtain⟨c,R0,h1,h2,h3,h4⟩:=h
 exact⟨c,R0,h1,h2,Nat.le_trans h3 hm,Nat.le_trans h4 hm⟩
def sideV (x y:Nat):Value:=.agg #[.pointer (some ⟨x,0,none⟩),.pointer (some ⟨y,0,none⟩)]
section
variable {P Q S T K : Heaplet} {x0 y0 x1 y1 m : Nat} {ka va : Option Addr} {kn kc vn vc : Nat} {k v : List UInt8} {on dd : Int}
end
end Go.Proofs.YtdpjbefeabokgaaGreat
/- quarrylaw12.TrieExact answers true. No condition. -/
namespace Go.Proofs.YtdpjbefeabokgaaGreat
open Go Go.RowKit
set_option maxRecDepth 100000
theorem ne_of4 {xs:List OV} {N:Heaplet} {a:Option Addr} {n c:Nat} (h:RSl N 4 a n c (opsC xs)):n=xs.length:=by
 have:=h.1
 rw [opsC_len]at this
 omega
section
variable {N : Heaplet} {ao : Option Addr} {n cap : Nat} {xs : List OV}
end
end Go.Proofs.YtdpjbefeabokgaaGreat
/- From what an argument reads as to the engine's facts; what is read again behind the call. No condition. -/
namespace Go.Proofs.YtdpjbefeabokgaaGreat
open Go Go.RowKit Go.ChangeShapes Go.WideShapes Go.Deep
theorem add_off (a:Addr) (n:Nat):(a.add n).off=a.off+n:=by unfold Addr.add;split<;>simp_all
theorem add_block (a:Addr) (n:Nat):(a.add n).block=a.block:=by unfold Addr.add;split<;>rfl
theorem cellOf_whole {w:World} {a:Addr} {v:Value} (h:w.cell? a=some v):a.spot=none∧cellOf (whole w) a.block a.off=some v:=by
 unfold World.cell? at h
 unfold cellOf whole
 split at h
 ·rename_i c t fr e
  split at h
  ·cases h
  ·rename_i hs
   rw [e]
   exact⟨by simpa using hs,h⟩
 ·cases h
theorem rng_whole {w:World} {a:Addr} {base n size:Nat} {C:Nat→List Value} (h: ∀i,i<n→w.cells? base (a.add (i*size)) size=some (C i)):
 Rng (whole w) a.block a.off ((List.range n).flatMap C)∧((List.range n).flatMap C).length=n*size:=by
 induction n with
 |zero=>exact⟨fun i hi=>by simp at hi,by simp⟩
 |succ n ih=>
  obtain⟨h1,h2⟩:=ih fun i hi=>h i (by omega)
  obtain⟨_,hl,hc⟩:=World.cells?_some (h n (by omega))
  have e:(List.range (n+1)).flatMap C=(List.range n).flatMap C++C n:=by simp [List.range_succ]
  rw [e]
  refine⟨fun i hi=>?_,by rw [List.length_append,h2,hl,Nat.succ_mul]⟩
  by_cases hlt:i<((List.range n).flatMap C).length
  ·rw [List.getElem_append_left hlt];exact h1 i hlt
  ·rw [List.length_append]at hi
   rw [List.getElem_append_right (by omega)]
   have hk:=hc (i- n*size) (by omega)
   rw [List.getElem?_eq_getElem (by omega)]at hk
   have h3:=(cellOf_whole hk).2
   have e2:((a.add (n*size)).add (i- n*size)).off=a.off+i:=by rw [add_off,add_off];omega
   rw [e2,add_block,add_block]at h3
   have e3:i- ((List.range n).flatMap C).length=i- n*size:=by rw [h2]
   simp only [e3]
   exact h3
section
variable {H : Type} {enc : TypeId × Value → H} {P : Program} {w : World} {spare : Nat → Bool} {held : Bool}
theorem open_rsl {t e:TypeId} {fuel:Nat} {cs:List Value} {x:DataW H×List MemPlace} (ht:P.underlying t=some (.slice e)) (hpos:0<P.cellsOf e) (h:DataW.trod enc P w 0 spare held fuel t cs=some x):
 ∃ao n cap C m,cs= [.slice ao n cap]∧RSl (whole w) (P.cellsOf e) ao n cap ((List.range n).flatMap C)∧(n=0∨fuel=m+1)∧
  ∀i,i<n→(C i).length=P.cellsOf e∧ ∃y,DataW.trod enc P w 0 spare held m e (C i)=some y:=by
 rcases DataW.trod_slice ht h with ⟨rfl,_⟩|⟨a,len,cap,elems,rest,n,hf,rfl,rfl,hb,hl,hm,hlen,hel,hsp,hns⟩
 ·exact⟨none,0,0,fun _=> [],0,rfl,⟨by simp,by omega,by simp [maxLen],fun h=>by omega⟩,Or.inl rfl,fun i hi=>by omega⟩
 ·obtain⟨C,hC⟩:=choose_lt (α:=List Value) (p:=fun i c=>w.cells? 0 (a.add (i*P.cellsOf e)) (P.cellsOf e)=some c∧ ∃y,DataW.trod enc P w 0 spare held n e c=some y) (n:=len) (fun i hi=>by
   have:=hel i hi
   rw [List.getElem?_eq_getElem (by omega)]at this
   obtain⟨c,h1,h2⟩:=Option.bind_eq_some_iff.1 this
   exact⟨c,h1,_,h2⟩)
  obtain⟨h1,h2⟩:=rng_whole (fun i hi=>(hC i hi).1)
  refine⟨some a,len,cap,C,n,rfl,⟨h2,hl,hm,fun h0=>?_⟩,Or.inr hf,fun i hi=>⟨(World.cells?_some (hC i hi).1).2.1,(hC i hi).2⟩⟩
  obtain⟨_,hl0,hc0⟩:=World.cells?_some (hC 0 h0).1
  have hk:=hc0 0 hpos
  rw [List.getElem?_eq_getElem (by omega)]at hk
  have hs:=(cellOf_whole hk).1
  have hs':a.spot=none:=by simpa [Addr.add]using hs
  refine⟨a.block,a.off,?_,h1⟩
  cases a;simp at hs';subst hs';rfl
/-- The bytes that a list of cells holds. -/
def u8of:Value→UInt8
 |.int _ q=>UInt8.ofNat q.toNat
 |_=>0
theorem open_u8 {t e:TypeId} {fuel:Nat} {cs:List Value} {x:DataW H×List MemPlace} (ht:P.underlying t=some (.slice e)) (he:P.underlying e=some (.int .u8)) (hc:P.cellsOf e=1) (h:DataW.trod enc P w 0 spare held fuel t cs=some x):
 ∃ao n cap bs,cs= [.slice ao n cap]∧RSl (whole w) 1 ao n cap (u8s bs):=by
 obtain⟨ao,n,cap,C,m,rfl,hr,_,hC⟩:=open_rsl ht (by omega) h
 refine⟨ao,n,cap,((List.range n).flatMap C).map u8of,rfl,?_⟩
 have e:u8s (((List.range n).flatMap C).map u8of)=(List.range n).flatMap C:=by
  unfold u8s
  rw [List.map_map]
  refine(List.map_congr_left (g:=id) fun v hv=>?_).trans (List.map_id _)
  obtain⟨i,hi,hv⟩:=List.mem_flatMap.1 hv
  obtain⟨hl,y,hy⟩:=hC i (List.mem_range.1 hi)
  obtain⟨q,hq,_,hw⟩:=DataW.trod_int he hy
  rw [hq]at hv
  obtain rfl:=List.mem_singleton.1 hv
  have hb:0≤q∧q≤255:=by simpa [Lit.wf,IntKind.min,IntKind.max,IntKind.signed,IntKind.bits]using hw
  simp only [Function.comp,u8of,vb,id]
  have h8:(UInt8.ofNat q.toNat).toNat=q.toNat:=by rw [UInt8.toNat_ofNat'];omega
  rw [h8]
  congr 1
  omega
 rw [e, ←hc]
 exact hr
theorem stays_all {W W':World} {sp:Nat→Bool} (hl:laidOutB P=true): ∀ {ts:List TypeId} {vs:List Value} {ds:List (DataW H)} {ps:List MemPlace},(∀t∈ts,P.readableRec t=true∧t<P.types.size)→
 DataW.TrodAll enc P W 0 (fun _=>true) true ts vs ds ps→(∀p∈ps,W.sameAt W' p)→(∀p∈ps,sp p.block=true)→DataW.TrodAll enc P W' 0 sp true ts vs ds ps
 | [],[],[],_,_,h,_,_=>h
 |t::_,_::_,_::_,_,hr,⟨p,q,h1,h2,e⟩,hs,hb=>⟨p,q,
  Go.WideElems.Trod_stays hl (hr t (by simp)).1 (hr t (by simp)).2 h1 (fun x hx=>hs x (by rw [e];simp [hx])) (fun x hx=>hb x (by rw [e];simp [hx])),
  stays_all hl (fun t ht=>hr t (by simp [ht])) h2 (fun x hx=>hs x (by rw [e];simp [hx])) (fun x hx=>hb x (by rw [e];simp [hx])),e⟩
theorem sameAt_below {W W':World} (h:Below W.heap.size W W') {p:MemPlace} (hp:p.block<W.heap.size):W.sameAt W' p:=by
 cases p with
 |cell b off=>
  show W'.cell? ⟨b,off,none⟩=W.cell? ⟨b,off,none⟩
  have e:W'.heap[b]? =W.heap[b]? :=h.block b hp
  unfold World.cell?
  simp only [e]
 |map b=>exact h.block b hp
/-- A law's last step: it answered v, and all that was there is there as it was. -/
theorem law_post {f:Func} {s:ChangeSpec} {W W':World} {args:Array Value} {v:Value} {r:DataW H} {ds gs:List (DataW H)} {before:List MemPlace} {tr:TypeId}
 (hW:DataW.Whole enc P f.params.toList s.vars false W args.toList ds gs before) (hv:s.vars= [])
 (hs:s.fn H (ds++gs)= { results:= [r],args:=ds }) (hone':v.resultList 1= [v]) (hres:f.resultTypes= #[tr])
 (hr: ∀(b:Nat) (sp:Nat→Bool) (hd:Bool),DataW.Trod enc P W' b sp hd tr v r []) (hok:Value.okWide P W' .any 0 tr v)
 (hl:laidOutB P=true) (ht: ∀t∈f.params.toList,P.readableRec t=true∧t<P.types.size) (hb:Below W.heap.size W W'):
 s.post enc P f false true false false W args v W':=by
 have hlt: ∀p∈before,p.block<W.heap.size:=fun p hp=>hW.lt p hp
 have hW':=hW
 obtain⟨p,q,hA,hV,rfl,hfz,hnd⟩:=hW
 rw [hv]at hV
 obtain⟨rfl,rfl⟩:=trodVars_none hV
 simp only [List.append_nil]at hs hlt hW' hfz
 have again: ∀sp:Nat→Bool,(∀x∈p,sp x.block=true)→DataW.TrodAll enc P W' 0 sp true f.params.toList args.toList ds p:=fun sp hsp=>
  stays_all hl ht hA (fun x hx=>sameAt_below hb (hlt x hx)) hsp
 have hrl:v.resultList f.resultTypes.size= [v]:=by rw [hres];exact hone'
 have hone: ∀(b:Nat) (sp:Nat→Bool) (hd:Bool),DataW.TrodAll enc P W' b sp hd f.resultTypes.toList (v.resultList f.resultTypes.size) [r] []:=fun b sp hd=>by
  rw [hrl,hres];exact⟨[],[],hr b sp hd,rfl,rfl⟩
 have hold: ∀x∈p,(fun b=>decide (b<W.heap.size)) x.block=true:=fun x hx=>by simpa using hlt x hx
 have hvs: ∀sp:Nat→Bool,DataW.TrodVars enc P W' sp s.vars [] []:=fun sp=>by rw [hv];rfl
 refine⟨ds,[],p,[],p,[],by simpa using hW',by simp only [List.append_nil];rw [hs];exact hone _ _ _,by simp only [List.append_nil];rw [hs];exact again _ hold,by simp only [List.append_nil];rw [hs];exact hvs _,
  World.keptBut_mono (fun x hx=>⟨hx,Or.inr (Or.inl hx)⟩) (hb.frame (· ∈p)),fun _=>?_⟩
 refine⟨?_,_,_,([]++p)++ [],⟨[]++p,[],trodAll_append (again _ (fun _ _=>rfl)) (hone _ _ _),hvs _,rfl,?_,?_⟩,?_⟩
 ·intro j t r hj hr
  rw [hrl]at hr
  rw [hres]at hj
  cases j with
  |zero=>simp at hj hr;subst hj;subst hr;exact hok
  |succ j=>simp at hr
 ·intro b off hp
  have hin:MemPlace.cell b off∈p:=by simpa using hp
  rw [hb.frozen (hlt _ hin)]
  exact hfz b off hin
 ·intro ha
  cases ha
 ·intro x hx _
  simpa using hx
end
end Go.Proofs.YtdpjbefeabokgaaGreat
/- Calls, numbers, byte strings as arguments. No condition. -/
namespace Go.Proofs.YtdpjbefeabokgaaGreat
open Go Go.RowKit Go.ChangeShapes Go.WideShapes Go.Deep
set_option maxRecDepth 100000
section
variable {H : Type} {enc : TypeId × Value → H} {w : World} {spare : Nat → Bool} {held : Bool}
theorem struct_opeN {P:Program} {t:TypeId} {fs:Array Field} {fuel:Nat} {cs:List Value} {x:DataW H×List MemPlace} (ht:P.underlying t=some (.struct fs)) (h:DataW.trod enc P w 0 spare held fuel t cs=some x):
 cs.length=P.cellsOf t∧ ∃n, ∀(i:Nat) (f:Field),fs[i]? =some f→ ∃y,DataW.trod enc P w 0 spare held n f.type ((cs.drop f.offset).take (P.cellsOf f.type))=some y:=by
 obtain⟨xs,n,hf,_,hl,hlen,hx⟩:=DataW.trod_struct ht h
 refine⟨hl,n,fun i f hi=>?_⟩
 have hlt:i<xs.length:=by
  obtain⟨h1,_⟩:=Array.getElem?_eq_some_iff.1 hi
  rw [hlen];exact h1
 refine⟨xs[i],?_⟩
 rw [hx i f hi]
 exact List.getElem?_eq_getElem hlt
theorem open_iC {P:Program} {t:TypeId} {fuel:Nat} {cs:List Value} {x:DataW H×List MemPlace} (ht:P.underlying t=some (.int .i64)) (h:DataW.trod enc P w 0 spare held fuel t cs=some x): ∃a:Int,cs= [.int .i64 a]∧ -9223372036854775808≤a∧a≤9223372036854775807:=by
 obtain⟨q,hq,_,hw⟩:=DataW.trod_int ht h
 exact⟨q,hq,by simpa [Lit.wf,IntKind.min,IntKind.max,IntKind.signed,IntKind.bits]using hw⟩
theorem op_cells {fuel:Nat} {cs:List Value} {x:DataW H×List MemPlace} (h:DataW.trod enc Tryz.prog w 0 spare held fuel 60 cs=some x): ∃y:OV,cs=y.cells∧OpN (whole w) y:=by
 obtain⟨hl,k,hx⟩:=struct_opeN Tryz.underlying60 h
 have hl':cs.length=4:=hl.trans (by kernel_rfl)
 obtain⟨y0,h0⟩: ∃y,DataW.trod enc Tryz.prog w 0 spare held k 3 ((cs.drop 0).take (Tryz.prog.cellsOf 3))=some y:=hx 0 _ rfl
 obtain⟨y1,h1⟩: ∃y,DataW.trod enc Tryz.prog w 0 spare held k 3 ((cs.drop 1).take (Tryz.prog.cellsOf 3))=some y:=hx 1 _ rfl
 obtain⟨y2,h2⟩: ∃y,DataW.trod enc Tryz.prog w 0 spare held k 23 ((cs.drop 2).take (Tryz.prog.cellsOf 23))=some y:=hx 2 _ rfl
 obtain⟨y3,h3⟩: ∃y,DataW.trod enc Tryz.prog w 0 spare held k 23 ((cs.drop 3).take (Tryz.prog.cellsOf 23))=some y:=hx 3 _ rfl
 rw [show Tryz.prog.cellsOf 3=1 by kernel_rfl]at h0 h1
 rw [show Tryz.prog.cellsOf 23=1 by kernel_rfl]at h2 h3
 obtain⟨on,e0,_⟩:=open_iC Tryz.underlying3 h0
 obtain⟨dd,e1,_⟩:=open_iC Tryz.underlying3 h1
 obtain⟨ka,kn,kc,kl,e2,rk⟩:=open_u8 Tryz.underlying23 Tryz.underlying5 (by kernel_rfl) h2
 obtain⟨va,vn,vc,vl,e3,rv⟩:=open_u8 Tryz.underlying23 Tryz.underlying5 (by kernel_rfl) h3
 refine⟨⟨on,dd,ka,kn,kc,va,vn,vc,kl,vl⟩,?_,rk,rv⟩
 obtain⟨a,b,c,d,rfl⟩: ∃a b c d,cs= [a,b,c,d]:=by
  match cs,hl' with
  | [a,b,c,d],_=>exact⟨a,b,c,d,rfl⟩
 simp only [List.drop_zero,List.drop_succ_cons,List.take_succ_cons,List.take_zero,List.cons.injEq,and_true]at e0 e1 e2 e3
 rw [e0,e1,e2,e3];rfl
theorem each_open {α:Type} {f:α→List Value} {Q:α→Prop} {n:Nat} {C:Nat→List Value} (h: ∀i,i<n→ ∃y,C i=f y∧Q y): ∃xs:List α,(List.range n).flatMap C=xs.flatMap f∧ ∀x∈xs,Q x:=by
 induction n with
 |zero=>exact⟨[],rfl,fun x hx=>by cases hx⟩
 |succ n ih=>
  obtain⟨xs,e,hi⟩:=ih fun i hi=>h i (by omega)
  obtain⟨y,e2,hx⟩:=h n (by omega)
  refine⟨xs++ [y],?_,fun z hz=>?_⟩
  ·simp only [List.range_succ,List.flatMap_append,List.flatMap_cons,List.flatMap_nil,List.append_nil,e,e2]
  ·rcases List.mem_append.1 hz with hz|hz
   ·exact hi z hz
   ·rw [List.mem_singleton.1 hz];exact hx
theorem open_ops {r:Reach} {b0:Nat} {v:Value} {d:DataW H} {ps:List MemPlace} (hval:Value.okWide Tryz.prog w r b0 31 v) (hd:DataW.Trod enc Tryz.prog w 0 spare held 31 v d ps):
 ∃ao n cap xs,v=.slice ao n cap∧RSl (whole w) 4 ao n cap (opsC xs)∧OpsN (whole w) xs:=by
 obtain⟨ao',n',cap',rfl⟩:=okWide_slice Tryz.underlying31 hval
 obtain⟨fuel,hf⟩:=hd
 have hc:Tryz.prog.cellsOf 60=4:=by kernel_rfl
 obtain⟨ao,n,cap,C,m,e,hr,_,hC⟩:=open_rsl Tryz.underlying31 (by rw [hc];decide) hf
 rw [hc]at hr
 obtain⟨xs,h1,h2⟩:=each_open (f:=OV.cells) (Q:=OpN (whole w)) (n:=n) (C:=C) fun i hi=>by
  obtain⟨_,y,hy⟩:=hC i hi
  exact op_cells hy
 rw [h1]at hr
 exact⟨ao,n,cap,xs,(List.cons.inj e).1,hr,h2⟩
end
end Go.Proofs.YtdpjbefeabokgaaGreat
/- Bytes as an argument. No condition. -/
namespace Go.Proofs.YtdpjbefeabokgaaGreat
open Go Go.RowKit Go.ChangeShapes Go.WideShapes Go.Deep
set_option maxRecDepth 100000
section
variable {H : Type} {enc : TypeId × Value → H} {w : World} {spare : Nat → Bool} {held : Bool}
theorem open_bytes {r:Reach} {b0:Nat} {v:Value} {d:DataW H} {ps:List MemPlace} (hval:Value.okWide Tryz.prog w r b0 23 v) (hd:DataW.Trod enc Tryz.prog w 0 spare held 23 v d ps):
 ∃ao n cap bs,v=.slice ao n cap∧RSl (whole w) 1 ao n cap (u8s bs):=by
 obtain⟨ao',n',cap',rfl⟩:=okWide_slice Tryz.underlying23 hval
 obtain⟨fuel,hf⟩:=hd
 obtain⟨ao,n,cap,bs,e,h⟩:=open_u8 Tryz.underlying23 Tryz.underlying5 (by kernel_rfl) hf
 exact⟨ao,n,cap,bs,(List.cons.inj e).1,h⟩
end
end Go.Proofs.YtdpjbefeabokgaaGreat
/- Layer 12: does a row begin so. No condition. -/
namespace Go.Proofs.YtdpjbefeabokgaaGreat
open Go Go.RowKit
set_option maxRecDepth 100000
section
variable {N M : Heaplet} {a b : Option Addr} {n c m d : Nat} {x y : List UInt8}
theorem FEqualP (h:RSl N 1 a n c (u8s x)) (h2:RSl M 1 b m d (u8s y)):Fn Tryz.prog 95 #[.slice a n c,.slice b m d] [] [N,M] (fun v L=>v=.bool (decide (x=y))∧L= []):=by
 refine Fn.enter (vs:= [.slice a n c,.slice b m d]) Tryz.func95 rfl rfl rfl ?_
 intro E R hR
 have h:=h.le (hR N (by simp))
 have h2:=h2.le (hR M (by simp))
 change At _ _ E [R] _
 refine At.seq fun _ s_1=>At.region (aE (aD rfl) rfl rfl (aA (aB (s_1 (At.seq fun _ s_2=>At.region (aC (aD rfl) rfl rfl (op_str (aD rfl) Tryz.underlying23 Tryz.underlying5 Tryz.underlying9 rfl (by assumption) (by first|exact aL|exact aZ|exact bB|exact bF|exact bG|exact bH|exact bL|exact bK|exact bJ|exact bM) rfl ?_)))))))
 refine aC (aD rfl) rfl rfl (op_str (aD rfl) Tryz.underlying23 Tryz.underlying5 Tryz.underlying9 rfl (by assumption) (by first|exact aL|exact aZ|exact bB|exact bF|exact bG|exact bH|exact bL|exact bK|exact bJ|exact bM) rfl ?_)
 refine op_eqS (aD rfl) rfl rfl rfl (aE (aD rfl) rfl rfl (aA (aB (s_2 (At.ret ((aW (L1:= []) rfl (.tmp rfl .nil) (.refl _) (.refl _) ?_)))))))
 exact⟨rfl,rfl⟩
theorem FHasPrefix (h:RSl N 1 a n c (u8s x)) (h2:RSl M 1 b m d (u8s y)):Fn Tryz.prog 67 #[.slice a n c,.slice b m d] [] [N,M] (fun v L=>v=.bool (decide (y<+:x))∧L= []):=by
 have hx:=h.len8
 have hy:=h2.len8
 have hc:=h.2.1
 have hpt:m≤n→(decide (x.take m=y)=decide (y<+:x)):=fun hmn=>by
  rw [decide_eq_decide,List.prefix_iff_eq_take,hy]
  exact⟨fun e=>e.symm,fun e=>e.symm⟩
 have hpf: ¬m≤n→decide (y<+:x)=false:=fun hmn=>by
  rw [decide_eq_false_iff_not]
  intro hp
  have:=hp.length_le
  omega
 refine Fn.enter (vs:= [.slice a n c,.slice b m d]) Tryz.func67 rfl rfl rfl ?_
 intro E R hR
 have h:=h.le (hR N (by simp))
 have h2:=h2.le (hR M (by simp))
 change At _ _ E [R] _
 refine At.seq fun _ s_1=>At.region (aE (aD rfl) rfl rfl (aA (aB (s_1 (At.seq fun _ s_2=>At.region (aC (aD rfl) rfl rfl (aU (aD rfl) se23 rfl rfl (aC (aD rfl) rfl rfl (aU (aD rfl) se23 rfl rfl (op_geq (aD rfl) rfl rfl rfl (aC (aD rfl) rfl rfl (At.partP (d:=10) rfl (fun g10=>?_) (fun g10=>?_)))))))))))))
 ·refine aC (aY rfl rfl rfl rfl) rfl rfl (aC (aY rfl rfl rfl rfl) rfl rfl (aU (aY rfl rfl rfl rfl) se23 rfl rfl (op_slice0 (aY rfl rfl rfl rfl) se23 rfl (.some rfl (show _=(((m:Nat)):Int)from by omega)) .none (by omega) (by omega) (by simp) rfl ?_)))
  refine aC (aY rfl rfl rfl rfl) rfl rfl (aJ (nxga rfl rfl rfl rfl) (.cons rfl (.cons rfl .nil)) (FEqualP (h.take8 (hi:=m) (m:=c) (by omega) (Nat.le_refl _) (by omega)) h2) Tryz.func95 rfl rfl (by simp) rfl ?_)
  rintro v16 L16 ⟨rfl,rfl⟩
  change At _ _ _ [R] _
  refine bS (aD rfl) rfl rfl rfl (aE (aD rfl) rfl rfl (aA (aB (s_2 (At.ret ((aW (L1:= []) rfl (.tmp rfl .nil) (.refl _) (.refl _) ?_)))))))
  exact⟨by rw [hpt (by omega)],rfl⟩
 refine aH rfl rfl rfl rfl rfl rfl rfl (aH rfl rfl rfl rfl rfl rfl rfl (aH rfl rfl rfl rfl rfl rfl rfl (aH rfl rfl rfl rfl rfl rfl rfl (aH rfl rfl rfl rfl rfl rfl rfl (aH rfl rfl rfl rfl rfl rfl rfl (bR (aD rfl) rfl rfl rfl (aE (aD rfl) rfl rfl (aA (aB (s_2 (At.ret ((aW (L1:= []) rfl (.tmp rfl .nil) (.refl _) (.refl _) ?_)))))))))))))
 exact⟨by rw [hpf (by omega)],rfl⟩
end
end Go.Proofs.YtdpjbefeabokgaaGreat
/- Layer 12: one step down the trie. No condition but bounds. -/
namespace Go.Proofs.YtdpjbefeabokgaaGreat
open Go Go.RowKit
set_option maxRecDepth 100000
def StepY (Ns:List Heaplet) (K:Heaplet) (g:Nat) (l:List PR) (row:List UInt8) (v:Value) (L:List Heaplet):Prop:=
 (∃m r ys Q a c b d,stepF l row=some (m,r)∧v=.tuple #[.slice a ys.length c,.slice b r.length d,.bool true]∧L= [Q]∧PsL (Q::Ns) g m ys a ys.length c∧RSl K 1 b r.length d (u8s r)∧Fit g m)∨
 (∃v1 v2 Q,stepF l row=none∧v=.tuple #[v1,v2,.bool false]∧L= [Q])
set_option maxHeartbeats 1000000 in
theorem FStep {f:Nat} (Ns:List Heaplet) (K:Heaplet) (l:List PR) (xs:List PV) (ao ro:Option Addr) (n cap rn rc:Nat) (row:List UInt8) (h:PsL Ns (f+1) l xs ao n cap) (hr:RSl K 1 ro rn rc (u8s row)):Fn Tryz.prog 43 #[.slice ao n cap,.slice ro rn rc] [] (K::Ns) (StepY Ns K f l row):=by
 have hrl:=hr.len8
 have hrc:=hr.2.1
 refine Fn.enter (vs:= [.slice ao n cap,.slice ro rn rc]) Tryz.func43 rfl rfl rfl ?_
 intro E R hR
 have hP:=h
 have h:=h R (fun N hN=>hR N (by simp [hN]))
 have hrR:=hr.le (hR K (by simp))
 have hxn:=h.xn
 have hs:=h.row
 have hsmall:=h.small
 change At _ _ E [R] _
 refine At.seq fun _ s_1=>At.region (aE (aD rfl) rfl rfl (aE (aD rfl) rfl rfl (aE (aD rfl) rfl rfl (aA (aB (s_1 (At.seq fun _ s_2=>At.seq fun _ s_3=>At.region (aC (aD rfl) rfl rfl (aU (aD rfl) se80 rfl rfl (op_lss (aD rfl) rfl rfl rfl (aA (aB (s_3 (aK rfl (fun c11=>?_) (fun c11=>?_)))))))))))))))
 ·refine At.seq fun _ s_4=>At.region (aE (aD rfl) rfl rfl (aE (aD rfl) rfl rfl (aE (aD rfl) rfl rfl (aA (aB (s_4 (At.ret (aM ((At.empty (bP (L1:= [nilH]) rfl (.tmp rfl (.tmp rfl (.tmp rfl .nil))) rfl (.refl _) (.refl _) ?_)))))))))))
  exact .inr ⟨_,_,nilH,by unfold stepF;rw [if_pos (by omega)],rfl,rfl⟩
 have h2:2≤l.length:=by omega
 obtain⟨p,q,hp,hq,hh,hl⟩:=head_last h2
 have hpm:p∈l:=List.mem_of_getElem? hp
 obtain⟨p',x,hp',hx,hpx⟩:=h.ps.at (i:=0) (by omega)
 obtain rfl:p=p':=Option.some.inj (hp.symm.trans hp')
 have hsm:ao.isSome=true:=hs.isSome (by omega)
 have srow:=hpx.row
 have hxrn:=hpx.rn
 have hxrc:=srow.cap63
 have hsml:=h.fit.sml p hpm
 obtain⟨k,hk⟩: ∃k,shar l=k:=⟨_,rfl⟩
 have hkl: ∀y∈l,k≤y.1.length:=fun y hy=>(shar_take hy hy (Nat.le_of_eq hk.symm)).2
 have hkp:=hkl p hpm
 have hhd:(l.headD ([],[])).1=p.1:=by cases l with|nil=>simp at h2|cons y r=>simp at hp;rw [List.headD_cons,hp]
 have hfs:=FShared hs h.ps h.small hp hq (by omega)
 rw [show lcp p.1 q.1=k from by rw [←hk,shar_ends h.ris p q hh hl]]at hfs
 have hcut:=FCut hs hxn.1 (h.ps.rows hkl) h.small
 refine At.skip (aB (s_2 (At.seq fun _ s_5=>At.region (aC (aD rfl) rfl rfl (aJ (bA rfl) (.cons rfl .nil) (hfs) Tryz.func66 rfl rfl (by simp) rfl ?_)))))
 rintro v13 L13 ⟨rfl,rfl⟩
 change At _ _ _ [R] _
 refine aE (aD rfl) rfl rfl (aA (aB (s_5 (At.seq fun _ s_6=>At.block (At.seq fun _ s_7=>At.region (aC (aD rfl) rfl rfl (op_gtr (aD rfl) rfl rfl rfl (aC (aD rfl) rfl rfl (At.partP (d:=17) rfl (fun g17=>?_) (fun g17=>?_))))))))))
 ·refine aC (aY rfl rfl rfl rfl) rfl rfl (aC (aY rfl rfl rfl rfl) rfl rfl (op_idxE (aY rfl rfl rfl rfl) se80 rfl rfl hs (show _=(((0:Nat)):Int)from by omega) (by omega) rfl ?_))
  refine bQ (aY rfl rfl rfl rfl) fl110_0 rfl (by first|rfl|assumption) rfl ?_
  refine aT (aY rfl rfl rfl rfl) sc23 rfl hs (by first|exact get8 (by omega)|exact bT (by omega)|exact bU (by omega)|exact cellsP_row hx) (by first|exact aL|exact aZ|exact bB|exact bF|exact bG|exact bH|exact bL|exact bK|exact bJ|exact bM) rfl ?_
  refine aC (aY rfl rfl rfl rfl) rfl rfl (op_slice0 (aY rfl rfl rfl rfl) se23 rfl (.some rfl (show _=(((k:Nat)):Int)from by omega)) .none (by omega) (by omega) (by simp) rfl ?_)
  refine aJ (nxga rfl rfl rfl rfl) (.cons rfl (.cons rfl .nil)) (FHasPrefix hrR (srow.take8 (hi:=k) (m:=x.rc) (by omega) (Nat.le_refl _) (by omega))) Tryz.func67 rfl rfl (by simp) rfl ?_
  rintro v25 L25 ⟨rfl,rfl⟩
  change At _ _ _ [R] _
  refine bS (aD rfl) rfl rfl rfl (aE (aD rfl) rfl rfl (aA (aB (s_7 (aK rfl (fun c14=>?_) (fun c14=>?_))))))
  ·have hpre:p.1.take k<+:row:=by simpa using c14
   have hkrow:=hpre.length_le
   rw [List.length_take]at hkrow
   refine At.seq fun _ s_8=>At.drawnS [R] [] [3,4] [0,1,3,4,5,2,6,7,8] (by kernel_rfl) (by kernel_rfl) (.refl _) (aC (aX rfl rfl rfl) rfl rfl (aC (aX rfl rfl rfl) rfl rfl (aC (aX rfl rfl rfl) rfl rfl (aC (aX rfl rfl rfl) rfl rfl (op_slice (aX rfl rfl rfl) se23 rfl (.some rfl (show _=(((k:Nat)):Int)from by omega)) .none .none (by omega) (by omega) (by omega) (by simp) rfl ?_)))))
   refine aJ (Nx.agree (nxsm rfl rfl rfl)) (.cons rfl (.cons rfl .nil)) (hcut) Tryz.func68 rfl rfl (by simp) rfl ?_
   rintro v29 L29 ⟨N29,a29,c29,rfl,rfl,r29⟩
   change At _ _ _ [N29,R] _
   refine At.moreS (Lst:= [R]) (Lst':= [N29,R]) (.cons _ (.refl _)) (.refl _) (aE (aX rfl rfl rfl) rfl rfl (aE (aX rfl rfl rfl) rfl rfl (aE (aX rfl rfl rfl) rfl rfl (At.sNil (aB (s_8 (At.ret (At.inRet (aM ((bP (L1:= [N29]) rfl (.tmp rfl (.tmp rfl (.tmp rfl .nil))) rfl (.refl _) (.refl _) ?_)))))))))))
   refine .inl ⟨cutR k l,row.drop k,xs.map (PV.cut k),N29,a29,c29,sadr ro k rc 1,rc- k,?_,by rw [List.length_drop,hrl],rfl,fun J hJ=>?_,by rw [List.length_drop,hrl];exact hr.drop8 (by omega),h.fit.cut (Nat.le_of_eq hk.symm) (by omega)⟩
   ·unfold stepF;rw [if_neg (by omega),hk,if_pos (by omega),hhd,if_pos hpre]
   ·have h3:=hP J fun N hN=>hJ N (List.mem_cons_of_mem _ hN)
    exact⟨r29.rsl.le (hJ N29 (List.mem_cons_self ..)),h3.ps.take_cut hkl,hk▸h3.ris.cuts,h3.fit.cut (Nat.le_of_eq hk.symm) (by omega),by rw [List.length_map,hxn.1];exact hsmall⟩
  refine At.seq fun _ s_9=>At.region (aC (aD rfl) rfl rfl (op_gtr (aD rfl) rfl rfl rfl (aC (aD rfl) rfl rfl (At.partP (d:=36) rfl (fun g36=>?_) (fun g36=>?_)))))
  rotate_left
  ·exfalso;omega
  refine aH rfl rfl rfl rfl rfl rfl rfl (aH rfl rfl rfl rfl rfl rfl rfl (aH rfl rfl rfl rfl rfl rfl rfl (bS (aD rfl) rfl rfl rfl (aE (aD rfl) rfl rfl (aA (aB (s_9 (At.condT rfl (At.seq fun _ s_10=>At.region (aE (aD rfl) rfl rfl (aE (aD rfl) rfl rfl (aE (aD rfl) rfl rfl (aA (aB (s_10 (At.ret (At.inRet (aM ((At.empty (bP (L1:= [nilH]) rfl (.tmp rfl (.tmp rfl (.tmp rfl .nil))) rfl (.refl _) (.refl _) ?_)))))))))))))))))))))
  have hnp: ¬p.1.take k<+:row:=by simpa using c14
  exact .inr ⟨_,_,nilH,by unfold stepF;rw [if_neg (by omega),hk,if_pos (by omega),hhd,if_neg hnp],rfl,rfl⟩
 refine aH rfl rfl rfl rfl rfl rfl rfl (aH rfl rfl rfl rfl rfl rfl rfl (aH rfl rfl rfl rfl rfl rfl rfl (aH rfl rfl rfl rfl rfl rfl rfl (aH rfl rfl rfl rfl rfl rfl rfl (aH rfl rfl rfl rfl rfl rfl rfl (aH rfl rfl rfl rfl rfl rfl rfl (aH rfl rfl rfl rfl rfl rfl rfl (bR (aD rfl) rfl rfl rfl (aE (aD rfl) rfl rfl (aA (aB (s_7 (At.condF rfl (At.seq fun _ s_11=>At.region (aC (aD rfl) rfl rfl (op_gtr (aD rfl) rfl rfl rfl (aC (aD rfl) rfl rfl (At.partP (d:=36) rfl (fun g36=>?_) (fun g36=>?_)))))))))))))))))))
 ·exfalso;omega
 refine aC (aY rfl rfl rfl rfl) rfl rfl (aU (aY rfl rfl rfl rfl) se23 rfl rfl (op_eql (aY rfl rfl rfl rfl) rfl rfl rfl (bR (aD rfl) rfl rfl rfl (aE (aD rfl) rfl rfl (aA (aB (s_11 (aK rfl (fun c33=>?_) (fun c33=>?_)))))))))
 ·refine At.seq fun _ s_12=>At.region (aE (aD rfl) rfl rfl (aE (aD rfl) rfl rfl (aE (aD rfl) rfl rfl (aA (aB (s_12 (At.ret (At.inRet (aM ((At.empty (bP (L1:= [nilH]) rfl (.tmp rfl (.tmp rfl (.tmp rfl .nil))) rfl (.refl _) (.refl _) ?_))))))))))))
  have e:row= []:=List.eq_nil_of_length_eq_zero (by omega)
  exact .inr ⟨_,_,nilH,by rw [e];unfold stepF;rw [if_neg (by omega),hk,if_neg (by omega)],rfl,rfl⟩
 refine At.skip (aR (aB (s_6 (At.seq fun _ s_13=>At.region (aC (aD rfl) rfl rfl (aC (aD rfl) rfl rfl (bI (aD rfl) se23 rfl rfl hrR (show _=(((0:Nat)):Int)from by omega) (by omega) rfl ?_)))))))
 refine aT (aD rfl) sc5 rfl hrR (by first|exact get8 (by omega)|exact bT (by omega)|exact bU (by omega)) (by first|exact aL|exact aZ|exact bB|exact bF|exact bG|exact bH|exact bL|exact bK|exact bJ|exact bM) rfl ?_
 refine aJ (bA rfl) (.cons rfl (.cons rfl .nil)) (FUnder hs h.ps hsmall (row.getD 0 0)) Tryz.func69 rfl rfl (by simp) rfl ?_
 rintro v45 L45 ⟨ys45,⟨N45,a45,c45,rfl,rfl,r45⟩,hp45⟩
 change At _ _ _ [N45,R] _
 refine aE (aD rfl) rfl rfl (aA (aB (s_13 (At.seq fun _ s_14=>At.drawn [] [0,1,2,3,4,5,6,7,8] (by kernel_rfl) (by kernel_rfl) (aC (aN rfl rfl rfl (by kernel_rfl)) rfl rfl (aC (aN rfl rfl rfl (by kernel_rfl)) rfl rfl (op_slice (aN rfl rfl rfl (by kernel_rfl)) se23 rfl (.some rfl (show _=((1:Nat):Int)from rfl)) .none .none (by omega) (by omega) (by omega) (by simp) rfl (aC (aN rfl rfl rfl (by kernel_rfl)) rfl rfl (aU (aN rfl rfl rfl (by kernel_rfl)) se80 rfl rfl (op_gtr (aN rfl rfl rfl (by kernel_rfl)) rfl rfl rfl (aE (aN rfl rfl rfl (by kernel_rfl)) rfl rfl (aE (aN rfl rfl rfl (by kernel_rfl)) rfl rfl (aE (aN rfl rfl rfl (by kernel_rfl)) rfl rfl (At.oneNil (aB (s_14 (At.ret ((bP (L1:= [N45]) rfl (.tmp rfl (.tmp rfl (.tmp rfl .nil))) rfl (.refl _) (.refl _) ?_)))))))))))))))))))
 obtain⟨ch,r,rfl⟩: ∃ch r,row=ch::r:=by
  cases row with
  |nil=>simp at hrl;omega
  |cons a t=>exact⟨a,t,rfl⟩
 have hp45: ∀J:Heaplet,PsN J l xs→PsN J (cutR 1 (undR ch l)) ys45:=hp45
 have hlen45:=(hp45 R h.ps).len
 have hrn1:r.length=rn- 1:=by rw [←hrl];rfl
 by_cases e:cutR 1 (undR ch l)= []
 ·have e0:ys45.length=0:=by rw [hlen45,e];rfl
  refine .inr ⟨_,_,N45,?_,by rw [e0];rfl,rfl⟩
  unfold stepF
  rw [if_neg (by omega),hk,if_neg (by omega)]
  exact if_pos e
 ·have e1:0<ys45.length:=by rw [hlen45];exact List.length_pos_iff.2 e
  refine .inl ⟨cutR 1 (undR ch l),r,ys45,N45,a45,c45,sadr ro 1 rc 1,rc- 1,?_,?_,rfl,fun J hJ=>?_,?_,h.fit.und ch⟩
  ·unfold stepF
   rw [if_neg (by omega),hk,if_neg (by omega)]
   exact if_neg e
  ·rw [hrn1];simp [e1]
  ·have h3:=hP J fun N hN=>hJ N (List.mem_cons_of_mem _ hN)
   have h6:=hp45 J h3.ps
   have hle:ys45.length≤n:=by
    rw [h6.len,cutR,List.length_map, ←hxn.2];exact List.length_filter_le _ _
   exact⟨r45.rsl.le (hJ N45 (List.mem_cons_self ..)),h6,h3.ris.und ch,h3.fit.und ch,by omega⟩
  ·rw [hrn1];exact hr.drop8 (lo:=1) (by omega)
end Go.Proofs.YtdpjbefeabokgaaGreat
/- Layer 12 in plain words: forms on a row's way do not hang on the order of the pairs. No condition. -/
namespace Go.Proofs.YtdpjbefeabokgaaGreat
open Go Go.RowKit
def Alike (a b:Option (List PR×List UInt8)):Prop:=match a,b with
 |none,none=>True
 |some (m,r),some (m',r')=>m.Perm m'∧r=r'∧Dis m
 |_,_=>False
theorem step_alike {l l':List PR} (row:List UInt8) (hd:Dis l) (hp:l.Perm l'):Alike (stepF l row) (stepF l' row):=by
 unfold stepF
 rw [←hp.length_eq, ←shar_perm hp]
 by_cases h2:l.length<2
 ·rw [if_pos h2,if_pos h2];trivial
 ·rw [if_neg h2,if_neg h2]
  by_cases hs:0<shar l
  ·rw [if_pos hs,if_pos hs]
   have hh:(l.headD ([],[])).1.take (shar l)=(l'.headD ([],[])).1.take (shar l):=by
    cases l with
    |nil=>simp at h2
    |cons p t=>
     cases l' with
     |nil=>exact absurd hp.length_eq (by simp)
     |cons q u=>exact(shar_take (List.mem_cons_self ..) (hp.mem_iff.2 (List.mem_cons_self ..)) (Nat.le_refl _)).1
   rw [←hh]
   split
   ·exact⟨hp.map _,rfl,hd.cut (Nat.le_refl _)⟩
   ·trivial
  ·rw [if_neg hs,if_neg hs]
   cases row with
   |nil=>trivial
   |cons c r=>
    have hq:(cutR 1 (undR c l)).Perm (cutR 1 (undR c l')):=(hp.filter _).map _
    by_cases e:cutR 1 (undR c l)= []
    ·have e':cutR 1 (undR c l')= []:=by rw [e]at hq;exact hq.nil_eq.symm
     simp only [e,e',if_true];trivial
    ·have e': ¬cutR 1 (undR c l')= []:=fun k=>e (by rw [k]at hq;exact hq.eq_nil)
     simp only [e,e',if_false]
     exact⟨hq,rfl,hd.und c⟩
theorem prove_alike {f:Nat} (ih: ∀ {l l':List PR} (row:List UInt8),Dis l→l.Perm l'→proveF f l row=proveF f l' row) {l l':List PR} {row:List UInt8} (h:Alike (stepF l row) (stepF l' row)):proveF (f+1) l row=proveF (f+1) l' row:=by
 rw [proveF,proveF]
 cases h1:stepF l row with
 |none=>
  cases h2:stepF l' row with
  |none=>rfl
  |some q=>rw [h1,h2]at h;exact h.elim
 |some p=>
  cases h2:stepF l' row with
  |none=>rw [h1,h2]at h;exact h.elim
  |some q=>
   obtain⟨m,r⟩:=p
   obtain⟨m',r'⟩:=q
   rw [h1,h2]at h
   obtain⟨hp,rfl,hd⟩:=h
   simp only [node_perm f hd hp,ih r hd hp]
theorem prove_perm: ∀(f:Nat) {l l':List PR} (row:List UInt8),Dis l→l.Perm l'→proveF f l row=proveF f l' row
 |0,_,_,_,_,_=>rfl
 |f+1,_,_,row,hd,hp=>prove_alike (fun row hd hp=>prove_perm f row hd hp) (step_alike row hd hp)
end Go.Proofs.YtdpjbefeabokgaaGreat
/- Layer 12: the proof of a key, the program's. Conditions: up to 1000000 keys. -/
namespace Go.Proofs.YtdpjbefeabokgaaGreat
open Go Go.RowKit
set_option maxRecDepth 100000
def ProveP (fs:List (List UInt8)) (v:Value) (L:List Heaplet):Prop:= ∃Q a c us,v=.slice a fs.length c∧L= [Q]∧RSl Q 1 a fs.length c us∧Bags Q us fs
def provM (R:List PR) (k:List UInt8):List (List UInt8):=(nodeF 81 (prs R)).form::proveF 81 (prs R) (nibs k)
theorem step_ne {l m:List PR} {row r:List UInt8} (h:stepF l row=some (m,r)):m≠ []:=by
 unfold stepF at h
 split at h
 ·cases h
 ·rename_i h2
  split at h
  ·split at h
   ·simp only [Option.some.injEq,Prod.mk.injEq]at h
    intro e
    rw [e]at h
    have:=congrArg List.length h.1
    rw [cutR,List.length_map]at this
    simp at this
    rw [this]at h2
    simp at h2
   ·cases h
  ·split at h
   ·cases h
   ·split at h
    ·cases h
    ·rename_i h3
     simp only [Option.some.injEq,Prod.mk.injEq]at h
     intro e
     exact h3 (h.1.trans e)
end Go.Proofs.YtdpjbefeabokgaaGreat
/- Layer 12: the proof of a key, the program's walk. Conditions: up to 1000000 keys. -/
namespace Go.Proofs.YtdpjbefeabokgaaGreat
open Go Go.RowKit
set_option maxRecDepth 100000
theorem prov_perm {R S:List PR} {k:List UInt8} (hD:Dis R) (h:S.Perm R): [(nodeF 81 (prs S)).form]++proveF (80+1) (prs S) (nibs k)=provM R k:=by
 have hd:Dis (prs S):=(hD.perm h.symm).prs
 have hp:(prs S).Perm (prs R):=h.map _
 rw [provM,node_perm 81 hd hp,prove_perm 81 (nibs k) hd hp];rfl
theorem depth_pos {g:Nat} {m:List PR} (h:m≠ []) (hf:Fit g m): ∃g2,g=g2+1:=by
 cases g with
 |succ g=>exact⟨g,rfl⟩
 |zero=>
  cases m with
  |nil=>exact absurd rfl h
  |cons p t=>exact absurd (hf.len p (List.mem_cons_self ..)) (Nat.not_lt_zero _)
theorem hall_go {g:Nat} {l m:List PR} {row r:List UInt8} {out fs:List (List UInt8)} (hall:out++proveF (g+1) l row=fs) (hst:stepF l row=some (m,r)):out++((if 32≤(nodeF g m).form.length then [(nodeF g m).form]else [])++proveF g m r)=fs:=by
 rw [←hall,proveF,hst]
theorem hall_end {g:Nat} {l:List PR} {row:List UInt8} {out fs:List (List UInt8)} (hall:out++proveF (g+1) l row=fs) (hst:stepF l row=none):out=fs:=by
 rw [←hall,proveF,hst,List.append_nil]
theorem psl_up {Q W W2 R:Heaplet} {g:Nat} {l:List PR} {xs:List PV} {a:Option Addr} {n c:Nat} (h:PsL (Q:: [W,R]) g l xs a n c) (h1:W.le W2) (h2:Q.le W2):PsL [W2,R] g l xs a n c:=fun J hJ=>h J fun N hN=>by
 have a1:=hJ W2 (by simp)
 have a2:=hJ R (by simp)
 simp only [List.mem_cons,List.not_mem_nil,or_false]at hN
 rcases hN with rfl|rfl|rfl
 ·exact Heaplet.le_trans h2 a1
 ·exact Heaplet.le_trans h1 a1
 ·exact a2
section
variable {Nt K : Heaplet} {bt c : Nat} {R0 : List PR} {ka : Option Addr} {kn kc : Nat} {k : List UInt8}
end
end Go.Proofs.YtdpjbefeabokgaaGreat
/- The engine: a cell read that lies in some of the parts of the memory, it is not told in which. For whatever program. No condition. -/
namespace Go.Proofs.YtdpjbefeabokgaaGreat
open Go Go.RowKit
section
variable {P : Program} {n : Nat} {l : List (Nat × Value)} {E : World} {L L1 Ls Ns : List Heaplet} {o : Oper} {X Y : Act → World → Prop} {N : Heaplet}
variable {d : Nat} {ty t t' e : TypeId} {pos : String} {aft : Array Edge} {g : Option (Nat × Bool)} {v : Value} {x y z : Operand} {k : IntKind} {p q : Int} {size len cap : Nat} {ao : Option Addr} {xs : List Value} {b off j : Nat}
theorem At.ex {K:Act→World→Prop} {φ:Heaplet→Prop} (hφ: ∀J:Heaplet,(∀N∈Ns,N.le J)→φ J) (hN: ∀N∈Ns,N∈L) (h: ∀J,φ J→At n l E L K):At n l E L K:=fun a w hf hw=>
 h (whole w) (hφ (whole w) fun N hn=>hw.sub N (hN N hn)) a w hf hw
end
end Go.Proofs.YtdpjbefeabokgaaGreat
