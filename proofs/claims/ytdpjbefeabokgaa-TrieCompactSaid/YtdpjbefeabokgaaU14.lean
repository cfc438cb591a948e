/- Several texts in one: see the remarks ahead of each part. No condition but those told there. -/
import Derived.Test.YtdpjbefeabokgaaU13
import Derived.Test.YtdpjbefeabokgaaUKE8
import Derived.Test.YtdpjbefeabokgaaU6
import Derived.Test.YtdpjbefeabokgaaU8
import Derived.Stop.BytesEq
import Derived.Test.YtdpjbefeabokgaaU10
import Derived.Test.YtdpjbefeabokgaaU4
import Derived.WalkKit
import Derived.ProofKit
import Derived.OpenShut
import Derived.Below
import Derived.ChangeSame
import Derived.WideKeyArgs
import Derived.Deep.Slices
import Derived.Test.YtdpjbefeabokgaaU5
set_option linter.unusedSimpArgs false
set_option linter.unusedVariables false
/- Layer 12, the statements' helps: keys and values cut, two tries that play one call. No condition but bounds. -/
namespace Go.Proofs.Ytdpjbefeabokgaa
open Go Go.RowKit
set_option maxRecDepth 100000
def RefN (N:Heaplet) (bt:Nat) (R0:List PR):Prop:= ∃Nt Nk Nv Ne,[Nt,Nk,Nv,Ne].Pairwise Apart∧N=joinL [Nt,Nk,Nv,Ne]∧RefO bt Nt Nk Nv Ne R0
theorem RefN.s {bt:Nat} {N J:Heaplet} {R0:List PR} (h:RefN N bt R0) (hl:N.le J):RefS J bt R0:=by
 obtain⟨Nt,Nk,Nv,Ne,h1,rfl,h3⟩:=h
 exact h3.s (Heaplet.le_trans (le_joinL h1 (by simp)) hl) (Heaplet.le_trans (le_joinL h1 (by simp)) hl) (Heaplet.le_trans (le_joinL h1 (by simp)) hl) (Heaplet.le_trans (le_joinL h1 (by simp)) hl)
theorem alone4 (N:Heaplet): [N,nilH,nilH,nilH].Pairwise Apart∧N=joinL [N,nilH,nilH,nilH]:=by
 refine⟨?_,?_⟩
 ·simp only [List.pairwise_cons,List.mem_cons,List.not_mem_nil,or_false]
  refine⟨fun M hM k=>?_,fun M hM k=>.inl rfl,fun M hM k=>.inl rfl,?_⟩
  ·rcases hM with rfl|rfl|rfl<;>exact .inr rfl
  ·exact⟨fun M hM=>hM.elim,.nil⟩
 ·funext k
  simp only [joinL,join2]
  cases N k<;>rfl
theorem RefN.start {b:Nat} {N:Heaplet} (h:Blk N b 31 [.slice none 0 0,.slice none 0 0]):RefN N b []:=by
 obtain⟨h1,h2⟩:=alone4 N
 exact⟨N,nilH,nilH,nilH,h1,h2,none,0,none,0,[],[],h,Row.nil _ _ _,Row.nil _ _ _,Bags.nil _,Bags.nil _,Good.nil⟩
section
variable {N K V : Heaplet} {bt : Nat} {R0 : List PR} {ka va : Option Addr} {kn kc vn vc : Nat} {k v : List UInt8}
def CutP (m:Nat) (l:List UInt8) (x:Value) (L:List Heaplet):Prop:= ∃M a c,x=.slice a (l.take m).length c∧L= [M]∧Row M 5 1 a (l.take m).length c (u8s (l.take m))
end
theorem root_nil:rootM []=kec [128]:=by
 have e:(nodeF 81 (prs [])).form= [128]:=by
  show(itS []).form= [128]
  decide+kernel
 rw [rootM,e]
set_option maxHeartbeats 2000000 in
theorem TWakes:Fn Try.prog 8 #[] [] [] (fun v L=>v=.bool true∧L= []):=by
 obtain⟨z,hz⟩: ∃z,rootM []=z:=⟨_,rfl⟩
 have hzk:z=kec [128]:=by rw [←hz,root_nil]
 rw [k80]at hzk
 have hlz:(u8s z).length=32:=by rw [hzk];rfl
 have h0:(u8s z)[0]? =some (.int .u8 86):=by rw [hzk];rfl
 have h31:(u8s z)[31]? =some (.int .u8 33):=by rw [hzk];rfl
 have e1:(getR (putM [100,111] [118,101,114,98] []) [100,111]).getD []= [118,101,114,98]:=by decide
 have e2:hasM [100,111] (putM [100,111] [118,101,114,98] [])=true:=by decide
 have e3:(putM [100,111] [118,101,114,98] []).length=1:=by decide
 clear hzk
 refine Fn.enter (vs:= []) Try.func8 rfl rfl rfl ?_
 intro E R hR
 change At _ _ E [R] _
 refine At.seq fun _ s_1=>At.region (aE (aD rfl) rfl rfl (aB (aC (s_1 (At.seq fun _ s_2=>At.region (aG (nxla rfl) .nil (FNew) Try.func7 rfl rfl (by simp) rfl ?_))))))
 rintro v5 L5 ⟨Nt,bt,rfl,rfl,hT⟩
 change At _ _ _ [Nt,R] _
 refine aE (aD rfl) rfl rfl (aB (aC (s_2 (At.seq fun _ s_3=>At.seq fun _ s_4=>At.region (aA (aD rfl) rfl rfl (op_eqPt (aD rfl) Try.underlying23 rfl rfl (aB (aC (s_4 (At.condF rfl (At.skip (aC (s_3 (At.seq fun _ s_5=>At.region (aA (aD rfl) rfl rfl (aG (nxla rfl) (.cons rfl .nil) (FRoot hT (by simp)) Try.func16 rfl rfl (by simp) rfl ?_))))))))))))))))
 rintro v9 L9 ⟨rfl,rfl⟩
 change At _ _ _ [Nt,R] _
 rw [hz]
 refine op_alloc (nxla rfl) ze48 rfl (fun N2 b2 B2=>?_)
 change Blk N2 b2 _ [.int .u8 0,.int .u8 0,.int .u8 0,.int .u8 0,.int .u8 0,.int .u8 0,.int .u8 0,.int .u8 0,.int .u8 0,.int .u8 0,.int .u8 0,.int .u8 0,.int .u8 0,.int .u8 0,.int .u8 0,.int .u8 0,.int .u8 0,.int .u8 0,.int .u8 0,.int .u8 0,.int .u8 0,.int .u8 0,.int .u8 0,.int .u8 0,.int .u8 0,.int .u8 0,.int .u8 0,.int .u8 0,.int .u8 0,.int .u8 0,.int .u8 0,.int .u8 0]at B2
 refine op_store (nxl rfl) sz48 rfl rfl (vs:=u8s z) rfl hlz (all8x2 z) B2 (by rw [hlz];exact Nat.le_refl _) sel0 (fun N2 B2=>?_)
 rw [setL_whole (by exact hlz.symm)]at B2
 refine aB (aC (s_5 (At.seq fun _ s_6=>At.region (aA (aD rfl) rfl rfl (op_lit (nxla rfl) Try.underlying33 ze5 sz5 (.cons rfl (.cons rfl .nil)) rfl rfl (by simp [Value.cells]) rfl rfl rfl (fun N11 a11 r11=>?_))))))
 simp only [flatV,List.flatMap_cons,List.flatMap_nil,Value.cells,List.append_nil,List.cons_append,List.nil_append]at r11
 have s11:=r11.rsl
 refine op_convB (nxl rfl) Try.underlying33 Try.underlying5 rfl r11 (by omega) sel0 rfl (fun N11 s11=>op_lit (nxla rfl) Try.underlying33 ze5 sz5 (.cons rfl (.cons rfl (.cons rfl (.cons rfl .nil)))) rfl rfl (by simp [Value.cells]) rfl rfl rfl (fun N13 a13 r13=>?_))
 simp only [flatV,List.flatMap_cons,List.flatMap_nil,Value.cells,List.append_nil,List.cons_append,List.nil_append]at r13
 have s13:=r13.rsl
 refine op_convB (nxl rfl) Try.underlying33 Try.underlying5 rfl r13 (by omega) sel0 rfl (fun N13 s13=>At.perm sel4 (At.perm sel3 (At.perm sel3 (At.perm sel3 (At.perm sel4 (op_call (nxl rfl) (.cons rfl (.cons rfl (.cons rfl .nil))) (FPut hT (k:= [100,111]) (v:= [118,101,114,98]) s11 s13 (by decide) (by decide) (by decide)) (F:= [N13,N11,N2,R]) Try.func11 rfl rfl (.refl _) (by simp) rfl ?_))))))
 rintro v15 L15 ⟨N',rfl,rfl,hT'⟩
 change At _ _ _ [N',N13,N11,N2,R] _
 refine aB (aC (s_6 (At.seq fun _ s_7=>At.region (aA (aD rfl) rfl rfl (op_lit (nxla rfl) Try.underlying33 ze5 sz5 (.cons rfl (.cons rfl .nil)) rfl rfl (by simp [Value.cells]) rfl rfl rfl (fun N18 a18 r18=>?_))))))
 simp only [flatV,List.flatMap_cons,List.flatMap_nil,Value.cells,List.append_nil,List.cons_append,List.nil_append]at r18
 have s18:=r18.rsl
 refine op_convB (nxl rfl) Try.underlying33 Try.underlying5 rfl r18 (by omega) sel0 rfl (fun N18 s18=>aG (nxla rfl) (.cons rfl (.cons rfl .nil)) (FGet hT' (k:= [100,111]) s18 (by decide)) Try.func13 rfl rfl (by simp) rfl ?_)
 rintro v20 L20 ⟨M20,a20,c20,rfl,rfl,r20⟩
 change At _ _ _ [M20,N18,N',N13,N11,N2,R] _
 rw [e1]at r20;rw [e1,e2];have s20:=r20.rsl
 refine aA (aD rfl) rfl rfl (aH (aD rfl) rfl rfl rfl (aH (aD rfl) rfl rfl rfl (aE (aD rfl) rfl rfl (aE (aD rfl) rfl rfl (aB (aC (s_7 (At.seq fun _ s_8=>At.region (op_idxA (aD rfl) ae48 rfl rfl (show _=((0:Nat):Int)from rfl) (by omega) rfl (op_loadB (aD rfl) sc5 rfl B2 (h0) mem5 rfl (op_eql (aD rfl) rfl rfl rfl (aA (aD rfl) rfl rfl (At.partP (d:=26) rfl (fun g26=>?_) (fun g26=>?_))))))))))))))
 rotate_left
 ·exact absurd rfl g26
 refine op_idxA (nxgf rfl rfl rfl rfl) ae48 rfl rfl (show _=((31:Nat):Int)from rfl) (by omega) rfl (op_loadB (nxgf rfl rfl rfl rfl) sc5 rfl B2 (h31) mem5 rfl (op_eql (nxgf rfl rfl rfl rfl) rfl rfl rfl (op_pickT (aD rfl) rfl rfl rfl (aA (aD rfl) rfl rfl (At.partP (d:=31) rfl (fun g31=>?_) (fun g31=>?_))))))
 rotate_left
 ·exact absurd rfl g31
 refine aA (nxgf rfl rfl rfl rfl) rfl rfl (op_pickT (aD rfl) rfl rfl rfl (aA (aD rfl) rfl rfl (At.part (d:=34) rfl (fun g34=>?_) (fun g34=>?_))))
 rotate_left
 ·cases g34
 refine aA (nxgf rfl rfl rfl rfl) rfl rfl (op_str (nxgf rfl rfl rfl rfl) Try.underlying33 Try.underlying5 Try.underlying9 rfl (by assumption) (by first|exact mem0|exact mem1|exact mem2|exact mem3|exact mem4|exact mem5|exact mem6|exact mem7|exact mem8|exact mem9) rfl ?_)
 refine op_eqS (b:= [118,101,114,98]) (nxgf rfl rfl rfl rfl) rfl rfl rfl (op_pickT (aD rfl) rfl rfl rfl (aA (aD rfl) rfl rfl (At.partP (d:=39) rfl (fun g39=>?_) (fun g39=>?_))))
 rotate_left
 ·exact absurd rfl g39
 refine aA (nxgf rfl rfl rfl rfl) rfl rfl (aG (nxga rfl rfl rfl rfl) (.cons rfl .nil) (FLen hT') Try.func17 rfl rfl (by simp) rfl ?_)
 rintro v41 L41 ⟨rfl,rfl⟩
 change At _ _ _ [M20,N18,N',N13,N11,N2,R] _
 rw [e3]
 refine op_eql (nxgf rfl rfl rfl rfl) rfl rfl rfl (op_pickT (aD rfl) rfl rfl rfl (aE (aD rfl) rfl rfl (aB (aC (s_8 (At.ret ((At.sub (L':= [R]) (.cons _ (.cons _ (.cons _ (.cons _ (.cons _ (.cons _ (.cons_cons _ (.slnil)))))))) (At.ret1 (L1:= []) rfl (.tmp rfl .nil) (.refl _) (.refl _) ?_)))))))))
 exact⟨rfl,rfl⟩
end Go.Proofs.Ytdpjbefeabokgaa
/- The engine, arrays of bytes compared. For whatever program. No condition. -/
namespace Go.Proofs.Ytdpjbefeabokgaa
open Go Go.RowKit
section
variable {P : Program}
variable {n : Nat} {l : List (Nat × Value)} {E : World} {L Ls : List Heaplet} {X Y : Act → World → Prop} {d : Nat} {t t' ty e : TypeId} {x y : Operand}
end
end Go.Proofs.Ytdpjbefeabokgaa
/- Layer 12, the statements' helps: one call played on both tries. Conditions: fewer than 1000 keys. -/
namespace Go.Proofs.Ytdpjbefeabokgaa
open Go Go.RowKit
set_option maxRecDepth 100000
def opM (d:Int) (k v:List UInt8) (R:List PR):List PR:=if d=1 then putM (k.take 40) (v.take 120) R else if d=2 then delM (k.take 40) R else R
section
variable {Np Nr K : Heaplet} {bp br c : Nat} {R0 : List PR} {ka va : Option Addr} {kn kc vn vc : Nat} {k v : List UInt8} {on dd : Int}
end
end Go.Proofs.Ytdpjbefeabokgaa
/- The engine: a contract that leaves more of the caller's own memory alone; a bit of a signed number. For whatever program. No condition. -/
namespace Go.Proofs.Ytdpjbefeabokgaa
open Go Go.RowKit
section
variable {P : Program} {f : FuncId} {args : Array Value} {L0 Lr F0 : List Heaplet} {Post Post' : Value → List Heaplet → Prop}
theorem Fn.frame (h:Fn P f args L0 Lr Post) (F0:List Heaplet):Fn P f args (L0++F0) Lr (fun v L=> ∃L1,L=L1++F0∧Post v L1):=fun E w R hw hr=>by
 have hw1:Hp E ((F0++ [R])++L0) w:=hw.perm (by rw [List.append_assoc];exact List.perm_append_comm)
 have hs:=(List.pairwise_append.1 hw1.sep).1
 have hw2:Hp E (L0++ [joinL (F0++ [R])]) w:=hw1.packL.perm (List.perm_append_comm (l₁:= [joinL (F0++ [R])]))
 refine(h E w _ hw2 fun N hN=>Heaplet.le_trans (hr N hN) (le_joinL hs (by simp))).mono ?_
 rintro e w' ⟨v,L1,rfl,hP,hh⟩
 refine⟨v,L1++F0,rfl,⟨L1,rfl,hP⟩,?_⟩
 have h3:Hp E (joinL (F0++ [R])::L1) w':=hh.perm (List.perm_append_comm (l₁:=L1))
 refine(h3.unpackL hs).perm ?_
 rw [List.append_assoc L1]
 exact List.perm_append_comm
theorem Fn.out (h:Fn P f args L0 Lr Post) (hp: ∀v L,Post v L→ ∃L',L.Perm L'∧Post' v L'):Fn P f args L0 Lr Post':=fun E w R hw hr=>by
 refine(h E w R hw hr).mono ?_
 rintro e w' ⟨v,L1,rfl,hP,hh⟩
 obtain⟨L',h1,h2⟩:=hp v L1 hP
 exact⟨v,L',rfl,h2,hh.perm (h1.append_right _)⟩
end
end Go.Proofs.Ytdpjbefeabokgaa
/- Layer 12: calls in memory; a call played on one of two sides. Conditions: fewer than 1000 keys. -/
namespace Go.Proofs.Ytdpjbefeabokgaa
open Go Go.RowKit
set_option maxRecDepth 100000
structure OV where
 on:Int
 dd:Int
 ka:Option Addr
 kn:Nat
 kc:Nat
 va:Option Addr
 vn:Nat
 vc:Nat
 key:List UInt8
 val:List UInt8
def OV.cells (x:OV):List Value:= [.int .i64 x.on,.int .i64 x.dd,.slice x.ka x.kn x.kc,.slice x.va x.vn x.vc]
def OpN (N:Heaplet) (x:OV):Prop:=RSl N 1 x.ka x.kn x.kc (u8s x.key)∧RSl N 1 x.va x.vn x.vc (u8s x.val)
def OpsN (N:Heaplet) (xs:List OV):Prop:= ∀x∈xs,OpN N x
def opsC (xs:List OV):List Value:=xs.flatMap OV.cells
theorem OpsN.le {N M:Heaplet} {xs:List OV} (h:OpsN N xs) (hl:N.le M):OpsN M xs:=fun x hx=>⟨(h x hx).1.le hl,(h x hx).2.le hl⟩
/-- One side: both tries hold the same map, of at most m keys. -/
def Side (P Q:Heaplet) (bp br m:Nat):Prop:= ∃c R0,TrieN P bp c R0∧RefN Q br R0∧c≤m∧R0.length≤m
theorem Side.up {P Q:Heaplet} {bp br m k:Nat} (h:Side P Q bp br m) (hm:m≤k):Side P Q bp br k:=by
 obtain⟨c,R0,h1,h2,h3,h4⟩:=h
 exact⟨c,R0,h1,h2,Nat.le_trans h3 hm,Nat.le_trans h4 hm⟩
def sideV (x y:Nat):Value:=.agg #[.pointer (some ⟨x,0,none⟩),.pointer (some ⟨y,0,none⟩)]
section
variable {P Q S T K : Heaplet} {x0 y0 x1 y1 m : Nat} {ka va : Option Addr} {kn kc vn vc : Nat} {k v : List UInt8} {on dd : Int}
end
end Go.Proofs.Ytdpjbefeabokgaa
/- quarrylaw12.TrieExact answers true. No condition. -/
namespace Go.Proofs.Ytdpjbefeabokgaa
open Go Go.RowKit
set_option maxRecDepth 100000
section
variable {N : Heaplet} {ao : Option Addr} {n cap : Nat} {xs : List OV}
end
end Go.Proofs.Ytdpjbefeabokgaa
/- From what an argument reads as to the engine's facts; what is read again behind the call. No condition. -/
namespace Go.Proofs.Ytdpjbefeabokgaa
open Go Go.RowKit Go.ChangeShapes Go.WideShapes Go.Deep
theorem add_off (a:Addr) (n:Nat):(a.add n).off=a.off+n:=by unfold Addr.add;split<;>simp_all
theorem add_block (a:Addr) (n:Nat):(a.add n).block=a.block:=by unfold Addr.add;split<;>rfl
theorem cellOf_whole {w:World} {a:Addr} {v:Value} (h:w.cell? a=some v):a.spot=none∧cellOf (whole w) a.block a.off=some v:=by
 unfold World.cell? at h
 unfold cellOf whole
 split at h
 ·rename_i c t fr e
  split at h
  ·cases h
  ·rename_i hs
   rw [e]
   exact⟨by simpa using hs,h⟩
 ·cases h
theorem rng_whole {w:World} {a:Addr} {base n size:Nat} {C:Nat→List Value} (h: ∀i,i<n→w.cells? base (a.add (i*size)) size=some (C i)):
 Rng (whole w) a.block a.off ((List.range n).flatMap C)∧((List.range n).flatMap C).length=n*size:=by
 induction n with
 |zero=>exact⟨fun i hi=>by simp at hi,by simp⟩
 |succ n ih=>
  obtain⟨h1,h2⟩:=ih fun i hi=>h i (by omega)
  obtain⟨_,hl,hc⟩:=World.cells?_some (h n (by omega))
  have e:(List.range (n+1)).flatMap C=(List.range n).flatMap C++C n:=by simp [List.range_succ]
  rw [e]
  refine⟨fun i hi=>?_,by rw [List.length_append,h2,hl,Nat.succ_mul]⟩
  by_cases hlt:i<((List.range n).flatMap C).length
  ·rw [List.getElem_append_left hlt];exact h1 i hlt
  ·rw [List.length_append]at hi
   rw [List.getElem_append_right (by omega)]
   have hk:=hc (i- n*size) (by omega)
   rw [List.getElem?_eq_getElem (by omega)]at hk
   have h3:=(cellOf_whole hk).2
   have e2:((a.add (n*size)).add (i- n*size)).off=a.off+i:=by rw [add_off,add_off];omega
   rw [e2,add_block,add_block]at h3
   have e3:i- ((List.range n).flatMap C).length=i- n*size:=by rw [h2]
   simp only [e3]
   exact h3
section
variable {H : Type} {enc : TypeId × Value → H} {P : Program} {w : World} {spare : Nat → Bool} {held : Bool}
theorem open_rsl {t e:TypeId} {fuel:Nat} {cs:List Value} {x:DataW H×List MemPlace} (ht:P.underlying t=some (.slice e)) (hpos:0<P.cellsOf e) (h:DataW.trod enc P w 0 spare held fuel t cs=some x):
 ∃ao n cap C m,cs= [.slice ao n cap]∧RSl (whole w) (P.cellsOf e) ao n cap ((List.range n).flatMap C)∧(n=0∨fuel=m+1)∧
  ∀i,i<n→(C i).length=P.cellsOf e∧ ∃y,DataW.trod enc P w 0 spare held m e (C i)=some y:=by
 rcases DataW.trod_slice ht h with ⟨rfl,_⟩|⟨a,len,cap,elems,rest,n,hf,rfl,rfl,hb,hl,hm,hlen,hel,hsp,hns⟩
 ·exact⟨none,0,0,fun _=> [],0,rfl,⟨by simp,by omega,by simp [maxLen],fun h=>by omega⟩,Or.inl rfl,fun i hi=>by omega⟩
 ·obtain⟨C,hC⟩:=choose_lt (α:=List Value) (p:=fun i c=>w.cells? 0 (a.add (i*P.cellsOf e)) (P.cellsOf e)=some c∧ ∃y,DataW.trod enc P w 0 spare held n e c=some y) (n:=len) (fun i hi=>by
   have:=hel i hi
   rw [List.getElem?_eq_getElem (by omega)]at this
   obtain⟨c,h1,h2⟩:=Option.bind_eq_some_iff.1 this
   exact⟨c,h1,_,h2⟩)
  obtain⟨h1,h2⟩:=rng_whole (fun i hi=>(hC i hi).1)
  refine⟨some a,len,cap,C,n,rfl,⟨h2,hl,hm,fun h0=>?_⟩,Or.inr hf,fun i hi=>⟨(World.cells?_some (hC i hi).1).2.1,(hC i hi).2⟩⟩
  obtain⟨_,hl0,hc0⟩:=World.cells?_some (hC 0 h0).1
  have hk:=hc0 0 hpos
  rw [List.getElem?_eq_getElem (by omega)]at hk
  have hs:=(cellOf_whole hk).1
  have hs':a.spot=none:=by simpa [Addr.add]using hs
  refine⟨a.block,a.off,?_,h1⟩
  cases a;simp at hs';subst hs';rfl
/-- The bytes that a list of cells holds. -/
def u8of:Value→UInt8
 |.int _ q=>UInt8.ofNat q.toNat
 |_=>0
theorem open_u8 {t e:TypeId} {fuel:Nat} {cs:List Value} {x:DataW H×List MemPlace} (ht:P.underlying t=some (.slice e)) (he:P.underlying e=some (.int .u8)) (hc:P.cellsOf e=1) (h:DataW.trod enc P w 0 spare held fuel t cs=some x):
 ∃ao n cap bs,cs= [.slice ao n cap]∧RSl (whole w) 1 ao n cap (u8s bs):=by
 obtain⟨ao,n,cap,C,m,rfl,hr,_,hC⟩:=open_rsl ht (by omega) h
 refine⟨ao,n,cap,((List.range n).flatMap C).map u8of,rfl,?_⟩
 have e:u8s (((List.range n).flatMap C).map u8of)=(List.range n).flatMap C:=by
  unfold u8s
  rw [List.map_map]
  refine(List.map_congr_left (g:=id) fun v hv=>?_).trans (List.map_id _)
  obtain⟨i,hi,hv⟩:=List.mem_flatMap.1 hv
  obtain⟨hl,y,hy⟩:=hC i (List.mem_range.1 hi)
  obtain⟨q,hq,_,hw⟩:=DataW.trod_int he hy
  rw [hq]at hv
  obtain rfl:=List.mem_singleton.1 hv
  have hb:0≤q∧q≤255:=by simpa [Lit.wf,IntKind.min,IntKind.max,IntKind.signed,IntKind.bits]using hw
  simp only [Function.comp,u8of,vb,id]
  have h8:(UInt8.ofNat q.toNat).toNat=q.toNat:=by rw [UInt8.toNat_ofNat'];omega
  rw [h8]
  congr 1
  omega
 rw [e, ←hc]
 exact hr
theorem stays_all {W W':World} {sp:Nat→Bool} (hl:laidOutB P=true): ∀ {ts:List TypeId} {vs:List Value} {ds:List (DataW H)} {ps:List MemPlace},(∀t∈ts,P.readableRec t=true∧t<P.types.size)→
 DataW.TrodAll enc P W 0 (fun _=>true) true ts vs ds ps→(∀p∈ps,W.sameAt W' p)→(∀p∈ps,sp p.block=true)→DataW.TrodAll enc P W' 0 sp true ts vs ds ps
 | [],[],[],_,_,h,_,_=>h
 |t::_,_::_,_::_,_,hr,⟨p,q,h1,h2,e⟩,hs,hb=>⟨p,q,
  Go.WideElems.Trod_stays hl (hr t (by simp)).1 (hr t (by simp)).2 h1 (fun x hx=>hs x (by rw [e];simp [hx])) (fun x hx=>hb x (by rw [e];simp [hx])),
  stays_all hl (fun t ht=>hr t (by simp [ht])) h2 (fun x hx=>hs x (by rw [e];simp [hx])) (fun x hx=>hb x (by rw [e];simp [hx])),e⟩
theorem sameAt_below {W W':World} (h:Below W.heap.size W W') {p:MemPlace} (hp:p.block<W.heap.size):W.sameAt W' p:=by
 cases p with
 |cell b off=>
  show W'.cell? ⟨b,off,none⟩=W.cell? ⟨b,off,none⟩
  have e:W'.heap[b]? =W.heap[b]? :=h.block b hp
  unfold World.cell?
  simp only [e]
 |map b=>exact h.block b hp
/-- A law's last step: it answered v, and all that was there is there as it was. -/
theorem law_post {f:Func} {s:ChangeSpec} {W W':World} {args:Array Value} {v:Value} {r:DataW H} {ds gs:List (DataW H)} {before:List MemPlace} {tr:TypeId}
 (hW:DataW.Whole enc P f.params.toList s.vars false W args.toList ds gs before) (hv:s.vars= [])
 (hs:s.fn H (ds++gs)= { results:= [r],args:=ds }) (hone':v.resultList 1= [v]) (hres:f.resultTypes= #[tr])
 (hr: ∀(b:Nat) (sp:Nat→Bool) (hd:Bool),DataW.Trod enc P W' b sp hd tr v r []) (hok:Value.okWide P W' .any 0 tr v)
 (hl:laidOutB P=true) (ht: ∀t∈f.params.toList,P.readableRec t=true∧t<P.types.size) (hb:Below W.heap.size W W'):
 s.post enc P f false true false false W args v W':=by
 have hlt: ∀p∈before,p.block<W.heap.size:=fun p hp=>hW.lt p hp
 have hW':=hW
 obtain⟨p,q,hA,hV,rfl,hfz,hnd⟩:=hW
 rw [hv]at hV
 obtain⟨rfl,rfl⟩:=trodVars_none hV
 simp only [List.append_nil]at hs hlt hW' hfz
 have again: ∀sp:Nat→Bool,(∀x∈p,sp x.block=true)→DataW.TrodAll enc P W' 0 sp true f.params.toList args.toList ds p:=fun sp hsp=>
  stays_all hl ht hA (fun x hx=>sameAt_below hb (hlt x hx)) hsp
 have hrl:v.resultList f.resultTypes.size= [v]:=by rw [hres];exact hone'
 have hone: ∀(b:Nat) (sp:Nat→Bool) (hd:Bool),DataW.TrodAll enc P W' b sp hd f.resultTypes.toList (v.resultList f.resultTypes.size) [r] []:=fun b sp hd=>by
  rw [hrl,hres];exact⟨[],[],hr b sp hd,rfl,rfl⟩
 have hold: ∀x∈p,(fun b=>decide (b<W.heap.size)) x.block=true:=fun x hx=>by simpa using hlt x hx
 have hvs: ∀sp:Nat→Bool,DataW.TrodVars enc P W' sp s.vars [] []:=fun sp=>by rw [hv];rfl
 refine⟨ds,[],p,[],p,[],by simpa using hW',by simp only [List.append_nil];rw [hs];exact hone _ _ _,by simp only [List.append_nil];rw [hs];exact again _ hold,by simp only [List.append_nil];rw [hs];exact hvs _,
  World.keptBut_mono (fun x hx=>⟨hx,Or.inr (Or.inl hx)⟩) (hb.frame (· ∈p)),fun _=>?_⟩
 refine⟨?_,_,_,([]++p)++ [],⟨[]++p,[],trodAll_append (again _ (fun _ _=>rfl)) (hone _ _ _),hvs _,rfl,?_,?_⟩,?_⟩
 ·intro j t r hj hr
  rw [hrl]at hr
  rw [hres]at hj
  cases j with
  |zero=>simp at hj hr;subst hj;subst hr;exact hok
  |succ j=>simp at hr
 ·intro b off hp
  have hin:MemPlace.cell b off∈p:=by simpa using hp
  rw [hb.frozen (hlt _ hin)]
  exact hfz b off hin
 ·intro ha
  cases ha
 ·intro x hx _
  simpa using hx
end
end Go.Proofs.Ytdpjbefeabokgaa
/- Calls, numbers, byte strings as arguments. No condition. -/
namespace Go.Proofs.Ytdpjbefeabokgaa
open Go Go.RowKit Go.ChangeShapes Go.WideShapes Go.Deep
set_option maxRecDepth 100000
section
variable {H : Type} {enc : TypeId × Value → H} {w : World} {spare : Nat → Bool} {held : Bool}
end
end Go.Proofs.Ytdpjbefeabokgaa
/- Layer 12: a trie behind calls, made twice. No condition. -/
namespace Go.Proofs.Ytdpjbefeabokgaa
open Go Go.RowKit
set_option maxRecDepth 100000
def MadeP (v:Value) (L:List Heaplet):Prop:= ∃P Q x y,v=.tuple #[.pointer (some ⟨x,0,none⟩),.pointer (some ⟨y,0,none⟩)]∧L= [P,Q]∧Side P Q x y 150
section
variable {N : Heaplet} {ao : Option Addr} {n cap : Nat} {xs : List OV}
end
end Go.Proofs.Ytdpjbefeabokgaa
