/- Several texts in one: see the remarks ahead of each part. No condition but those told there. -/
import Derived.Test.YtjfagifjajielaaGreatX1
import Derived.Test.YtjfagifjajielaaGreatX23
import Derived.Test.YtjfagifjajielaaGreatX22
import Derived.Test.YtjfagifjajielaaGreatX14
import Derived.Test.YtjfagifjajielaaGreatX15
import Derived.Laws.StructEq
set_option linter.unusedSimpArgs false
set_option linter.unusedVariables false
namespace Go.Proofs.YtjfagifjajielaaGreat
open Go Go.RowKit
set_option maxRecDepth 100000
def insAll:List (List UInt8)→Option (List It)
 | []=>some []
 |g::gs=>match insE g with
  |none=>none
  |some t=>match insAll gs with
   |none=>none
   |some l=>some (t::l)
def wdI (w:WdM):It:=wdIt w.ix w.va w.ad w.am
def blkParts (m:BlkM) (its:List It):List It:= [m.hd.it,itL its,itL (m.oms.map HdM.it)]++if m.paid=true then [itL (m.wds.map wdI)]else []
def blkIt (m:BlkM) (its:List It):It:=itL (blkParts m its)
def wBlk (m:BlkM):Option (List UInt8):=if okF m.hd.fi∧ ∀h∈m.oms,okF h.fi then match insAll m.txs with
 |none=>none
 |some its=>if (blkIt m its).depth≤1024 then some (blkIt m its).form else none
 else none
def HdIn (N:Heaplet) (h:HdM) (v:Value):Prop:=h.Ok∧ ∃ea ec,v=.slice ea h.ex.length ec∧RSl N 1 ea h.ex.length ec (u8s h.ex)
def BlkR (N:Heaplet) (m:BlkM) (cs:List Value):Prop:= ∃v1 ta tc vs oa oc xs wa wc,
 cs=(blkP (m.hd.cells v1) (.slice ta m.txs.length tc) (.slice oa m.oms.length oc) m.paid (.slice wa m.wds.length wc)).flatten∧
 HdIn N m.hd v1∧RSl N 1 ta m.txs.length tc vs∧Bags N vs m.txs∧
 RSl N 556 oa m.oms.length oc (omC xs)∧(∀x∈xs,HdIn N x.1 x.2)∧xs.map Prod.fst=m.oms∧
 RSl N 23 wa m.wds.length wc (wdsC m.wds)∧ ∀x∈m.wds,x.ad.length=20
structure BlkM.Sz (m:BlkM):Prop where
 tx:m.txs.length≤1048576
 tl: ∀g∈m.txs,g.length≤1099511627776
 om:m.oms.length≤1048576
 wd:m.wds.length≤1048576
def WBlkP (m:BlkM) (v:Value) (L:List Heaplet):Prop:=
 (∃bs M p c,wBlk m=some bs∧v=.tuple #[.slice p bs.length c,.int .i64 0]∧L= [M]∧Row M 5 1 p bs.length c (u8s bs))∨
 (wBlk m=none∧v=.tuple #[.slice none 0 0,.int .i64 1]∧L= [])
theorem omC_cells {N:Heaplet} {xs:List (HdM×Value)} (h: ∀x∈xs,HdIn N x.1 x.2): ∀x∈xs,(x.1.cells x.2).length=556:=fun x hx=>HdM.len (h x hx).1 _
section
variable {N : Heaplet} {m : BlkM} {cs : List Value}
end
def wdN (its:List It):Except Nat WdM:=eb (n64E (nxt its 0)) fun i=>eb (n64E (nxt its 1)) fun v=>eb (fixE 20 (nxt its 2)) fun a=>eb (n64E (nxt its 3)) fun m=>.ok ⟨i,v,a,m⟩
def HdK (NK NI:Heaplet) (x:HdM×Value):Prop:=x.1.Ok∧okF x.1.fi∧ ∃ea ec,x.2=.slice ea x.1.ex.length ec∧ ∀K:Heaplet,NK.le K→NI.le K→RSl K 1 ea x.1.ex.length ec (u8s x.1.ex)
theorem HdK.up {NK NI M:Heaplet} {x:HdM×Value} (h:HdK NK NI x) (hl:NK.le M):HdK M NI x:=by
 obtain⟨h1,h2,ea,ec,h3,h4⟩:=h
 exact⟨h1,h2,ea,ec,h3,fun K k1 k2=>h4 K (Heaplet.le_trans hl k1) k2⟩
theorem HdK.snoc {NK NI M J:Heaplet} {xs:List (HdM×Value)} {x:HdM×Value} (h: ∀y∈xs,HdK NK NI y) (hx:HdK M NI x) (h1:NK.le J) (h2:M.le J): ∀y∈xs++ [x],HdK J NI y:=fun y hy=>by
 rcases List.mem_append.1 hy with hy|hy
 ·exact(h y hy).up h1
 ·rw [List.mem_singleton.1 hy];exact hx.up h2
def RBlkP (b:List UInt8) (v:Value) (L:List Heaplet):Prop:=
 (∃M m cs,readBlkE b=.ok m∧v=.tuple #[.agg cs.toArray,.int .i64 0]∧L= [M]∧BlkR M m cs∧(cs.length=560∧cs.all (·.oneCell')=true))∨
 (∃e:Nat,readBlkE b=.error e∧v=.tuple #[.agg z54.toArray,.int .i64 (e:Int)]∧e≠0∧L= [nilH])
def AccM.cut (g:AccM):AccM:=⟨g.addr,g.keys.take 12⟩
def cutA (gs:List AccM):List AccM:=(gs.take 12).map AccM.cut
def cutM (m:TxM):TxM:= { m with da:=m.da.take 800,ac:=cutA m.ac,bb:=m.bb.take 12 }
section
variable {m : TxM} {d a b v : Value}
end
section
variable {N : Heaplet} {m : TxM} {d a b : Value}
end
section
variable {N M : Heaplet} {ao bo : Option Addr} {n cap m cbp : Nat} {gs gt : List LogM} {xs xt : List LV}
end
section
variable {k : Int} {rv lv : Value} {ok : Bool} {gas : UInt64} {bl : List UInt8}
end
theorem u8s_ints (l:List UInt8):(u8s l).all isInt=true:=by
 refine List.all_eq_true.2 fun u hu=>?_
 obtain⟨x,_,rfl⟩:=List.mem_map.1 hu
 rfl
theorem LogM.cut_cut (g:LogM):g.cut.cut=g.cut:=by simp [LogM.cut,List.take_take]
section
variable {N M : Heaplet} {k : Int} {ra la : Option Addr} {rn rc ln lc : Nat} {root bl : List UInt8} {ok : Bool} {gas : UInt64} {gs : List LogM} {xs : List LV} {i v m : UInt64} {a : List UInt8}
end
theorem okB_ne8 {P:Program} {l:List (Nat×Value)} {t t':TypeId} {x y:Operand} {a b:List UInt8} (hx:ev l x=some (.agg (u8s a).toArray)) (hy:ev l y=some (.agg (u8s b).toArray)) (hg:(!P.eqGuardType P.depth t&&intsB P t)=true):okB P l (.binOp .neq t x y t')=true:=by
 rw [Bool.and_eq_true]at hg
 simp [okB,Op.operands,floatOK,hx,hy,hg.1,hg.2,u8s_ints]
section
variable {N M : Heaplet} {hs : List (List UInt8)} {a a' : Option Addr} {n c c' : Nat}
end
section
variable {N M : Heaplet} {m : TxM} {d a b d' a' b' : Value}
end
inductive FldK where
 |num (k:IntKind)
 |arr (n:Nat)
def isU8 (P:Program) (e:TypeId):Bool:=match P.underlying e with
 |some (.int .u8)=>true
 |_=>false
def fldK (P:Program) (f:Field):Option (Nat×FldK):=match P.underlying f.type with
 |some (.int k)=>some (f.offset,.num k)
 |some (.array n e)=>if aelt P f.type=some (n,e,1)∧siz P f.type=some n∧isU8 P e=true then some (f.offset,.arr n)else none
 |_=>none
def fldsK (P:Program) (fs:List Field):Option (List (Nat×FldK)):=fs.mapM (fldK P)
def HasK (xs:List Value) (p:Nat×FldK):Prop:=match p.2 with
 |.num k=> ∃a,xs[p.1]? =some (.int k a)
 |.arr n=> ∃b:List UInt8,(xs.drop p.1).take n=u8s b∧b.length=n
end Go.Proofs.YtjfagifjajielaaGreat
