/- Several texts in one: see the remarks ahead of each part. No condition but those told there. -/
import Derived.Test.YtljacjjeinmfnaaU11
import Derived.Laws.BitsAllLaws
import Derived.Test.YtljacjjeinmfnaaU5
import Derived.Test.YtljacjjeinmfnaaU4
set_option linter.unusedSimpArgs false
set_option linter.unusedVariables false
/- quarrylaw14.BookMade answers true. No condition. -/
namespace Go.Proofs.Ytljacjjeinmfnaa
open Go Go.RowKit
set_option maxRecDepth 100000
/-- A maker's cells. -/
def mkC (a:List UInt8) (n:UInt64) (x:Nat) (v:Value):List Value:=u8s a++(.int .u64 (n.toNat:Int)::(u64s (wl x)++ [v]))
section
variable {N : Heaplet} {ao : Option Addr} {m cap : Nat} {a l : List UInt8} {n : UInt64} {x : Nat} {v : Value}
theorem bN (l:List UInt8):(u8s l).length=l.length:=by simp [u8s]
theorem u64s_len (l:List UInt64):(u64s l).length=l.length:=by simp [u64s]
end
end Go.Proofs.Ytljacjjeinmfnaa
/- The filter of logs: plain laws. No condition. -/
namespace Go.Proofs.Ytljacjjeinmfnaa
open Go Go.RowKit
/-- A log: its address, its topics, its data. -/
structure LogM where
 addr:List UInt8
 topics:List (List UInt8)
 data:List UInt8
/-- The bit of a byte. -/
def mbit (m:Nat):UInt8:=UInt8.ofNat (2^m)
/-- Where a hash sets a bit. -/
def bitN (k:List UInt8) (i:Nat):Nat:=(256*(k.getD i 0).toNat+(k.getD (i+1) 0).toNat) % 2048
def bset (b:List UInt8) (n:Nat):List UInt8:=b.set (255- n/8) (b.getD (255- n/8) 0 |||mbit (n % 8))
/-- The bits of a byte string's hash, as far as they have been set. -/
def baddK (b:List UInt8) (k:List UInt8):Nat→List UInt8
 |0=>b
 |j+1=>bset (baddK b k j) (bitN k (2*j))
def badd (b x:List UInt8):List UInt8:=baddK b (kec x) 3
def zero256:List UInt8:=List.replicate 256 0
/-- What of a log is set. -/
def LogM.items (g:LogM):List (List UInt8):=g.addr::g.topics
def bloomX (b:List UInt8) (xs:List (List UInt8)):List UInt8:=xs.foldl badd b
def bloomL (ls:List LogM):List UInt8:=bloomX zero256 (ls.flatMap LogM.items)
/-- A bit of a place. -/
def bmask (n i:Nat):UInt8:=if 255- n/8=i then mbit (n % 8)else 0
def xmask (x:List UInt8) (i:Nat):UInt8:=bmask (bitN (kec x) 0) i |||bmask (bitN (kec x) 2) i |||bmask (bitN (kec x) 4) i
def smask (xs:List (List UInt8)) (i:Nat):UInt8:=xs.foldr (fun x a=>xmask x i |||a) 0
end Go.Proofs.Ytljacjjeinmfnaa
/- Logs in memory; the bits of one byte string, in the program's filter and in the reference's. No condition. -/
namespace Go.Proofs.Ytljacjjeinmfnaa
open Go Go.RowKit
set_option maxRecDepth 100000
/-- A log's cells. -/
structure LV where
 addr:List UInt8
 topA:Option Addr
 topN:Nat
 topC:Nat
 datA:Option Addr
 datN:Nat
 datC:Nat
def LV.cells (x:LV):List Value:=u8s x.addr++ [.slice x.topA x.topN x.topC,.slice x.datA x.datN x.datC]
def logsC (xs:List LV):List Value:=xs.flatMap LV.cells
def hashC (hs:List (List UInt8)):List Value:=hs.flatMap u8s
/-- The log reads so in N. -/
def LogN (N:Heaplet) (g:LogM) (x:LV):Prop:=
 x.addr=g.addr∧g.addr.length=20∧x.topN=g.topics.length∧RSl N 32 x.topA x.topN x.topC (hashC g.topics)∧(∀h∈g.topics,h.length=32)∧RSl N 1 x.datA x.datN x.datC (u8s g.data)
def LogsN (N:Heaplet) (gs:List LogM) (xs:List LV):Prop:=xs.length=gs.length∧ ∀(i:Nat) (g:LogM) (x:LV),gs[i]? =some g→xs[i]? =some x→LogN N g x
section
variable {N M : Heaplet} {g : LogM} {x : LV} {gs : List LogM} {xs : List LV}
theorem LogN.le (hl:N.le M) (h:LogN N g x):LogN M g x:=⟨h.1,h.2.1,h.2.2.1,h.2.2.2.1.le hl,h.2.2.2.2.1,h.2.2.2.2.2.le hl⟩
theorem LogsN.le (hl:N.le M) (h:LogsN N gs xs):LogsN M gs xs:=⟨h.1,fun i g x h1 h2=>(h.2 i g x h1 h2).le hl⟩
theorem LogsN.nil:LogsN N [] []:=⟨rfl,fun i g x h=>by simp at h⟩
theorem LogsN.snoc (h:LogsN N gs xs) (k:LogN N g x):LogsN N (gs++ [g]) (xs++ [x]):=by
 refine⟨by simp [h.1],fun i g' x' h1 h2=>?_⟩
 rcases Nat.lt_or_ge i gs.length with hi|hi
 ·rw [List.getElem?_append_left hi]at h1
  rw [List.getElem?_append_left (by rw [h.1];exact hi)]at h2
  exact h.2 i g' x' h1 h2
 ·rw [List.getElem?_append_right hi]at h1
  rw [List.getElem?_append_right (by rw [h.1];exact hi),h.1]at h2
  have h0:i- gs.length=0:=by
   obtain⟨h3,_⟩:=List.getElem?_eq_some_iff.1 h1
   simp at h3;omega
  rw [h0]at h1 h2
  simp at h1 h2
  subst h1;subst h2;exact k
theorem LogsN.app {gs':List LogM} {xs':List LV} (h:LogsN N gs xs) (h':LogsN N gs' xs'):LogsN N (gs++gs') (xs++xs'):=by
 refine⟨by simp [h.1,h'.1],fun i g' x' h1 h2=>?_⟩
 rcases Nat.lt_or_ge i gs.length with hi|hi
 ·rw [List.getElem?_append_left hi]at h1
  rw [List.getElem?_append_left (by rw [h.1];exact hi)]at h2
  exact h.2 i g' x' h1 h2
 ·rw [List.getElem?_append_right hi]at h1
  rw [List.getElem?_append_right (by rw [h.1];exact hi),h.1]at h2
  exact h'.2 _ g' x' h1 h2
theorem LogsN.at (h:LogsN N gs xs) {i:Nat} (hi:i<gs.length): ∃g x,gs[i]? =some g∧xs[i]? =some x∧LogN N g x:=by
 have hx:i<xs.length:=by rw [h.1];exact hi
 exact⟨gs[i],xs[i],List.getElem?_eq_getElem hi,List.getElem?_eq_getElem hx,h.2 i _ _ (List.getElem?_eq_getElem hi) (List.getElem?_eq_getElem hx)⟩
end
theorem flat_at {α:Type} {k:Nat} (f:α→List Value): ∀ {xs:List α} {i:Nat} {x:α},(∀y∈xs,(f y).length=k)→xs[i]? =some x→((xs.flatMap f).drop (i*k)).take k=f x
 | [],i,x,_,h=>by simp at h
 |y::t,0,x,hl,h=>by
  simp at h;subst h
  rw [Nat.zero_mul,List.drop_zero,List.flatMap_cons,List.take_left' (hl y (by simp))]
 |y::t,i+1,x,hl,h=>by
  have ih:=flat_at f (xs:=t) (i:=i) (x:=x) (fun z hz=>hl z (List.mem_cons_of_mem _ hz)) (by simpa using h)
  rw [List.flatMap_cons,show(i+1)*k=k+i*k by rw [Nat.succ_mul,Nat.add_comm], ←List.drop_drop,List.drop_left' (hl y (by simp)),ih]
theorem flat_len {α:Type} {k:Nat} (f:α→List Value): ∀ {xs:List α},(∀y∈xs,(f y).length=k)→(xs.flatMap f).length=xs.length*k
 | [],_=>by simp
 |y::t,hl=>by
  rw [List.flatMap_cons,List.length_append,hl y (by simp),flat_len f (xs:=t) (fun z hz=>hl z (List.mem_cons_of_mem _ hz)),List.length_cons,Nat.succ_mul,Nat.add_comm]
theorem LV.cells_len {x:LV} (h:x.addr.length=20):x.cells.length=22:=by rw [LV.cells,List.length_append,bN,h];rfl
theorem LV.cells_one (x:LV):x.cells.all (·.oneCell')=true:=by
 refine List.all_eq_true.2 fun u hu=>?_
 rcases List.mem_append.1 hu with hu|hu
 ·exact one_u8s _ u hu
 ·rcases List.mem_cons.1 hu with rfl|hu
  ·rfl
  ·obtain rfl:=List.mem_singleton.1 hu;rfl
/-- The first bytes of a block. -/
theorem blkHead {N:Heaplet} {b:Nat} {e:TypeId} {L:List UInt8} {t:List Value} {k:Nat} (h:Blk N b e (u8s L++t)) (hk:L.length=k) (hm:k≤9223372036854775807):RSl N 1 (some ⟨b,0+0*1,none⟩) (k- 0) (k- 0) (u8s L):=by
 refine⟨by simp [u8s,hk],Nat.le_refl _,by unfold maxLen;omega,fun h0=>⟨b,0,rfl,fun i hi=>?_⟩⟩
 have:=h.rng i (by rw [List.length_append];omega)
 rw [List.getElem_append_left hi]at this
 exact this
section
variable {N Nb : Heaplet} {ao : Option Addr} {n cap bb : Nat} {l cur : List UInt8}
end
end Go.Proofs.Ytljacjjeinmfnaa
/- The filter of logs, in the program and in the reference. No condition. -/
namespace Go.Proofs.Ytljacjjeinmfnaa
open Go Go.RowKit
set_option maxRecDepth 100000
theorem take_next2 {α:Type} {l:List α} {j:Nat} {u:α} (h:l[j]? =some u):l.take (j+1)=l.take j++ [u]:=by
 obtain⟨hlt,rfl⟩:=List.getElem?_eq_some_iff.1 h
 rw [List.take_succ_eq_append_getElem hlt]
theorem LogsN.cells {N:Heaplet} {gs:List LogM} {xs:List LV} (h:LogsN N gs xs): ∀y∈xs,y.cells.length=22:=fun y hy=>by
 obtain⟨i,hi,rfl⟩:=List.mem_iff_getElem.1 hy
 have hg:i<gs.length:=by rw [←h.1];exact hi
 have:=h.2 i _ _ (List.getElem?_eq_getElem hg) (List.getElem?_eq_getElem hi)
 exact LV.cells_len (by rw [this.1];exact this.2.1)
theorem LogsN.size {N M:Heaplet} {gs:List LogM} {xs:List LV} {ao:Option Addr} {n cap:Nat} (h:LogsN N gs xs) (s:RSl M 22 ao n cap (logsC xs)):n=gs.length:=by
 have h1:=s.1
 rw [logsC,flat_len LV.cells h.cells,h.1]at h1
 omega
section
variable {N : Heaplet} {ao : Option Addr} {n cap : Nat} {b l : List UInt8} {gs : List LogM} {xs : List LV}
end
end Go.Proofs.Ytljacjjeinmfnaa
/- The reference's filter of logs. No condition. -/
namespace Go.Proofs.Ytljacjjeinmfnaa
open Go Go.RowKit
set_option maxRecDepth 100000
/-- A part of a slice's cells, as a slice of bytes. -/
theorem rngSub {N:Heaplet} {b off o k:Nat} {cs ds:List Value} (h:Rng N b off cs) (hd:(cs.drop o).take k=ds):Rng N b (off+o) ds:=fun i hi=>by
 subst hd
 have hl:i<k∧o+i<cs.length:=by rw [List.length_take,List.length_drop]at hi;omega
 have:=h (o+i) hl.2
 rw [show off+o+i=off+(o+i) by omega,this,List.getElem_take,List.getElem_drop]
theorem sub8 {N:Heaplet} {b off o k:Nat} {cs:List Value} {l:List UInt8} (h:Rng N b off cs) (hd:(cs.drop o).take k=u8s l) (hl:l.length=k) (hm:k≤9223372036854775807):RSl N 1 (some ⟨b,off+o+0*1,none⟩) (k- 0) (k- 0) (u8s l):=by
 refine⟨by simp [u8s,hl],Nat.le_refl _,by unfold maxLen;omega,fun h0=>⟨b,off+o,rfl,rngSub h hd⟩⟩
section
variable {N : Heaplet} {ao : Option Addr} {n cap : Nat} {gs : List LogM} {xs : List LV}
end
end Go.Proofs.Ytljacjjeinmfnaa
/- The engine: a test that was made is known behind it; a byte of a string. For whatever program. No condition. -/
namespace Go.Proofs.Ytljacjjeinmfnaa
open Go Go.RowKit
section
variable {P : Program} {n : Nat} {l : List (Nat × Value)} {E : World} {L Ls : List Heaplet} {X Y : Act → World → Prop} {K : Act → World → Prop} {d : Nat} {t t' ty : TypeId} {x y : Operand}
theorem At.knowV {v:Value} (hl:lk l d=some v) (h:At n ((d,v)::l) E L K):At n l E L K:=fun a w hf hw=>h a w ⟨hf.defers,hf.size,fun i u hi=>by
 unfold lk at hi
 by_cases e:d=i
 ·subst e
  simp at hi
  subst hi
  exact hf.get d v hl
 ·have:Nat.beq d i=false:=beq_no e
  rw [this]at hi
  exact hf.get i u hi⟩ hw
theorem At.knowT {p:Prop} [Decidable p] (hl:lk l d=some (.bool (decide p))) (hp:p) (h:At n ((d,.bool true)::l) E L K):At n l E L K:=
 At.knowV (by rw [hl,decide_eq_true hp]) h
theorem At.knowF {p:Prop} [Decidable p] (hl:lk l d=some (.bool (decide p))) (hp: ¬p) (h:At n ((d,.bool false)::l) E L K):At n l E L K:=
 At.knowV (by rw [hl,decide_eq_false hp]) h
theorem At.knowBT {b:Bool} (hl:lk l d=some (.bool b)) (hb:b=true) (h:At n ((d,.bool true)::l) E L K):At n l E L K:=At.knowV (by rw [hl,hb]) h
theorem At.knowBF {b:Bool} (hl:lk l d=some (.bool b)) (hb:b=false) (h:At n ((d,.bool false)::l) E L K):At n l E L K:=At.knowV (by rw [hl,hb]) h
end
section
variable {P : Program} {n : Nat} {l : List (Nat × Value)} {E : World} {L Ls : List Heaplet} {X Y : Act → World → Prop} {d : Nat} {t ty : TypeId} {x : Operand}
end
end Go.Proofs.Ytljacjjeinmfnaa
/- Logs in new memory, cut. No condition. -/
namespace Go.Proofs.Ytljacjjeinmfnaa
open Go Go.RowKit
set_option maxRecDepth 100000
def LogM.cut (g:LogM):LogM:=⟨g.addr,g.topics.take 12,g.data.take 200⟩
def cutG (gs:List LogM):List LogM:=(gs.take 10).map LogM.cut
theorem hashC_len {hs:List (List UInt8)} (h: ∀x∈hs,x.length=32):(hashC hs).length=hs.length*32:=flat_len u8s (fun y hy=>by rw [bN];exact h y hy)
theorem hashC_take {hs:List (List UInt8)} (h: ∀x∈hs,x.length=32): ∀k,(hashC hs).take (k*32)=hashC (hs.take k):=by
 induction hs with
 |nil=>intro k;simp [hashC]
 |cons x t ih=>
  intro k
  cases k with
  |zero=>simp [hashC]
  |succ k=>
   have hx:(u8s x).length=32:=by rw [bN];exact h x (by simp)
   have:=ih (fun y hy=>h y (List.mem_cons_of_mem _ hy)) k
   show(u8s x++hashC t).take ((k+1)*32)=u8s x++hashC (t.take k)
   rw [show(k+1)*32=(u8s x).length+k*32 by rw [hx];omega,List.take_append,List.take_of_length_le (by omega),Nat.add_sub_cancel_left,this]
theorem hashC_one (hs:List (List UInt8)): ∀u∈hashC hs,u.oneCell'=true:=fun u hu=>by
 obtain⟨x,_,hx⟩:=List.mem_flatMap.1 hu
 exact one_u8s _ u hx
theorem setL_head {cs vs:List Value} (h:vs.length≤cs.length):setL cs 0 vs=vs++cs.drop vs.length:=by
 have:=setL_append vs [] (cs.take vs.length) (cs.drop vs.length) (by rw [List.length_take];omega)
 rw [List.nil_append,List.take_append_drop,List.nil_append]at this
 exact this
section
variable {N : Heaplet} {ao : Option Addr} {n cap : Nat} {hs : List (List UInt8)} {gs : List LogM} {xs : List LV}
theorem FKeys_b (h:RSl N 32 ao n cap (hashC hs)) (h32: ∀x∈hs,x.length=32):Fn Try.prog 48 #[.slice ao n cap] [] [N] (fun v L=> ∃M a c,v=.slice a (hs.take 12).length c∧L= [M]∧RSl M 32 a (hs.take 12).length c (hashC (hs.take 12))):=by
 have hl:=h.1
 rw [hashC_len h32]at hl
 have hn:n=hs.length:=by omega
 have hc:=h.2.1
 have hm:=h.2.2.1
 unfold maxLen at hm
 have ht:=hashC_take h32
 have htl:(hs.take 12).length=min 12 hs.length:=List.length_take ..
 refine Fn.enter (vs:= [.slice ao n cap]) Try.func48 rfl rfl rfl ?_
 intro E R hR
 have h:=h.le (hR N (by simp))
 change At _ _ E [R] _
 refine At.seq fun _ s_1=>At.region (aE (aC rfl) rfl rfl (aA (aB (s_1 (At.seq fun _ s_2=>At.meet (fun fr_ hp_=> ∃(k:Nat),fr_= [(0,.slice ao k cap)]∧hp_= [R]∧(k=(hs.take 12).length)∧(RSl R 32 ao k cap (hashC (hs.take 12)))) ?_ (fun K2_ jk_2=>?_))))))
 rotate_left
 ·skip
  refine At.seq fun _ s_3=>At.region (aD (aC rfl) rfl rfl (bP (aC rfl) se41 rfl rfl (op_gtr (aC rfl) rfl rfl rfl (aA (aB (s_3 (aP rfl (fun c5=>?_) (fun c5=>?_))))))))
  ·refine At.region (aD (aC rfl) rfl rfl (op_slice0 (aC rfl) se41 rfl (.some rfl (show _=(((12:Nat)):Int)from by omega)) .none (by omega) (by omega) (by simp) rfl ?_))
   refine aE (aC rfl) rfl rfl (aA ?_)
   refine aB (jk_2 ?_ (.refl _) ⟨12,rfl,rfl,by omega,by rw [←ht 12];exact h.take (by omega) (by omega) (by omega)⟩)
   exact .cons (by first|exact bE rfl (by omega)|rfl) .nil
  refine At.skip ?_
  refine aB (jk_2 ?_ (.refl _) ⟨n,rfl,rfl,by omega,by rw [List.take_of_length_le (by omega)];exact h⟩)
  exact .cons (by first|exact bE rfl (by omega)|rfl) .nil
 rintro _ _ ⟨k,rfl,rfl,hk,sk⟩
 refine s_2 (At.seq fun _ s_4=>At.region (op_lit (aV rfl) Try.underlying41 ze73 sz73 .nil rfl rfl (by simp [Value.cells]) rfl rfl rfl (fun N8 a8 r8=>?_)))
 simp only [flatV,List.flatMap_cons,List.flatMap_nil,Value.cells,List.append_nil,List.cons_append,List.nil_append]at r8
 have s8:=r8.rsl
 refine aD (aC rfl) rfl rfl ?_
 change Row N8 _ 32 a8 0 0 []at r8
 refine op_append (nxl rfl) Try.underlying41 Try.underlying41 te73 rfl rfl r8 sk (by first|exact aN|exact bC|exact bV|exact mem3|exact mem4|exact mem5|exact mem6|exact mem7|exact mem8|exact mem9) (hashC_one _) (by omega) (by omega) sel0 rfl (fun N10 a10 p10 r10=>?_)
 have s10:=r10.rsl
 refine aE (aC rfl) rfl rfl (aA (aB (s_4 (At.ret ((aZ (L1:= [N10]) rfl (.tmp rfl .nil) (.refl _) (.refl _) ?_))))))
 rw [Nat.zero_add,List.nil_append]at s10
 subst hk
 exact⟨N10,a10,p10,by rw [Nat.zero_add],rfl,s10⟩
/-- Logs, in new memory. -/
def LogsP (gs:List LogM) (v:Value) (L:List Heaplet):Prop:= ∃M J a c ys,v=.slice a gs.length c∧L= [M,J]∧Row M 43 22 a gs.length c (logsC ys)∧LogsN J gs ys
end
end Go.Proofs.Ytljacjjeinmfnaa
/- Layer 14: the items of hashes, in the program and in the reference. No condition. -/
namespace Go.Proofs.Ytljacjjeinmfnaa
open Go Go.RowKit
set_option maxRecDepth 100000
/-- An item, in memory that is told with it. -/
def ItemP (t:It) (v:Value) (L:List Heaplet):Prop:= ∃J x,v=IV.val x∧L= [J]∧ItN J t x
theorem cellsI_oneB (xs:List IV): ∀u∈cellsI xs,u.oneCell'=true:=fun u hu=>by
 obtain⟨x,_,hx⟩:=List.mem_flatMap.1 hu
 simp only [IV.cells,List.mem_cons,List.not_mem_nil,or_false]at hx
 rcases hx with rfl|rfl|rfl<;>rfl
theorem cellsI_app (xs ys:List IV):cellsI (xs++ys)=cellsI xs++cellsI ys:=by rw [cellsI,cellsI,cellsI,List.flatMap_append]
theorem hashC_size {N:Heaplet} {ao:Option Addr} {n cap:Nat} {hs:List (List UInt8)} (h:RSl N 32 ao n cap (hashC hs)) (h32: ∀x∈hs,x.length=32):n=hs.length:=by
 have:=h.1
 rw [hashC_len h32]at this
 omega
section
variable {N : Heaplet} {ao : Option Addr} {n cap : Nat} {hs : List (List UInt8)}
set_option maxHeartbeats 1000000 in
theorem FHashes_b (h:RSl N 32 ao n cap (hashC hs)) (h32: ∀x∈hs,x.length=32) (hn:n≤1099511627776):Fn Try.prog 99 #[.slice ao n cap] [] [N] (ItemP (itL (hs.map itS))):=by
 have hsz:=hashC_size h h32
 refine Fn.enter (vs:= [.slice ao n cap]) Try.func99 rfl rfl rfl ?_
 intro E R hR
 have h:=h.le (hR N (by simp))
 change At _ _ E [R] _
 refine At.seq fun _ s_1=>At.region (aU (aV rfl) ze92 rfl (fun N2 b2 B2=>?_))
 change Blk N2 b2 _ [.bool false,.slice none 0 0,.slice none 0 0]at B2
 refine aA (aB (s_1 (At.seq fun _ s_2=>At.region (aR (aV rfl) (.cons rfl .nil) (FList_b) Try.func36 rfl rfl (by simp) rfl ?_))))
 rintro v6 L6 ⟨rfl,rfl⟩
 change At _ _ _ [N2,R] _
 refine aU (aV rfl) ze92 rfl (fun N3 b3 B3=>?_)
 change Blk N3 b3 _ [.bool false,.slice none 0 0,.slice none 0 0]at B3
 refine aG (nxl rfl) sz92 rfl rfl rfl rfl rfl B3 (by simp) sel0 (fun N3 B3=>?_)
 simp only [setL,List.set]at B3
 refine aA (aB (s_2 (At.seq fun _ s_3=>At.seq fun _ s_4=>At.region (aD (aC rfl) rfl rfl (bP (aC rfl) se41 rfl rfl (aD (aC rfl) rfl rfl (aA (aB (s_4 (At.block (At.empty (At.empty (At.perm bJ (At.perm bJ (At.perm aX (At.perm aW (At.perm bJ (At.loop (fun fr_ hp_ ms_=> ∃(i m:Nat) (a:Option Addr) (c:Nat) (ys:List IV) (N3 Na NJ:Heaplet),fr_= [(2,.pointer (some ⟨b2,0,none⟩)),(3,.pointer (some ⟨b3,0,none⟩)),(7,.slice ao n cap),(8,.int .i64 (n:Int)),(9,.int .i64 (i:Int))]∧hp_= [N3,Na,NJ,N2,R]∧n- i=ms_∧(i≤n)∧(m=i)∧(Blk N3 b3 92 [.bool true,.slice none 0 0,.slice a m c])∧(Row Na 92 3 a m c (cellsI ys))∧(ItsN NJ ((hs.take i).map itS) ys)) ?_ (.refl _) ⟨0,0,none,0,[],N3,nilH,nilH,rfl,rfl,rfl,Nat.zero_le _,rfl,B3,Row.nil _ _ _,ItsN_nil⟩ ?_))))))))))))))))))
 ·exact .cons (by first|exact bE rfl (by omega)|rfl) (.cons (by first|exact bE rfl (by omega)|rfl) (.cons (by first|exact bE rfl (by omega)|rfl) (.cons (by first|exact bE rfl (by omega)|rfl) (.cons (by first|exact bE rfl (by omega)|rfl) .nil))))
 rintro _ _ _ ⟨i,m,a,c,ys,N3,Na,NJ,rfl,rfl,rfl,hi,hmi,B3,ra,hy⟩
 refine At.seq fun _ s_5=>At.region (op_lss (aC rfl) rfl rfl rfl (aA (aB (s_5 (At.seq fun _ s_6=>aP rfl (fun c10=>?_) (fun c10=>?_))))))
 ·have hlt:i<hs.length:=by omega
  obtain⟨t,hti⟩: ∃t,hs[i]? =some t:=⟨_,List.getElem?_eq_getElem hlt⟩
  have ht32:t.length=32:=h32 t (List.mem_of_getElem? hti)
  have hut:(u8s t).length=32:=by rw [bN,ht32]
  refine At.skip (aB (s_6 (At.seq fun _ s_7=>At.block (At.seq fun _ s_8=>At.region (op_idxE (aC rfl) se41 rfl rfl h (show _=(((i:Nat)):Int)from by omega) (by omega) rfl ?_)))))
  refine op_loadAggE (ds:=u8s t) (aC rfl) ag73 rfl h (by exact flat_at u8s (fun y hy=>by rw [bN];exact h32 y hy) hti) (by exact hut) (by omega) (by first|exact aN|exact bC|exact bV|exact mem3|exact mem4|exact mem5|exact mem6|exact mem7|exact mem8|exact mem9) rfl ?_
  refine aU (aV rfl) ze73 rfl (fun N5 b5 B5=>?_)
  change Blk N5 b5 _ [.int .u8 0,.int .u8 0,.int .u8 0,.int .u8 0,.int .u8 0,.int .u8 0,.int .u8 0,.int .u8 0,.int .u8 0,.int .u8 0,.int .u8 0,.int .u8 0,.int .u8 0,.int .u8 0,.int .u8 0,.int .u8 0,.int .u8 0,.int .u8 0,.int .u8 0,.int .u8 0,.int .u8 0,.int .u8 0,.int .u8 0,.int .u8 0,.int .u8 0,.int .u8 0,.int .u8 0,.int .u8 0,.int .u8 0,.int .u8 0,.int .u8 0,.int .u8 0]at B5
  refine aG (nxl rfl) sz73 rfl rfl rfl hut (all8x2 _) B5 (by simp [u8s,ht32]) sel0 (fun N5 B5=>?_)
  rw [bD (by rw [hut];rfl)]at B5
  refine aA (aB (s_8 ?_))
  have s5:=blk8 B5 ht32 (by decide)
  refine At.perm bL (At.perm aX (At.perm aX (At.perm bL (At.perm bL (At.perm bL (At.drawnS [N5,N3,R] [5,7] [] [0,1,2,3,4,5,6,7] (by kernel_rfl) (by kernel_rfl) (.cons _ (.cons _ (.cons _ (.refl _)))) (aF (bK rfl rfl rfl) fl92_2 rfl rfl (aH (bK rfl rfl rfl) sc90 rfl B3 (by first|rfl) bC rfl ?_))))))))
  refine op_sliceA (bK rfl rfl rfl) ae73 rfl .none .none .none (by omega) (by omega) (by omega) (by simp) rfl (aR (Nx.agree (nxsm rfl rfl rfl)) (.cons rfl .nil) (FText_b) Try.func37 rfl rfl (by simp) rfl ?_)
  rintro v16 L16 ⟨rfl,rfl⟩
  change At _ _ _ [Na,NJ,N2,N5,N3,R] _
  refine At.moreS (Lst:= [N5,N3,R]) (Lst':= [N5,N3,R]) (.refl _) (.cons _ (.cons _ (.cons _ (.refl _)))) (op_lit (Nx.agree (nxsm rfl rfl rfl)) Try.underlying90 ze92 sz92 (.cons rfl .nil) rfl rfl (by simp [Value.cells]) rfl rfl rfl (fun N17 a17 r17=>?_))
  simp only [flatV,List.flatMap_cons,List.flatMap_nil,Value.cells,List.append_nil,List.cons_append,List.nil_append]at r17
  have s17:=r17.rsl
  refine At.moreS (Lst:= [N5,N3,R]) (Lst':= [N5,N3,R]) (.refl _) (.cons _ (.cons _ (.cons _ (.cons _ (.refl _))))) ?_
  change Row N17 _ 3 a17 1 1 (cellsI [ivS (some ⟨b5,0+0*1,none⟩) (32- 0) (32- 0)])at r17
  have s17:=r17.rsl
  refine op_append (nxss rfl rfl rfl rfl) Try.underlying90 Try.underlying90 te92 rfl rfl ra s17 (by first|exact aN|exact bC|exact bV|exact mem3|exact mem4|exact mem5|exact mem6|exact mem7|exact mem8|exact mem9) (cellsI_oneB _) (by omega) (by omega) bZ rfl (fun N18 a18 p18 r18=>?_)
  have s18:=r18.rsl
  refine At.anyS (.refl _) ?_
  rw [←cellsI_app]at r18
  refine aF (bK rfl rfl rfl) fl92_2 rfl rfl (aG (nxsl rfl rfl rfl rfl) sz90 rfl rfl rfl rfl rfl B3 (by simp) bL (fun N3 B3=>?_))
  simp only [setL,List.set]at B3
  refine At.sNil (bB (aB (s_7 (At.region (bI (aC rfl) rfl rfl (by omega) (by omega) rfl (aD (aC rfl) rfl rfl (aA (aB (At.perm bR (At.perm bL (At.perm bJ (At.perm bJ (At.perm bJ (At.perm bR (At.perm bR (At.mergeN (fun J J1 J2=>At.sub (L':= [J,N3,N18,N2,R]) (.cons_cons _ (.cons_cons _ (.cons_cons _ (.cons _ (.cons_cons _ (.cons_cons _ (.slnil))))))) (At.perm bJ (At.perm bJ (At.perm aX (At.perm bJ ?_)))))))))))))))))))))
  refine At.perm bJ ?_
  refine At.back ?_ (.refl _) ⟨i+1,m+1,a18,p18,ys++ [ivS (some ⟨b5,0+0*1,none⟩) (32- 0) (32- 0)],N3,N18,J,rfl,rfl,rfl,by omega,by omega,B3,r18,by rw [take_next2 hti,List.map_append];exact(hy.le J1).snoc (ItN_S (s5.le J2))⟩ ?_
  ·exact .cons (by first|exact bE rfl (by omega)|rfl) (.cons (by first|exact bE rfl (by omega)|rfl) (.cons (by first|exact bE rfl (by omega)|rfl) (.cons (by first|exact bE rfl (by omega)|rfl) (.cons (by first|exact bE rfl (by omega)|rfl) .nil))))
  ·omega
 rw [List.take_of_length_le (by omega)]at hy
 refine At.exit (aO (aO (At.inHit (aB (s_3 (At.seq fun _ s_9=>At.region (aL (ds:= [_,_,_]) (aC rfl) ag92 rfl B3 rfl rfl aN rfl (aG (nxl rfl) sz92 rfl rfl rfl rfl rfl B2 (by simp) aW (fun N2 B2=>?_)))))))))
 simp only [setL,List.set]at B2
 refine aA (aB (s_9 (At.ret ((At.perm bJ (At.perm aX (At.perm aX (At.perm bJ (At.perm bJ (At.mergeN (fun Q Q1 Q2=>At.sub (L':= [Q,N2,R]) (.cons_cons _ (.cons_cons _ (.cons _ (.cons_cons _ (.slnil))))) (At.perm aX (At.perm bZ (At.perm aX (aZ (L1:= [Q]) rfl (.cell rfl (bH (ds:= [_,_,_]) ag92 B2 rfl rfl aN) .nil) (.cons _ (.refl _)) (.refl _) ?_)))))))))))))))
 exact⟨Q,ivL a m c,rfl,rfl,ItN_L (ra.rsl.le Q1) (hy.le Q2)⟩
end
end Go.Proofs.Ytljacjjeinmfnaa
/- Layer 14: the item of logs. No condition. -/
namespace Go.Proofs.Ytljacjjeinmfnaa
open Go Go.RowKit
set_option maxRecDepth 100000
/-- An item, in new memory and in what is read. -/
def ItemR (N:Heaplet) (t:It) (v:Value) (L:List Heaplet):Prop:= ∃J x,v=IV.val x∧L= [J]∧ ∀K:Heaplet,J.le K→N.le K→ItN K t x
def logIt (g:LogM):It:=itL [itS g.addr,itL (g.topics.map itS),itS g.data]
section
variable {N : Heaplet} {ao : Option Addr} {n cap : Nat} {gs : List LogM} {xs : List LV}
end
end Go.Proofs.Ytljacjjeinmfnaa
