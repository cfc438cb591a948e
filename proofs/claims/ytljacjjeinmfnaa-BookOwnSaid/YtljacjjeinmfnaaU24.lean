/- Several texts in one: see the remarks ahead of each part. No condition but those told there. -/
import Derived.Test.YtljacjjeinmfnaaU12
import Derived.Test.YtljacjjeinmfnaaU23
import Derived.Test.YtljacjjeinmfnaaU21
set_option linter.unusedSimpArgs false
set_option linter.unusedVariables false
/- Structs as arguments: their fields; a maker of contracts. No condition. -/
namespace Go.Proofs.Ytljacjjeinmfnaa
open Go Go.RowKit Go.ChangeShapes Go.WideShapes Go.Deep
theorem okWide_structB {P:Program} {w:World} {r:Reach} {base:Nat} {t:TypeId} {v:Value} {fs:Array Field} (ht:P.underlying t=some (.struct fs)) (h:Value.okWide P w r base t v): ∃cs:Array Value,v=.agg cs:=by
 unfold Value.okWide at h
 rw [ht]at h
 obtain⟨cs,rfl,hs,_⟩:=h
 exact⟨cs,rfl⟩
theorem words_of_cells: ∀cs:List Value,(∀i,i<cs.length→ ∃a:UInt64,(cs.drop i).take 1= [.int .u64 (a.toNat:Int)])→ ∃l:List UInt64,l.length=cs.length∧cs=u64s l:=by
 intro cs
 induction cs with
 |nil=>intro _;exact⟨[],rfl,rfl⟩
 |cons v t ih=>
  intro h
  obtain⟨a,ha⟩:=h 0 (Nat.zero_lt_succ _)
  obtain⟨l,hl,rfl⟩:=ih fun i hi=>by
   have:=h (i+1) (Nat.succ_lt_succ hi)
   rw [List.drop_succ_cons]at this
   exact this
  refine⟨a::l,by rw [List.length_cons,List.length_cons,hl],?_⟩
  simp only [List.drop_zero,List.take_succ_cons,List.take_zero,List.cons.injEq,and_true]at ha
  rw [ha];rfl
section
variable {H : Type} {enc : TypeId × Value → H} {w : World} {spare : Nat → Bool} {held : Bool}
theorem struct_open' {P:Program} {t:TypeId} {fs:Array Field} {fuel:Nat} {cs:List Value} {x:DataW H×List MemPlace} (ht:P.underlying t=some (.struct fs)) (h:DataW.trod enc P w 0 spare held fuel t cs=some x):
 cs.length=P.cellsOf t∧ ∃n, ∀(i:Nat) (f:Field),fs[i]? =some f→ ∃y,DataW.trod enc P w 0 spare held n f.type ((cs.drop f.offset).take (P.cellsOf f.type))=some y:=by
 obtain⟨xs,n,hf,_,hl,hlen,hx⟩:=DataW.trod_struct ht h
 refine⟨hl,n,fun i f hi=>?_⟩
 have hlt:i<xs.length:=by
  obtain⟨h1,_⟩:=Array.getElem?_eq_some_iff.1 hi
  rw [hlen];exact h1
 refine⟨xs[i],?_⟩
 rw [hx i f hi]
 exact List.getElem?_eq_getElem hlt
theorem open_u64c {P:Program} {t:TypeId} {fuel:Nat} {cs:List Value} {x:DataW H×List MemPlace} (ht:P.underlying t=some (.int .u64)) (h:DataW.trod enc P w 0 spare held fuel t cs=some x): ∃a:UInt64,cs= [.int .u64 (a.toNat:Int)]:=by
 obtain⟨q,hq,_,hw⟩:=DataW.trod_int ht h
 have hb:0≤q∧q≤18446744073709551615:=by simpa [Lit.wf,IntKind.min,IntKind.max,IntKind.signed,IntKind.bits]using hw
 refine⟨UInt64.ofNat q.toNat,hq.trans ?_⟩
 have h8:(UInt64.ofNat q.toNat).toNat=q.toNat:=by rw [UInt64.toNat_ofNat'];omega
 rw [h8]
 congr 2
 omega
theorem open_u8c {P:Program} {t:TypeId} {fuel:Nat} {cs:List Value} {x:DataW H×List MemPlace} (ht:P.underlying t=some (.int .u8)) (h:DataW.trod enc P w 0 spare held fuel t cs=some x): ∃a:UInt8,cs= [.int .u8 (a.toNat:Int)]:=by
 obtain⟨q,hq,_,hw⟩:=DataW.trod_int ht h
 have hb:0≤q∧q≤255:=by simpa [Lit.wf,IntKind.min,IntKind.max,IntKind.signed,IntKind.bits]using hw
 refine⟨UInt8.ofNat q.toNat,hq.trans ?_⟩
 have h8:(UInt8.ofNat q.toNat).toNat=q.toNat:=by rw [UInt8.toNat_ofNat'];omega
 rw [h8]
 congr 2
 omega
/-- Arrays of bytes; a word. -/
theorem bytes_cells {t e:TypeId} {k fuel:Nat} {cs:List Value} {x:DataW H×List MemPlace} (ht:Try.prog.underlying t=some (.array k e)) (he:Try.prog.underlying e=some (.int .u8)) (hc:Try.prog.cellsOf e=1) (hk:Try.prog.cellsOf t=k) (h:DataW.trod enc Try.prog w 0 spare held fuel t cs=some x): ∃l:List UInt8,l.length=k∧cs=u8s l:=by
 obtain⟨xs,m,_,_,hl,hlen,hx⟩:=DataW.trod_array ht h
 have hl':cs.length=k:=hl.trans hk
 obtain⟨l,h1,h2⟩:=bytes_of_cells cs fun i hi=>by
  have h:=hx i (by omega)
  rw [List.getElem?_eq_getElem (by omega),hc,Nat.mul_one]at h
  exact open_u8c he h
 exact⟨l,h1.trans hl',h2⟩
theorem word_cells {t e:TypeId} {fuel:Nat} {cs:List Value} {x:DataW H×List MemPlace} (ht:Try.prog.underlying t=some (.array 4 e)) (he:Try.prog.underlying e=some (.int .u64)) (hc:Try.prog.cellsOf e=1) (hk:Try.prog.cellsOf t=4) (h:DataW.trod enc Try.prog w 0 spare held fuel t cs=some x): ∃x:Nat,x<WW∧cs=u64s (wl x):=by
 obtain⟨xs,m,_,_,hl,hlen,hx⟩:=DataW.trod_array ht h
 have hl':cs.length=4:=hl.trans hk
 obtain⟨l,h1,h2⟩:=words_of_cells cs fun i hi=>by
  have h:=hx i (by omega)
  rw [List.getElem?_eq_getElem (by omega),hc,Nat.mul_one]at h
  exact open_u64c he h
 have hl4:l.length=4:=h1.trans hl'
 refine⟨v64 l,v64_lt4 hl4,?_⟩
 rw [←wl_self hl4];exact h2
end
end Go.Proofs.Ytljacjjeinmfnaa
/- Logs as an argument. No condition. -/
namespace Go.Proofs.Ytljacjjeinmfnaa
open Go Go.RowKit Go.ChangeShapes Go.WideShapes Go.Deep
set_option maxRecDepth 100000
section
variable {H : Type} {enc : TypeId × Value → H} {w : World} {spare : Nat → Bool} {held : Bool}
theorem hashes_open {n:Nat} {C:Nat→List Value} (h: ∀i,i<n→ ∃l:List UInt8,l.length=32∧C i=u8s l):
 ∃hs:List (List UInt8),hs.length=n∧(List.range n).flatMap C=hashC hs∧ ∀x∈hs,x.length=32:=by
 induction n with
 |zero=>exact⟨[],rfl,rfl,fun x hx=>by cases hx⟩
 |succ n ih=>
  obtain⟨hs,h1,h2,h3⟩:=ih fun i hi=>h i (by omega)
  obtain⟨l,hl,e⟩:=h n (by omega)
  refine⟨hs++ [l],by simp [h1],?_,fun x hx=>?_⟩
  ·simp only [List.range_succ,List.flatMap_append,List.flatMap_cons,List.flatMap_nil,List.append_nil,h2,e,hashC]
  ·rcases List.mem_append.1 hx with hx|hx
   ·exact h3 x hx
   ·rw [List.mem_singleton.1 hx];exact hl
theorem hash_slice {fuel:Nat} {cs:List Value} {x:DataW H×List MemPlace} (h:DataW.trod enc Try.prog w 0 spare held fuel 41 cs=some x):
 ∃ao n cap hs,cs= [.slice ao n cap]∧n=hs.length∧RSl (whole w) 32 ao n cap (hashC hs)∧ ∀y∈hs,y.length=32:=by
 have hc:Try.prog.cellsOf 73=32:=by kernel_rfl
 obtain⟨ao,n,cap,C,m,e,hr,_,hC⟩:=open_rsl Try.underlying41 (by rw [hc];decide) h
 rw [hc]at hr
 obtain⟨hs,h1,h2,h3⟩:=hashes_open (n:=n) (C:=C) fun i hi=>by
  obtain⟨_,y,hy⟩:=hC i hi
  exact bytes_cells Try.underlying73 Try.underlying5 (by kernel_rfl) hc hy
 rw [h2]at hr
 exact⟨ao,n,cap,hs,e,h1.symm,hr,h3⟩
end
end Go.Proofs.Ytljacjjeinmfnaa
/- Receipts and withdrawals as arguments. No condition. -/
namespace Go.Proofs.Ytljacjjeinmfnaa
open Go Go.RowKit Go.ChangeShapes Go.WideShapes Go.Deep
set_option maxRecDepth 100000
section
variable {H : Type} {enc : TypeId × Value → H} {w : World} {spare : Nat → Bool} {held : Bool}
theorem open_ic {P:Program} {t:TypeId} {fuel:Nat} {cs:List Value} {x:DataW H×List MemPlace} (ht:P.underlying t=some (.int .i64)) (h:DataW.trod enc P w 0 spare held fuel t cs=some x): ∃a:Int,cs= [.int .i64 a]∧ -9223372036854775808≤a∧a≤9223372036854775807:=by
 obtain⟨q,hq,_,hw⟩:=DataW.trod_int ht h
 exact⟨q,hq,by simpa [Lit.wf,IntKind.min,IntKind.max,IntKind.signed,IntKind.bits]using hw⟩
theorem open_boolc {P:Program} {t:TypeId} {fuel:Nat} {cs:List Value} {x:DataW H×List MemPlace} (ht:P.underlying t=some .bool) (h:DataW.trod enc P w 0 spare held fuel t cs=some x): ∃a:Bool,cs= [.bool a]:=by
 obtain⟨q,hq,_⟩:=DataW.trod_bool ht h
 exact⟨q,hq⟩
/-- Cells are cut in parts. -/
theorem cut_cells (cs:List Value) (i k:Nat):cs.drop i=(cs.drop i).take k++cs.drop (i+k):=by
 rw [←List.drop_drop,List.take_append_drop]
end
end Go.Proofs.Ytljacjjeinmfnaa
/- Transactions as arguments. No condition. -/
namespace Go.Proofs.Ytljacjjeinmfnaa
open Go Go.RowKit Go.ChangeShapes Go.WideShapes Go.Deep
set_option maxRecDepth 100000
section
variable {H : Type} {enc : TypeId × Value → H} {w : World} {spare : Nat → Bool} {held : Bool}
theorem acc_cells {fuel:Nat} {cs:List Value} {x:DataW H×List MemPlace} (h:DataW.trod enc Try.prog w 0 spare held fuel 109 cs=some x): ∃g y,cs=AV.cells y∧AccN (whole w) g y:=by
 obtain⟨hl,k,hx⟩:=struct_open' Try.underlying109 h
 have hl':cs.length=21:=hl.trans (by kernel_rfl)
 obtain⟨y0,h0⟩: ∃y,DataW.trod enc Try.prog w 0 spare held k 23 ((cs.drop 0).take (Try.prog.cellsOf 23))=some y:=hx 0 _ rfl
 obtain⟨y1,h1⟩: ∃y,DataW.trod enc Try.prog w 0 spare held k 41 ((cs.drop 20).take (Try.prog.cellsOf 41))=some y:=hx 1 _ rfl
 rw [show Try.prog.cellsOf 23=20 by kernel_rfl]at h0
 rw [show Try.prog.cellsOf 41=1 by kernel_rfl]at h1
 obtain⟨a,ha,ea⟩:=addr_cells h0
 obtain⟨ta,tn,tc,hs,et,htn,rt,h32⟩:=hash_slice h1
 refine⟨⟨a,hs⟩,⟨a,ta,tn,tc⟩,?_,rfl,ha,htn,rt,h32⟩
 have e:cs=(cs.drop 0).take 20++(cs.drop 20).take 1:=by
  rw [List.take_of_length_le (show(cs.drop 20).length≤1 by rw [List.length_drop];omega),List.drop_zero,List.take_append_drop]
 rw [ea,et]at e
 exact e
theorem accs_open {n:Nat} {C:Nat→List Value} (h: ∀i,i<n→ ∃g y,C i=AV.cells y∧AccN (whole w) g y):
 ∃gs xs,(List.range n).flatMap C=accC xs∧AccsN (whole w) gs xs∧gs.length=n:=by
 induction n with
 |zero=>exact⟨[],[],rfl,AccsN.nil,rfl⟩
 |succ n ih=>
  obtain⟨gs,xs,e,hi,hn⟩:=ih fun i hi=>h i (by omega)
  obtain⟨g,y,e2,hx⟩:=h n (by omega)
  refine⟨gs++ [g],xs++ [y],?_,hi.snoc hx,by simp [hn]⟩
  simp only [List.range_succ,List.flatMap_append,List.flatMap_cons,List.flatMap_nil,List.append_nil,e,e2,accC]
theorem accs_cells {fuel:Nat} {cs:List Value} {x:DataW H×List MemPlace} (h:DataW.trod enc Try.prog w 0 spare held fuel 56 cs=some x):
 ∃ao n cap gs xs,cs= [.slice ao n cap]∧n=gs.length∧RSl (whole w) 21 ao n cap (accC xs)∧AccsN (whole w) gs xs:=by
 have hc:Try.prog.cellsOf 109=21:=by kernel_rfl
 obtain⟨ao,n,cap,C,m,e,hr,_,hC⟩:=open_rsl Try.underlying56 (by rw [hc];decide) h
 rw [hc]at hr
 obtain⟨gs,xs,h1,h2,h3⟩:=accs_open (w:=w) (n:=n) (C:=C) fun i hi=>by
  obtain⟨_,y,hy⟩:=hC i hi
  exact acc_cells hy
 rw [h1]at hr
 exact⟨ao,n,cap,gs,xs,e,h3.symm,hr,h2⟩
theorem open_tx {r:Reach} {b0:Nat} {v:Value} {d:DataW H} {ps:List MemPlace} (hval:Value.okWide Try.prog w r b0 58 v) (hd:DataW.Trod enc Try.prog w 0 spare held 58 v d ps):
 ∃m d a b,v=.agg (TxM.cells m d a b).toArray∧m.Ok∧TxR (whole w) m d a b:=by
 obtain⟨cs,rfl⟩:=okWide_structB Try.underlying58 hval
 obtain⟨fuel,hf⟩:=hd
 obtain⟨hl,k,hx⟩:=struct_open' Try.underlying58 hf
 have hl':cs.toList.length=53:=hl.trans (by kernel_rfl)
 obtain⟨y0,h0⟩: ∃y,DataW.trod enc Try.prog w 0 spare held k 3 ((cs.toList.drop 0).take (Try.prog.cellsOf 3))=some y:=hx 0 _ rfl
 rw [show Try.prog.cellsOf 3=1 by kernel_rfl]at h0
 obtain⟨y1,h1⟩: ∃y,DataW.trod enc Try.prog w 0 spare held k 24 ((cs.toList.drop 1).take (Try.prog.cellsOf 24))=some y:=hx 1 _ rfl
 rw [show Try.prog.cellsOf 24=1 by kernel_rfl]at h1
 obtain⟨y2,h2⟩: ∃y,DataW.trod enc Try.prog w 0 spare held k 24 ((cs.toList.drop 2).take (Try.prog.cellsOf 24))=some y:=hx 2 _ rfl
 rw [show Try.prog.cellsOf 24=1 by kernel_rfl]at h2
 obtain⟨y3,h3⟩: ∃y,DataW.trod enc Try.prog w 0 spare held k 26 ((cs.toList.drop 3).take (Try.prog.cellsOf 26))=some y:=hx 3 _ rfl
 rw [show Try.prog.cellsOf 26=4 by kernel_rfl]at h3
 obtain⟨y4,h4⟩: ∃y,DataW.trod enc Try.prog w 0 spare held k 26 ((cs.toList.drop 7).take (Try.prog.cellsOf 26))=some y:=hx 4 _ rfl
 rw [show Try.prog.cellsOf 26=4 by kernel_rfl]at h4
 obtain⟨y5,h5⟩: ∃y,DataW.trod enc Try.prog w 0 spare held k 24 ((cs.toList.drop 11).take (Try.prog.cellsOf 24))=some y:=hx 5 _ rfl
 rw [show Try.prog.cellsOf 24=1 by kernel_rfl]at h5
 obtain⟨y6,h6⟩: ∃y,DataW.trod enc Try.prog w 0 spare held k 4 ((cs.toList.drop 12).take (Try.prog.cellsOf 4))=some y:=hx 6 _ rfl
 rw [show Try.prog.cellsOf 4=1 by kernel_rfl]at h6
 obtain⟨y7,h7⟩: ∃y,DataW.trod enc Try.prog w 0 spare held k 23 ((cs.toList.drop 13).take (Try.prog.cellsOf 23))=some y:=hx 7 _ rfl
 rw [show Try.prog.cellsOf 23=20 by kernel_rfl]at h7
 obtain⟨y8,h8⟩: ∃y,DataW.trod enc Try.prog w 0 spare held k 26 ((cs.toList.drop 33).take (Try.prog.cellsOf 26))=some y:=hx 8 _ rfl
 rw [show Try.prog.cellsOf 26=4 by kernel_rfl]at h8
 obtain⟨y9,h9⟩: ∃y,DataW.trod enc Try.prog w 0 spare held k 27 ((cs.toList.drop 37).take (Try.prog.cellsOf 27))=some y:=hx 9 _ rfl
 rw [show Try.prog.cellsOf 27=1 by kernel_rfl]at h9
 obtain⟨y10,h10⟩: ∃y,DataW.trod enc Try.prog w 0 spare held k 56 ((cs.toList.drop 38).take (Try.prog.cellsOf 56))=some y:=hx 10 _ rfl
 rw [show Try.prog.cellsOf 56=1 by kernel_rfl]at h10
 obtain⟨y11,h11⟩: ∃y,DataW.trod enc Try.prog w 0 spare held k 26 ((cs.toList.drop 39).take (Try.prog.cellsOf 26))=some y:=hx 11 _ rfl
 rw [show Try.prog.cellsOf 26=4 by kernel_rfl]at h11
 obtain⟨y12,h12⟩: ∃y,DataW.trod enc Try.prog w 0 spare held k 41 ((cs.toList.drop 43).take (Try.prog.cellsOf 41))=some y:=hx 12 _ rfl
 rw [show Try.prog.cellsOf 41=1 by kernel_rfl]at h12
 obtain⟨y13,h13⟩: ∃y,DataW.trod enc Try.prog w 0 spare held k 4 ((cs.toList.drop 44).take (Try.prog.cellsOf 4))=some y:=hx 13 _ rfl
 rw [show Try.prog.cellsOf 4=1 by kernel_rfl]at h13
 obtain⟨y14,h14⟩: ∃y,DataW.trod enc Try.prog w 0 spare held k 26 ((cs.toList.drop 45).take (Try.prog.cellsOf 26))=some y:=hx 14 _ rfl
 rw [show Try.prog.cellsOf 26=4 by kernel_rfl]at h14
 obtain⟨y15,h15⟩: ∃y,DataW.trod enc Try.prog w 0 spare held k 26 ((cs.toList.drop 49).take (Try.prog.cellsOf 26))=some y:=hx 15 _ rfl
 rw [show Try.prog.cellsOf 26=4 by kernel_rfl]at h15
 obtain⟨ki,e0,_⟩:=open_ic Try.underlying3 h0
 obtain⟨ch,e1⟩:=open_u64c Try.underlying24 h1
 obtain⟨nn,e2⟩:=open_u64c Try.underlying24 h2
 obtain⟨pr,l_pr,e3⟩:=word_cells Try.underlying26 Try.underlying24 (by kernel_rfl) (by kernel_rfl) h3
 obtain⟨tp,l_tp,e4⟩:=word_cells Try.underlying26 Try.underlying24 (by kernel_rfl) (by kernel_rfl) h4
 obtain⟨ga,e5⟩:=open_u64c Try.underlying24 h5
 obtain⟨mk,e6⟩:=open_boolc Try.underlying4 h6
 obtain⟨to,hto,e7⟩:=addr_cells h7
 obtain⟨va,l_va,e8⟩:=word_cells Try.underlying26 Try.underlying24 (by kernel_rfl) (by kernel_rfl) h8
 obtain⟨da,dn,dc,dl,e9,rd⟩:=open_u8 Try.underlying27 Try.underlying5 (by kernel_rfl) h9
 obtain⟨aa,an,ac,gs,xs,e10,han,ra,hga⟩:=accs_cells h10
 obtain⟨bf,l_bf,e11⟩:=word_cells Try.underlying26 Try.underlying24 (by kernel_rfl) (by kernel_rfl) h11
 obtain⟨ba,bn,bc,hs,e12,hbn,rb,h32⟩:=hash_slice h12
 obtain⟨od,e13⟩:=open_boolc Try.underlying4 h13
 obtain⟨r,l_r,e14⟩:=word_cells Try.underlying26 Try.underlying24 (by kernel_rfl) (by kernel_rfl) h14
 obtain⟨s,l_s,e15⟩:=word_cells Try.underlying26 Try.underlying24 (by kernel_rfl) (by kernel_rfl) h15
 obtain rfl:dl.length=dn:=rd.len8
 subst han hbn
 refine⟨⟨ki,ch.toNat,nn.toNat,pr,tp,ga.toNat,mk,to,va,dl,gs,bf,hs,od,r,s⟩,.slice da dl.length dc,.slice aa gs.length ac,.slice ba hs.length bc,?_,⟨ch.toNat_lt,nn.toNat_lt,l_pr,l_tp,ga.toNat_lt,hto,l_va,l_bf,h32,l_r,l_s⟩,da,dc,aa,ac,ba,bc,xs,rfl,rd,rfl,ra,hga,rfl,rb⟩
 have e0':(cs.toList.drop 0).take 1= [.int .i64 ki]:=e0
 have e1':(cs.toList.drop 1).take 1= [.int .u64 (ch.toNat:Int)]:=e1
 have e2':(cs.toList.drop 2).take 1= [.int .u64 (nn.toNat:Int)]:=e2
 have e3':(cs.toList.drop 3).take 4=u64s (wl pr):=e3
 have e4':(cs.toList.drop 7).take 4=u64s (wl tp):=e4
 have e5':(cs.toList.drop 11).take 1= [.int .u64 (ga.toNat:Int)]:=e5
 have e6':(cs.toList.drop 12).take 1= [.bool mk]:=e6
 have e7':(cs.toList.drop 13).take 20=u8s to:=e7
 have e8':(cs.toList.drop 33).take 4=u64s (wl va):=e8
 have e9':(cs.toList.drop 37).take 1= [.slice da dl.length dc]:=e9
 have e10':(cs.toList.drop 38).take 1= [.slice aa gs.length ac]:=e10
 have e11':(cs.toList.drop 39).take 4=u64s (wl bf):=e11
 have e12':(cs.toList.drop 43).take 1= [.slice ba hs.length bc]:=e12
 have e13':(cs.toList.drop 44).take 1= [.bool od]:=e13
 have e14':(cs.toList.drop 45).take 4=u64s (wl r):=e14
 have e15':(cs.toList.drop 49).take 4=u64s (wl s):=e15
 have e:cs.toList=(cs.toList.drop 0).take 1++((cs.toList.drop 1).take 1++((cs.toList.drop 2).take 1++((cs.toList.drop 3).take 4++((cs.toList.drop 7).take 4++((cs.toList.drop 11).take 1++((cs.toList.drop 12).take 1++((cs.toList.drop 13).take 20++((cs.toList.drop 33).take 4++((cs.toList.drop 37).take 1++((cs.toList.drop 38).take 1++((cs.toList.drop 39).take 4++((cs.toList.drop 43).take 1++((cs.toList.drop 44).take 1++((cs.toList.drop 45).take 4++((cs.toList.drop 49).take 4))))))))))))))):=by
  rw [List.take_of_length_le (show(cs.toList.drop 49).length≤4 by rw [List.length_drop];omega)]
  rw [←cut_cells _ 45 4, ←cut_cells _ 44 1, ←cut_cells _ 43 1, ←cut_cells _ 39 4, ←cut_cells _ 38 1, ←cut_cells _ 37 1, ←cut_cells _ 33 4, ←cut_cells _ 13 20, ←cut_cells _ 12 1, ←cut_cells _ 11 1, ←cut_cells _ 7 4, ←cut_cells _ 3 4, ←cut_cells _ 2 1, ←cut_cells _ 1 1, ←cut_cells _ 0 1,List.drop_zero]
 rw [e0',e1',e2',e3',e4',e5',e6',e7',e8',e9',e10',e11',e12',e13',e14',e15']at e
 rw [←Array.toArray_toList (xs:=cs),e]
 simp only [TxM.cells,txP,List.flatten_cons,List.flatten_nil,List.append_nil]
theorem open_bytes {r:Reach} {b0:Nat} {v:Value} {d:DataW H} {ps:List MemPlace} (hval:Value.okWide Try.prog w r b0 27 v) (hd:DataW.Trod enc Try.prog w 0 spare held 27 v d ps):
 ∃ao n cap bs,v=.slice ao n cap∧RSl (whole w) 1 ao n cap (u8s bs):=by
 obtain⟨ao',n',cap',rfl⟩:=okWide_slice Try.underlying27 hval
 obtain⟨fuel,hf⟩:=hd
 obtain⟨ao,n,cap,bs,e,h⟩:=open_u8 Try.underlying27 Try.underlying5 (by kernel_rfl) hf
 exact⟨ao,n,cap,bs,(List.cons.inj e).1,h⟩
end
end Go.Proofs.Ytljacjjeinmfnaa
