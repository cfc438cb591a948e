/- Several texts in one: see the remarks ahead of each part. No condition but those told there. -/
import Derived.Test.YtljacjjeinmfnaaU22
import Derived.Test.YtljacjjeinmfnaaU11
import Derived.Test.YtljacjjeinmfnaaU3
import Derived.WalkKit
import Derived.ProofKit
import Derived.OpenShut
import Derived.Below
import Derived.ChangeSame
import Derived.WideKeyArgs
import Derived.Deep.Slices
import Derived.Test.YtljacjjeinmfnaaU4
import Derived.Deep.Strs
set_option linter.unusedSimpArgs false
set_option linter.unusedVariables false
/- Layer 14: 'quarrylaw14.BookBack' answers true. No condition. -/
namespace Go.Proofs.Ytljacjjeinmfnaa
open Go Go.RowKit
set_option maxRecDepth 100000
theorem Fn.dup {P:Program} {f:FuncId} {args:Array Value} {K:Heaplet} {Post:Value→List Heaplet→Prop} (h:Fn P f args [] [K,K] Post):Fn P f args [] [K] Post:=fun E w R hw hr=>h E w R hw fun M hM=>hr M (by simp only [List.mem_cons,List.not_mem_nil,or_false]at hM;rcases hM with rfl|rfl<;>simp)
section
variable {N : Heaplet} {m : TxM} {d a b : Value}
/-- What WriteTx gives. -/
def WTxP (m:TxM) (v:Value) (L:List Heaplet):Prop:=
 (∃M p c,fitsM m∧v=.tuple #[.slice p (txB m).length c,.int .i64 0]∧L= [M]∧Row M 5 1 p (txB m).length c (u8s (txB m)))∨
 (¬fitsM m∧v=.tuple #[.slice none 0 0,.int .i64 1]∧L= [])
theorem FWriteTx (h:m.Ok) (hz:fitsM m→m.Sz) (hT:TxR N m d a b) (hl:(itL (wIts m)).form.length≤1099511627770):Fn Try.prog 24 #[.agg (m.cells d a b).toArray] [] [N] (WTxP m):=by
 by_cases hf:fitsM m
 ·exact(FWriteTx_ok h (hz hf) hT hf hl).mono fun v L ⟨M,p,c,h1,h2,h3⟩=>.inl ⟨M,p,c,hf,h1,h2,h3⟩
 ·exact(FWriteTx_bad h hT hf).mono fun v L ⟨h1,h2⟩=>.inr ⟨hf,h1,h2⟩
theorem TxS.one3 {zs:List IV} {NI J:Heaplet} (h:TxS zs NI J m d a b):d.oneCell'=true∧a.oneCell'=true∧b.oneCell'=true:=by
 obtain⟨da,dc,aa,cc,ba,bc,axs,rfl,_,_,rfl,_,_,rfl,_⟩:=h
 exact⟨rfl,rfl,rfl⟩
theorem BlkS.len {NI NT NK NO NW:Heaplet} {m:BlkM} {cs:List Value} (h:BlkS NI NT NK NO NW m cs):cs.length=560∧cs.all (·.oneCell')=true:=by
 obtain⟨v1,ta,tc,vs,ys,oa,oc,xs,wa,wc,t,zs,zt,rfl,k1,k2,⟨zs',k3⟩,_⟩:=h
 exact⟨blk_len (HdM.len k1 _),blk_one (HdM.one k3.one) rfl rfl rfl⟩
theorem z_tx1:z58.all (·.oneCell')=true:=by decide+kernel
theorem z_hd1:z76.all (·.oneCell')=true:=by decide+kernel
theorem z_bk1:z82.all (·.oneCell')=true:=by decide+kernel
theorem TxR.one (h:TxR N m d a b):d.oneCell'=true∧a.oneCell'=true∧b.oneCell'=true:=by
 obtain⟨da,dc,aa,cc,ba,bc,axs,rfl,_,rfl,_,_,rfl,_⟩:=h
 exact⟨rfl,rfl,rfl⟩
theorem cut_sz (m:TxM):(cutM m).da.length≤800∧(cutM m).ac.length≤12∧(∀g∈(cutM m).ac,g.keys.length≤12)∧(cutM m).bb.length≤12:=by
 refine⟨by simp only [cutM,List.length_take];omega,by simp only [cutM,cutA,List.length_map,List.length_take];omega,fun g hg=>?_,by simp only [cutM,List.length_take];omega⟩
 obtain⟨x,_,rfl⟩:=List.mem_map.1 hg
 simp only [AccM.cut,List.length_take];omega
theorem txB_len {m:TxM} {B:Nat} (h:(itL (wIts m)).form.length≤B):(txB m).length≤B+1:=by
 rw [txB,List.length_append]
 have:(kindB m.ki).length≤1:=by
  unfold kindB
  split
  ·exact Nat.le_refl _
  ·exact Nat.zero_le _
 omega
theorem readSz {b:List UInt8} {m:BlkM} (h:readBlkE b=.ok m) (hb:b.length≤8000):m.Sz:=by
 obtain⟨t,ht,h⟩:=bX h
 exact blkSz (B:=8000) (by decide) (by rw [(decodeF_back (by omega) ht).1];exact hb) h
theorem BlkS.ok {NI NT NK NO NW:Heaplet} {m:BlkM} {cs:List Value} (h:BlkS NI NT NK NO NW m cs):okF m.hd.fi∧ ∀x∈m.oms,okF x.fi:=by
 obtain⟨v1,ta,tc,vs,ys,oa,oc,xs,wa,wc,t,zs,zt,e,k1,k2,_,k5,_,k6,k7,k8,k9,_⟩:=h
 refine⟨k2,fun x hx=>?_⟩
 rw [←k9]at hx
 obtain⟨y,hy,rfl⟩:=List.mem_map.1 hx
 exact(k8 y hy).2.1
end
end Go.Proofs.Ytljacjjeinmfnaa
/- From what an argument reads as to the engine's facts; what is read again behind the call. No condition. -/
namespace Go.Proofs.Ytljacjjeinmfnaa
open Go Go.RowKit Go.ChangeShapes Go.WideShapes Go.Deep
theorem add_off (a:Addr) (n:Nat):(a.add n).off=a.off+n:=by unfold Addr.add;split<;>simp_all
theorem add_block (a:Addr) (n:Nat):(a.add n).block=a.block:=by unfold Addr.add;split<;>rfl
theorem cellOf_whole {w:World} {a:Addr} {v:Value} (h:w.cell? a=some v):a.spot=none∧cellOf (whole w) a.block a.off=some v:=by
 unfold World.cell? at h
 unfold cellOf whole
 split at h
 ·rename_i c t fr e
  split at h
  ·cases h
  ·rename_i hs
   rw [e]
   exact⟨by simpa using hs,h⟩
 ·cases h
theorem rng_whole {w:World} {a:Addr} {base n size:Nat} {C:Nat→List Value} (h: ∀i,i<n→w.cells? base (a.add (i*size)) size=some (C i)):
 Rng (whole w) a.block a.off ((List.range n).flatMap C)∧((List.range n).flatMap C).length=n*size:=by
 induction n with
 |zero=>exact⟨fun i hi=>by simp at hi,by simp⟩
 |succ n ih=>
  obtain⟨h1,h2⟩:=ih fun i hi=>h i (by omega)
  obtain⟨_,hl,hc⟩:=World.cells?_some (h n (by omega))
  have e:(List.range (n+1)).flatMap C=(List.range n).flatMap C++C n:=by simp [List.range_succ]
  rw [e]
  refine⟨fun i hi=>?_,by rw [List.length_append,h2,hl,Nat.succ_mul]⟩
  by_cases hlt:i<((List.range n).flatMap C).length
  ·rw [List.getElem_append_left hlt];exact h1 i hlt
  ·rw [List.length_append]at hi
   rw [List.getElem_append_right (by omega)]
   have hk:=hc (i- n*size) (by omega)
   rw [List.getElem?_eq_getElem (by omega)]at hk
   have h3:=(cellOf_whole hk).2
   have e2:((a.add (n*size)).add (i- n*size)).off=a.off+i:=by rw [add_off,add_off];omega
   rw [e2,add_block,add_block]at h3
   have e3:i- ((List.range n).flatMap C).length=i- n*size:=by rw [h2]
   simp only [e3]
   exact h3
section
variable {H : Type} {enc : TypeId × Value → H} {P : Program} {w : World} {spare : Nat → Bool} {held : Bool}
theorem open_rsl {t e:TypeId} {fuel:Nat} {cs:List Value} {x:DataW H×List MemPlace} (ht:P.underlying t=some (.slice e)) (hpos:0<P.cellsOf e) (h:DataW.trod enc P w 0 spare held fuel t cs=some x):
 ∃ao n cap C m,cs= [.slice ao n cap]∧RSl (whole w) (P.cellsOf e) ao n cap ((List.range n).flatMap C)∧(n=0∨fuel=m+1)∧
  ∀i,i<n→(C i).length=P.cellsOf e∧ ∃y,DataW.trod enc P w 0 spare held m e (C i)=some y:=by
 rcases DataW.trod_slice ht h with ⟨rfl,_⟩|⟨a,len,cap,elems,rest,n,hf,rfl,rfl,hb,hl,hm,hlen,hel,hsp,hns⟩
 ·exact⟨none,0,0,fun _=> [],0,rfl,⟨by simp,by omega,by simp [maxLen],fun h=>by omega⟩,Or.inl rfl,fun i hi=>by omega⟩
 ·obtain⟨C,hC⟩:=choose_lt (α:=List Value) (p:=fun i c=>w.cells? 0 (a.add (i*P.cellsOf e)) (P.cellsOf e)=some c∧ ∃y,DataW.trod enc P w 0 spare held n e c=some y) (n:=len) (fun i hi=>by
   have:=hel i hi
   rw [List.getElem?_eq_getElem (by omega)]at this
   obtain⟨c,h1,h2⟩:=Option.bind_eq_some_iff.1 this
   exact⟨c,h1,_,h2⟩)
  obtain⟨h1,h2⟩:=rng_whole (fun i hi=>(hC i hi).1)
  refine⟨some a,len,cap,C,n,rfl,⟨h2,hl,hm,fun h0=>?_⟩,Or.inr hf,fun i hi=>⟨(World.cells?_some (hC i hi).1).2.1,(hC i hi).2⟩⟩
  obtain⟨_,hl0,hc0⟩:=World.cells?_some (hC 0 h0).1
  have hk:=hc0 0 hpos
  rw [List.getElem?_eq_getElem (by omega)]at hk
  have hs:=(cellOf_whole hk).1
  have hs':a.spot=none:=by simpa [Addr.add]using hs
  refine⟨a.block,a.off,?_,h1⟩
  cases a;simp at hs';subst hs';rfl
/-- The bytes that a list of cells holds. -/
def u8of:Value→UInt8
 |.int _ q=>UInt8.ofNat q.toNat
 |_=>0
theorem open_u8 {t e:TypeId} {fuel:Nat} {cs:List Value} {x:DataW H×List MemPlace} (ht:P.underlying t=some (.slice e)) (he:P.underlying e=some (.int .u8)) (hc:P.cellsOf e=1) (h:DataW.trod enc P w 0 spare held fuel t cs=some x):
 ∃ao n cap bs,cs= [.slice ao n cap]∧RSl (whole w) 1 ao n cap (u8s bs):=by
 obtain⟨ao,n,cap,C,m,rfl,hr,_,hC⟩:=open_rsl ht (by omega) h
 refine⟨ao,n,cap,((List.range n).flatMap C).map u8of,rfl,?_⟩
 have e:u8s (((List.range n).flatMap C).map u8of)=(List.range n).flatMap C:=by
  unfold u8s
  rw [List.map_map]
  refine(List.map_congr_left (g:=id) fun v hv=>?_).trans (List.map_id _)
  obtain⟨i,hi,hv⟩:=List.mem_flatMap.1 hv
  obtain⟨hl,y,hy⟩:=hC i (List.mem_range.1 hi)
  obtain⟨q,hq,_,hw⟩:=DataW.trod_int he hy
  rw [hq]at hv
  obtain rfl:=List.mem_singleton.1 hv
  have hb:0≤q∧q≤255:=by simpa [Lit.wf,IntKind.min,IntKind.max,IntKind.signed,IntKind.bits]using hw
  simp only [Function.comp,u8of,vb,id]
  have h8:(UInt8.ofNat q.toNat).toNat=q.toNat:=by rw [UInt8.toNat_ofNat'];omega
  rw [h8]
  congr 1
  omega
 rw [e, ←hc]
 exact hr
theorem stays_all {W W':World} {sp:Nat→Bool} (hl:laidOutB P=true): ∀ {ts:List TypeId} {vs:List Value} {ds:List (DataW H)} {ps:List MemPlace},(∀t∈ts,P.readableRec t=true∧t<P.types.size)→
 DataW.TrodAll enc P W 0 (fun _=>true) true ts vs ds ps→(∀p∈ps,W.sameAt W' p)→(∀p∈ps,sp p.block=true)→DataW.TrodAll enc P W' 0 sp true ts vs ds ps
 | [],[],[],_,_,h,_,_=>h
 |t::_,_::_,_::_,_,hr,⟨p,q,h1,h2,e⟩,hs,hb=>⟨p,q,
  Go.WideElems.Trod_stays hl (hr t (by simp)).1 (hr t (by simp)).2 h1 (fun x hx=>hs x (by rw [e];simp [hx])) (fun x hx=>hb x (by rw [e];simp [hx])),
  stays_all hl (fun t ht=>hr t (by simp [ht])) h2 (fun x hx=>hs x (by rw [e];simp [hx])) (fun x hx=>hb x (by rw [e];simp [hx])),e⟩
theorem sameAt_below {W W':World} (h:Below W.heap.size W W') {p:MemPlace} (hp:p.block<W.heap.size):W.sameAt W' p:=by
 cases p with
 |cell b off=>
  show W'.cell? ⟨b,off,none⟩=W.cell? ⟨b,off,none⟩
  have e:W'.heap[b]? =W.heap[b]? :=h.block b hp
  unfold World.cell?
  simp only [e]
 |map b=>exact h.block b hp
/-- A law's last step: it answered v, and all that was there is there as it was. -/
theorem law_post {f:Func} {s:ChangeSpec} {W W':World} {args:Array Value} {v:Value} {r:DataW H} {ds gs:List (DataW H)} {before:List MemPlace} {tr:TypeId}
 (hW:DataW.Whole enc P f.params.toList s.vars false W args.toList ds gs before) (hv:s.vars= [])
 (hs:s.fn H (ds++gs)= { results:= [r],args:=ds }) (hone':v.resultList 1= [v]) (hres:f.resultTypes= #[tr])
 (hr: ∀(b:Nat) (sp:Nat→Bool) (hd:Bool),DataW.Trod enc P W' b sp hd tr v r []) (hok:Value.okWide P W' .any 0 tr v)
 (hl:laidOutB P=true) (ht: ∀t∈f.params.toList,P.readableRec t=true∧t<P.types.size) (hb:Below W.heap.size W W'):
 s.post enc P f false true false false W args v W':=by
 have hlt: ∀p∈before,p.block<W.heap.size:=fun p hp=>hW.lt p hp
 have hW':=hW
 obtain⟨p,q,hA,hV,rfl,hfz,hnd⟩:=hW
 rw [hv]at hV
 obtain⟨rfl,rfl⟩:=trodVars_none hV
 simp only [List.append_nil]at hs hlt hW' hfz
 have again: ∀sp:Nat→Bool,(∀x∈p,sp x.block=true)→DataW.TrodAll enc P W' 0 sp true f.params.toList args.toList ds p:=fun sp hsp=>
  stays_all hl ht hA (fun x hx=>sameAt_below hb (hlt x hx)) hsp
 have hrl:v.resultList f.resultTypes.size= [v]:=by rw [hres];exact hone'
 have hone: ∀(b:Nat) (sp:Nat→Bool) (hd:Bool),DataW.TrodAll enc P W' b sp hd f.resultTypes.toList (v.resultList f.resultTypes.size) [r] []:=fun b sp hd=>by
  rw [hrl,hres];exact⟨[],[],hr b sp hd,rfl,rfl⟩
 have hold: ∀x∈p,(fun b=>decide (b<W.heap.size)) x.block=true:=fun x hx=>by simpa using hlt x hx
 have hvs: ∀sp:Nat→Bool,DataW.TrodVars enc P W' sp s.vars [] []:=fun sp=>by rw [hv];rfl
 refine⟨ds,[],p,[],p,[],by simpa using hW',by simp only [List.append_nil];rw [hs];exact hone _ _ _,by simp only [List.append_nil];rw [hs];exact again _ hold,by simp only [List.append_nil];rw [hs];exact hvs _,
  World.keptBut_mono (fun x hx=>⟨hx,Or.inr (Or.inl hx)⟩) (hb.frame (· ∈p)),fun _=>?_⟩
 refine⟨?_,_,_,([]++p)++ [],⟨[]++p,[],trodAll_append (again _ (fun _ _=>rfl)) (hone _ _ _),hvs _,rfl,?_,?_⟩,?_⟩
 ·intro j t r hj hr
  rw [hrl]at hr
  rw [hres]at hj
  cases j with
  |zero=>simp at hj hr;subst hj;subst hr;exact hok
  |succ j=>simp at hr
 ·intro b off hp
  have hin:MemPlace.cell b off∈p:=by simpa using hp
  rw [hb.frozen (hlt _ hin)]
  exact hfz b off hin
 ·intro ha
  cases ha
 ·intro x hx _
  simpa using hx
end
end Go.Proofs.Ytljacjjeinmfnaa
/- An address as an argument: an array of bytes. No condition. -/
namespace Go.Proofs.Ytljacjjeinmfnaa
open Go Go.RowKit Go.ChangeShapes Go.WideShapes Go.Deep
theorem bytes_of_cells: ∀cs:List Value,(∀i,i<cs.length→ ∃a:UInt8,(cs.drop i).take 1= [.int .u8 (a.toNat:Int)])→ ∃l:List UInt8,l.length=cs.length∧cs=u8s l:=by
 intro cs
 induction cs with
 |nil=>intro _;exact⟨[],rfl,rfl⟩
 |cons v t ih=>
  intro h
  obtain⟨a,ha⟩:=h 0 (Nat.zero_lt_succ _)
  obtain⟨l,hl,rfl⟩:=ih fun i hi=>by
   have:=h (i+1) (Nat.succ_lt_succ hi)
   rw [List.drop_succ_cons]at this
   exact this
  refine⟨a::l,by rw [List.length_cons,List.length_cons,hl],?_⟩
  simp only [List.drop_zero,List.take_succ_cons,List.take_zero,List.cons.injEq,and_true]at ha
  rw [ha];rfl
section
variable {H : Type} {enc : TypeId × Value → H} {w : World} {spare : Nat → Bool} {held : Bool}
set_option maxRecDepth 100000 in
theorem addr_cells {fuel:Nat} {cs:List Value} {x:DataW H×List MemPlace} (h:DataW.trod enc Try.prog w 0 spare held fuel 23 cs=some x): ∃l:List UInt8,l.length=20∧cs=u8s l:=by
 obtain⟨xs,m,_,_,hl,hlen,hx⟩:=DataW.trod_array Try.underlying23 h
 have hl':cs.length=20:=hl.trans (by kernel_rfl)
 obtain⟨l,h1,h2⟩:=bytes_of_cells cs fun i hi=>by
  have h:=hx i (by omega)
  rw [List.getElem?_eq_getElem (by omega),show Try.prog.cellsOf 5=1 from by kernel_rfl,Nat.mul_one]at h
  obtain⟨q,hq,_,hw⟩:=DataW.trod_int Try.underlying5 h
  have hb:0≤q∧q≤255:=by simpa [Lit.wf,IntKind.min,IntKind.max,IntKind.signed,IntKind.bits]using hw
  refine⟨UInt8.ofNat q.toNat,hq.trans ?_⟩
  have h8:(UInt8.ofNat q.toNat).toNat=q.toNat:=by rw [UInt8.toNat_ofNat'];omega
  rw [h8]
  congr 2
  omega
 exact⟨l,h1.trans hl',h2⟩
end
end Go.Proofs.Ytljacjjeinmfnaa
