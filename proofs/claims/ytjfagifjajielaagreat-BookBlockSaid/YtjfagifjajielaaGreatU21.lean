/- Several texts in one: see the remarks ahead of each part. No condition but those told there. -/
import Derived.Test.YtjfagifjajielaaGreatU20
set_option linter.unusedSimpArgs false
set_option linter.unusedVariables false
/- Layer 14: a transaction is read out of bytes. No condition but that bytes are not longer than a machine holds. -/
namespace Go.Proofs.YtjfagifjajielaaGreat
open Go Go.RowKit
set_option maxRecDepth 100000
/-- A transaction, or what is wrong. -/
def readTxE (b:List UInt8):Except Nat TxM:=match envF b with
 |none=>.error 2
 |some (k,p)=>if k≤3∧(0<k∨0<(b.getD 0 0).toNat)then eb (decodeF p) fun t=>eb (listE t) (txE k)else .error 2
theorem eb_ne {α β:Type} {x:Except Nat α} {f:α→Except Nat β} (hx: ∀e,x=.error e→e≠0) (hf: ∀a e,f a=.error e→e≠0): ∀e,eb x f=.error e→e≠0:=fun e h=>by
 cases x with
 |ok a=>exact hf a e h
 |error e'=>cases h;exact hx _ rfl
theorem ok_ne {α:Type} {a:α} : ∀e,(Except.ok a:Except Nat α)=.error e→e≠0:=fun e h=>by cases h
theorem er_ne {α:Type} {k:Nat} (hk:k≠0): ∀e,(Except.error k:Except Nat α)=.error e→e≠0:=fun e h=>by cases h;exact hk
theorem if_ne {α:Type} {c:Prop} [Decidable c] {x y:Except Nat α} (hx:c→ ∀e,x=.error e→e≠0) (hy: ¬c→ ∀e,y=.error e→e≠0): ∀e,(if c then x else y)=.error e→e≠0:=fun e h=>by
 split at h
 ·rename_i k;exact hx k e h
 ·rename_i k;exact hy k e h
theorem strE_ne {t:It} : ∀e,strE t=.error e→e≠0:=fun e h=>by
 obtain⟨l,bs,its⟩:=t
 cases l with
 |false=>cases h
 |true=>cases h;decide
theorem listE_ne {t:It} : ∀e,listE t=.error e→e≠0:=fun e h=>by
 obtain⟨l,bs,its⟩:=t
 cases l with
 |false=>cases h;decide
 |true=>cases h
theorem fixE_ne {k:Nat} {t:It} : ∀e,fixE k t=.error e→e≠0:=fun e h=>by
 unfold fixE at h
 split at h
 ·split at h
  ·cases h
  ·cases h;decide
 ·rename_i he;cases h;exact strE_ne _ he
theorem wordE_ne {t:It} : ∀e,wordE t=.error e→e≠0:=fun e h=>by
 unfold wordE at h
 split at h
 ·split at h
  ·cases h
  ·rename_i k;cases h;exact k
 ·rename_i he;cases h;exact strE_ne _ he
theorem smallE_ne {t:It} : ∀e,smallE t=.error e→e≠0:=fun e h=>by
 unfold smallE at h
 split at h
 ·split at h
  ·cases h
  ·cases h;decide
 ·rename_i he;cases h;exact wordE_ne _ he
theorem n64E_ne {t:It} : ∀e,n64E t=.error e→e≠0:=eb_ne smallE_ne fun _=>ok_ne
theorem mapE_ne {α:Type} {g:It→Except Nat α} (hg: ∀t e,g t=.error e→e≠0): ∀(ts:List It) (e:Nat),mapE g ts=.error e→e≠0:=by
 intro ts
 induction ts with
 |nil=>intro e h;cases h
 |cons t ts ih=>
  intro e h
  unfold mapE at h
  split at h
  ·rename_i he;cases h;exact hg t _ he
  ·split at h
   ·rename_i he;cases h;exact ih _ he
   ·cases h
theorem eachE_ne {α:Type} {g:It→Except Nat α} (hg: ∀t e,g t=.error e→e≠0) {t:It} : ∀e,eachE g t=.error e→e≠0:=fun e h=>by
 unfold eachE at h
 split at h
 ·rename_i he;cases h;exact listE_ne _ he
 ·exact mapE_ne hg _ e h
/-- What a reader owns: the item, and where its parts lie. -/
def ItemO (NI:Heaplet) (t:It) (zs:List IV):Prop:= ∃x:IV,ItN NI t x∧OwnTop NI t x∧RSl NI 3 x.ai x.ni x.ci (cellsI zs)
def ReadTxP (b:List UInt8) (v:Value) (L:List Heaplet):Prop:=
 (∃e:Nat,e≠0∧v=.tuple #[.agg z32.toArray,.int .i64 (e:Int)]∧L= []∧readTxE b=.error e)∨
 (∃NI J m d x y t zs,v=.tuple #[.agg (m.cells d x y).toArray,.int .i64 0]∧L= [NI,J]∧readTxE b=.ok m∧m.Ok∧TxS zs NI J m d x y∧ItemO NI t zs)
theorem TxM.cells_len {m:TxM} (h:m.Ok) (d a b:Value):(m.cells d a b).length=53:=txP_len h.to
theorem TxM.one {m:TxM} {d a b:Value} (hd:d.oneCell'=true) (ha:a.oneCell'=true) (hb:b.oneCell'=true):(m.cells d a b).all (·.oneCell')=true:=by
 refine part_all fun p hp u hu=>?_
 simp only [txP,List.mem_cons,List.not_mem_nil,or_false]at hp
 rcases hp with rfl|rfl|rfl|rfl|rfl|rfl|rfl|rfl|rfl|rfl|rfl|rfl|rfl|rfl|rfl|rfl
 all_goals first
  |exact one_u8s _ u hu
  |exact one_u64s _ u hu
  |(obtain rfl:=List.mem_singleton.1 hu;first|exact hd|exact ha|exact hb|rfl)
theorem deco_le {b:List UInt8} {t:It} (hb:b.length≤1099511627776) (h:decodeF b=.ok t):t.form.length≤1099511627776:=by
 rw [(decodeF_back (by omega) h).1];exact hb
theorem its_le {t:It} {its:List It} (h:listE t=.ok its) (hb:t.form.length≤1099511627776): ∀y∈its,y.form.length≤1099511627776:=fun y hy=>el_le hb h hy
section
variable {N : Heaplet} {ao : Option Addr} {n cap : Nat} {b : List UInt8}
end
end Go.Proofs.YtjfagifjajielaaGreat
/- Layer 14: a header is read out of an item. No condition. -/
namespace Go.Proofs.YtjfagifjajielaaGreat
open Go Go.RowKit
set_option maxRecDepth 100000
section
variable {h : HdM} {v w : Value} {x : List UInt8} {n : Nat} {u : UInt64}
variable {fi : Int} {pa om co st tx rc bl ex mx no wd be : List UInt8} {df bf : Nat} {nu gl gu ti bg xs : UInt64}
theorem hd_pa (k:HdM.Ok (⟨fi,pa,om,co,st,tx,rc,bl,df,nu,gl,gu,ti,ex,mx,no,bf,wd,bg,xs,be⟩:HdM)) (hx:x.length=32):setL (HdM.cells (⟨fi,pa,om,co,st,tx,rc,bl,df,nu,gl,gu,ti,ex,mx,no,bf,wd,bg,xs,be⟩:HdM) v) (0+1) (u8s x)=HdM.cells (⟨fi,x,om,co,st,tx,rc,bl,df,nu,gl,gu,ti,ex,mx,no,bf,wd,bg,xs,be⟩:HdM) v:=part_set (HdM.lens k v) (j:=1) (q:=u8s x) rfl rfl (by simp only [aY,hx];exact k.pa.symm)
theorem ok_pa (k:HdM.Ok (⟨fi,pa,om,co,st,tx,rc,bl,df,nu,gl,gu,ti,ex,mx,no,bf,wd,bg,xs,be⟩:HdM)) (hx:x.length=32):HdM.Ok (⟨fi,x,om,co,st,tx,rc,bl,df,nu,gl,gu,ti,ex,mx,no,bf,wd,bg,xs,be⟩:HdM):= { k with pa:=hx }
theorem hd_om (k:HdM.Ok (⟨fi,pa,om,co,st,tx,rc,bl,df,nu,gl,gu,ti,ex,mx,no,bf,wd,bg,xs,be⟩:HdM)) (hx:x.length=32):setL (HdM.cells (⟨fi,pa,om,co,st,tx,rc,bl,df,nu,gl,gu,ti,ex,mx,no,bf,wd,bg,xs,be⟩:HdM) v) (0+33) (u8s x)=HdM.cells (⟨fi,pa,x,co,st,tx,rc,bl,df,nu,gl,gu,ti,ex,mx,no,bf,wd,bg,xs,be⟩:HdM) v:=part_set (HdM.lens k v) (j:=2) (q:=u8s x) rfl rfl (by simp only [aY,hx];exact k.om.symm)
theorem ok_om (k:HdM.Ok (⟨fi,pa,om,co,st,tx,rc,bl,df,nu,gl,gu,ti,ex,mx,no,bf,wd,bg,xs,be⟩:HdM)) (hx:x.length=32):HdM.Ok (⟨fi,pa,x,co,st,tx,rc,bl,df,nu,gl,gu,ti,ex,mx,no,bf,wd,bg,xs,be⟩:HdM):= { k with om:=hx }
theorem hd_co (k:HdM.Ok (⟨fi,pa,om,co,st,tx,rc,bl,df,nu,gl,gu,ti,ex,mx,no,bf,wd,bg,xs,be⟩:HdM)) (hx:x.length=20):setL (HdM.cells (⟨fi,pa,om,co,st,tx,rc,bl,df,nu,gl,gu,ti,ex,mx,no,bf,wd,bg,xs,be⟩:HdM) v) (0+65) (u8s x)=HdM.cells (⟨fi,pa,om,x,st,tx,rc,bl,df,nu,gl,gu,ti,ex,mx,no,bf,wd,bg,xs,be⟩:HdM) v:=part_set (HdM.lens k v) (j:=3) (q:=u8s x) rfl rfl (by simp only [aY,hx];exact k.co.symm)
theorem ok_co (k:HdM.Ok (⟨fi,pa,om,co,st,tx,rc,bl,df,nu,gl,gu,ti,ex,mx,no,bf,wd,bg,xs,be⟩:HdM)) (hx:x.length=20):HdM.Ok (⟨fi,pa,om,x,st,tx,rc,bl,df,nu,gl,gu,ti,ex,mx,no,bf,wd,bg,xs,be⟩:HdM):= { k with co:=hx }
theorem hd_st (k:HdM.Ok (⟨fi,pa,om,co,st,tx,rc,bl,df,nu,gl,gu,ti,ex,mx,no,bf,wd,bg,xs,be⟩:HdM)) (hx:x.length=32):setL (HdM.cells (⟨fi,pa,om,co,st,tx,rc,bl,df,nu,gl,gu,ti,ex,mx,no,bf,wd,bg,xs,be⟩:HdM) v) (0+85) (u8s x)=HdM.cells (⟨fi,pa,om,co,x,tx,rc,bl,df,nu,gl,gu,ti,ex,mx,no,bf,wd,bg,xs,be⟩:HdM) v:=part_set (HdM.lens k v) (j:=4) (q:=u8s x) rfl rfl (by simp only [aY,hx];exact k.st.symm)
theorem ok_st (k:HdM.Ok (⟨fi,pa,om,co,st,tx,rc,bl,df,nu,gl,gu,ti,ex,mx,no,bf,wd,bg,xs,be⟩:HdM)) (hx:x.length=32):HdM.Ok (⟨fi,pa,om,co,x,tx,rc,bl,df,nu,gl,gu,ti,ex,mx,no,bf,wd,bg,xs,be⟩:HdM):= { k with st:=hx }
theorem hd_tx (k:HdM.Ok (⟨fi,pa,om,co,st,tx,rc,bl,df,nu,gl,gu,ti,ex,mx,no,bf,wd,bg,xs,be⟩:HdM)) (hx:x.length=32):setL (HdM.cells (⟨fi,pa,om,co,st,tx,rc,bl,df,nu,gl,gu,ti,ex,mx,no,bf,wd,bg,xs,be⟩:HdM) v) (0+117) (u8s x)=HdM.cells (⟨fi,pa,om,co,st,x,rc,bl,df,nu,gl,gu,ti,ex,mx,no,bf,wd,bg,xs,be⟩:HdM) v:=part_set (HdM.lens k v) (j:=5) (q:=u8s x) rfl rfl (by simp only [aY,hx];exact k.tx.symm)
theorem ok_tx (k:HdM.Ok (⟨fi,pa,om,co,st,tx,rc,bl,df,nu,gl,gu,ti,ex,mx,no,bf,wd,bg,xs,be⟩:HdM)) (hx:x.length=32):HdM.Ok (⟨fi,pa,om,co,st,x,rc,bl,df,nu,gl,gu,ti,ex,mx,no,bf,wd,bg,xs,be⟩:HdM):= { k with tx:=hx }
theorem hd_rc (k:HdM.Ok (⟨fi,pa,om,co,st,tx,rc,bl,df,nu,gl,gu,ti,ex,mx,no,bf,wd,bg,xs,be⟩:HdM)) (hx:x.length=32):setL (HdM.cells (⟨fi,pa,om,co,st,tx,rc,bl,df,nu,gl,gu,ti,ex,mx,no,bf,wd,bg,xs,be⟩:HdM) v) (0+149) (u8s x)=HdM.cells (⟨fi,pa,om,co,st,tx,x,bl,df,nu,gl,gu,ti,ex,mx,no,bf,wd,bg,xs,be⟩:HdM) v:=part_set (HdM.lens k v) (j:=6) (q:=u8s x) rfl rfl (by simp only [aY,hx];exact k.rc.symm)
theorem ok_rc (k:HdM.Ok (⟨fi,pa,om,co,st,tx,rc,bl,df,nu,gl,gu,ti,ex,mx,no,bf,wd,bg,xs,be⟩:HdM)) (hx:x.length=32):HdM.Ok (⟨fi,pa,om,co,st,tx,x,bl,df,nu,gl,gu,ti,ex,mx,no,bf,wd,bg,xs,be⟩:HdM):= { k with rc:=hx }
theorem hd_bl (k:HdM.Ok (⟨fi,pa,om,co,st,tx,rc,bl,df,nu,gl,gu,ti,ex,mx,no,bf,wd,bg,xs,be⟩:HdM)) (hx:x.length=256):setL (HdM.cells (⟨fi,pa,om,co,st,tx,rc,bl,df,nu,gl,gu,ti,ex,mx,no,bf,wd,bg,xs,be⟩:HdM) v) (0+181) (u8s x)=HdM.cells (⟨fi,pa,om,co,st,tx,rc,x,df,nu,gl,gu,ti,ex,mx,no,bf,wd,bg,xs,be⟩:HdM) v:=part_set (HdM.lens k v) (j:=7) (q:=u8s x) rfl rfl (by simp only [aY,hx];exact k.bl.symm)
theorem ok_bl (k:HdM.Ok (⟨fi,pa,om,co,st,tx,rc,bl,df,nu,gl,gu,ti,ex,mx,no,bf,wd,bg,xs,be⟩:HdM)) (hx:x.length=256):HdM.Ok (⟨fi,pa,om,co,st,tx,rc,x,df,nu,gl,gu,ti,ex,mx,no,bf,wd,bg,xs,be⟩:HdM):= { k with bl:=hx }
theorem hd_df (k:HdM.Ok (⟨fi,pa,om,co,st,tx,rc,bl,df,nu,gl,gu,ti,ex,mx,no,bf,wd,bg,xs,be⟩:HdM)):setL (HdM.cells (⟨fi,pa,om,co,st,tx,rc,bl,df,nu,gl,gu,ti,ex,mx,no,bf,wd,bg,xs,be⟩:HdM) v) (0+437) (u64s (wl n))=HdM.cells (⟨fi,pa,om,co,st,tx,rc,bl,n,nu,gl,gu,ti,ex,mx,no,bf,wd,bg,xs,be⟩:HdM) v:=part_set (HdM.lens k v) (j:=8) (q:=u64s (wl n)) rfl rfl (by simp only [u64s_len,length_wl])
theorem ok_df (k:HdM.Ok (⟨fi,pa,om,co,st,tx,rc,bl,df,nu,gl,gu,ti,ex,mx,no,bf,wd,bg,xs,be⟩:HdM)) (hx:n<WW):HdM.Ok (⟨fi,pa,om,co,st,tx,rc,bl,n,nu,gl,gu,ti,ex,mx,no,bf,wd,bg,xs,be⟩:HdM):= { k with df:=hx }
theorem hd_nu (k:HdM.Ok (⟨fi,pa,om,co,st,tx,rc,bl,df,nu,gl,gu,ti,ex,mx,no,bf,wd,bg,xs,be⟩:HdM)):setL (HdM.cells (⟨fi,pa,om,co,st,tx,rc,bl,df,nu,gl,gu,ti,ex,mx,no,bf,wd,bg,xs,be⟩:HdM) v) (0+441) [.int .u64 (u.toNat:Int)]=HdM.cells (⟨fi,pa,om,co,st,tx,rc,bl,df,u,gl,gu,ti,ex,mx,no,bf,wd,bg,xs,be⟩:HdM) v:=part_put (HdM.lens k v) (j:=9) rfl rfl _
theorem ok_nu (k:HdM.Ok (⟨fi,pa,om,co,st,tx,rc,bl,df,nu,gl,gu,ti,ex,mx,no,bf,wd,bg,xs,be⟩:HdM)):HdM.Ok (⟨fi,pa,om,co,st,tx,rc,bl,df,u,gl,gu,ti,ex,mx,no,bf,wd,bg,xs,be⟩:HdM):= { k with }
theorem hd_gl (k:HdM.Ok (⟨fi,pa,om,co,st,tx,rc,bl,df,nu,gl,gu,ti,ex,mx,no,bf,wd,bg,xs,be⟩:HdM)):setL (HdM.cells (⟨fi,pa,om,co,st,tx,rc,bl,df,nu,gl,gu,ti,ex,mx,no,bf,wd,bg,xs,be⟩:HdM) v) (0+442) [.int .u64 (u.toNat:Int)]=HdM.cells (⟨fi,pa,om,co,st,tx,rc,bl,df,nu,u,gu,ti,ex,mx,no,bf,wd,bg,xs,be⟩:HdM) v:=part_put (HdM.lens k v) (j:=10) rfl rfl _
theorem ok_gl (k:HdM.Ok (⟨fi,pa,om,co,st,tx,rc,bl,df,nu,gl,gu,ti,ex,mx,no,bf,wd,bg,xs,be⟩:HdM)):HdM.Ok (⟨fi,pa,om,co,st,tx,rc,bl,df,nu,u,gu,ti,ex,mx,no,bf,wd,bg,xs,be⟩:HdM):= { k with }
theorem hd_gu (k:HdM.Ok (⟨fi,pa,om,co,st,tx,rc,bl,df,nu,gl,gu,ti,ex,mx,no,bf,wd,bg,xs,be⟩:HdM)):setL (HdM.cells (⟨fi,pa,om,co,st,tx,rc,bl,df,nu,gl,gu,ti,ex,mx,no,bf,wd,bg,xs,be⟩:HdM) v) (0+443) [.int .u64 (u.toNat:Int)]=HdM.cells (⟨fi,pa,om,co,st,tx,rc,bl,df,nu,gl,u,ti,ex,mx,no,bf,wd,bg,xs,be⟩:HdM) v:=part_put (HdM.lens k v) (j:=11) rfl rfl _
theorem ok_gu (k:HdM.Ok (⟨fi,pa,om,co,st,tx,rc,bl,df,nu,gl,gu,ti,ex,mx,no,bf,wd,bg,xs,be⟩:HdM)):HdM.Ok (⟨fi,pa,om,co,st,tx,rc,bl,df,nu,gl,u,ti,ex,mx,no,bf,wd,bg,xs,be⟩:HdM):= { k with }
theorem hd_ti (k:HdM.Ok (⟨fi,pa,om,co,st,tx,rc,bl,df,nu,gl,gu,ti,ex,mx,no,bf,wd,bg,xs,be⟩:HdM)):setL (HdM.cells (⟨fi,pa,om,co,st,tx,rc,bl,df,nu,gl,gu,ti,ex,mx,no,bf,wd,bg,xs,be⟩:HdM) v) (0+444) [.int .u64 (u.toNat:Int)]=HdM.cells (⟨fi,pa,om,co,st,tx,rc,bl,df,nu,gl,gu,u,ex,mx,no,bf,wd,bg,xs,be⟩:HdM) v:=part_put (HdM.lens k v) (j:=12) rfl rfl _
theorem ok_ti (k:HdM.Ok (⟨fi,pa,om,co,st,tx,rc,bl,df,nu,gl,gu,ti,ex,mx,no,bf,wd,bg,xs,be⟩:HdM)):HdM.Ok (⟨fi,pa,om,co,st,tx,rc,bl,df,nu,gl,gu,u,ex,mx,no,bf,wd,bg,xs,be⟩:HdM):= { k with }
theorem hd_ex (k:HdM.Ok (⟨fi,pa,om,co,st,tx,rc,bl,df,nu,gl,gu,ti,ex,mx,no,bf,wd,bg,xs,be⟩:HdM)):setL (HdM.cells (⟨fi,pa,om,co,st,tx,rc,bl,df,nu,gl,gu,ti,ex,mx,no,bf,wd,bg,xs,be⟩:HdM) v) (0+445) [w]=HdM.cells (⟨fi,pa,om,co,st,tx,rc,bl,df,nu,gl,gu,ti,x,mx,no,bf,wd,bg,xs,be⟩:HdM) w:=part_put (HdM.lens k v) (j:=13) rfl rfl _
theorem ok_ex (k:HdM.Ok (⟨fi,pa,om,co,st,tx,rc,bl,df,nu,gl,gu,ti,ex,mx,no,bf,wd,bg,xs,be⟩:HdM)):HdM.Ok (⟨fi,pa,om,co,st,tx,rc,bl,df,nu,gl,gu,ti,x,mx,no,bf,wd,bg,xs,be⟩:HdM):= { k with }
theorem hd_mx (k:HdM.Ok (⟨fi,pa,om,co,st,tx,rc,bl,df,nu,gl,gu,ti,ex,mx,no,bf,wd,bg,xs,be⟩:HdM)) (hx:x.length=32):setL (HdM.cells (⟨fi,pa,om,co,st,tx,rc,bl,df,nu,gl,gu,ti,ex,mx,no,bf,wd,bg,xs,be⟩:HdM) v) (0+446) (u8s x)=HdM.cells (⟨fi,pa,om,co,st,tx,rc,bl,df,nu,gl,gu,ti,ex,x,no,bf,wd,bg,xs,be⟩:HdM) v:=part_set (HdM.lens k v) (j:=14) (q:=u8s x) rfl rfl (by simp only [aY,hx];exact k.mx.symm)
theorem ok_mx (k:HdM.Ok (⟨fi,pa,om,co,st,tx,rc,bl,df,nu,gl,gu,ti,ex,mx,no,bf,wd,bg,xs,be⟩:HdM)) (hx:x.length=32):HdM.Ok (⟨fi,pa,om,co,st,tx,rc,bl,df,nu,gl,gu,ti,ex,x,no,bf,wd,bg,xs,be⟩:HdM):= { k with mx:=hx }
theorem hd_no (k:HdM.Ok (⟨fi,pa,om,co,st,tx,rc,bl,df,nu,gl,gu,ti,ex,mx,no,bf,wd,bg,xs,be⟩:HdM)) (hx:x.length=8):setL (HdM.cells (⟨fi,pa,om,co,st,tx,rc,bl,df,nu,gl,gu,ti,ex,mx,no,bf,wd,bg,xs,be⟩:HdM) v) (0+478) (u8s x)=HdM.cells (⟨fi,pa,om,co,st,tx,rc,bl,df,nu,gl,gu,ti,ex,mx,x,bf,wd,bg,xs,be⟩:HdM) v:=part_set (HdM.lens k v) (j:=15) (q:=u8s x) rfl rfl (by simp only [aY,hx];exact k.no.symm)
theorem ok_no (k:HdM.Ok (⟨fi,pa,om,co,st,tx,rc,bl,df,nu,gl,gu,ti,ex,mx,no,bf,wd,bg,xs,be⟩:HdM)) (hx:x.length=8):HdM.Ok (⟨fi,pa,om,co,st,tx,rc,bl,df,nu,gl,gu,ti,ex,mx,x,bf,wd,bg,xs,be⟩:HdM):= { k with no:=hx }
theorem hd_bf (k:HdM.Ok (⟨fi,pa,om,co,st,tx,rc,bl,df,nu,gl,gu,ti,ex,mx,no,bf,wd,bg,xs,be⟩:HdM)):setL (HdM.cells (⟨fi,pa,om,co,st,tx,rc,bl,df,nu,gl,gu,ti,ex,mx,no,bf,wd,bg,xs,be⟩:HdM) v) (0+486) (u64s (wl n))=HdM.cells (⟨fi,pa,om,co,st,tx,rc,bl,df,nu,gl,gu,ti,ex,mx,no,n,wd,bg,xs,be⟩:HdM) v:=part_set (HdM.lens k v) (j:=16) (q:=u64s (wl n)) rfl rfl (by simp only [u64s_len,length_wl])
theorem ok_bf (k:HdM.Ok (⟨fi,pa,om,co,st,tx,rc,bl,df,nu,gl,gu,ti,ex,mx,no,bf,wd,bg,xs,be⟩:HdM)) (hx:n<WW):HdM.Ok (⟨fi,pa,om,co,st,tx,rc,bl,df,nu,gl,gu,ti,ex,mx,no,n,wd,bg,xs,be⟩:HdM):= { k with bf:=hx }
theorem hd_wd (k:HdM.Ok (⟨fi,pa,om,co,st,tx,rc,bl,df,nu,gl,gu,ti,ex,mx,no,bf,wd,bg,xs,be⟩:HdM)) (hx:x.length=32):setL (HdM.cells (⟨fi,pa,om,co,st,tx,rc,bl,df,nu,gl,gu,ti,ex,mx,no,bf,wd,bg,xs,be⟩:HdM) v) (0+490) (u8s x)=HdM.cells (⟨fi,pa,om,co,st,tx,rc,bl,df,nu,gl,gu,ti,ex,mx,no,bf,x,bg,xs,be⟩:HdM) v:=part_set (HdM.lens k v) (j:=17) (q:=u8s x) rfl rfl (by simp only [aY,hx];exact k.wd.symm)
theorem ok_wd (k:HdM.Ok (⟨fi,pa,om,co,st,tx,rc,bl,df,nu,gl,gu,ti,ex,mx,no,bf,wd,bg,xs,be⟩:HdM)) (hx:x.length=32):HdM.Ok (⟨fi,pa,om,co,st,tx,rc,bl,df,nu,gl,gu,ti,ex,mx,no,bf,x,bg,xs,be⟩:HdM):= { k with wd:=hx }
theorem hd_bg (k:HdM.Ok (⟨fi,pa,om,co,st,tx,rc,bl,df,nu,gl,gu,ti,ex,mx,no,bf,wd,bg,xs,be⟩:HdM)):setL (HdM.cells (⟨fi,pa,om,co,st,tx,rc,bl,df,nu,gl,gu,ti,ex,mx,no,bf,wd,bg,xs,be⟩:HdM) v) (0+522) [.int .u64 (u.toNat:Int)]=HdM.cells (⟨fi,pa,om,co,st,tx,rc,bl,df,nu,gl,gu,ti,ex,mx,no,bf,wd,u,xs,be⟩:HdM) v:=part_put (HdM.lens k v) (j:=18) rfl rfl _
theorem ok_bg (k:HdM.Ok (⟨fi,pa,om,co,st,tx,rc,bl,df,nu,gl,gu,ti,ex,mx,no,bf,wd,bg,xs,be⟩:HdM)):HdM.Ok (⟨fi,pa,om,co,st,tx,rc,bl,df,nu,gl,gu,ti,ex,mx,no,bf,wd,u,xs,be⟩:HdM):= { k with }
theorem hd_xs (k:HdM.Ok (⟨fi,pa,om,co,st,tx,rc,bl,df,nu,gl,gu,ti,ex,mx,no,bf,wd,bg,xs,be⟩:HdM)):setL (HdM.cells (⟨fi,pa,om,co,st,tx,rc,bl,df,nu,gl,gu,ti,ex,mx,no,bf,wd,bg,xs,be⟩:HdM) v) (0+523) [.int .u64 (u.toNat:Int)]=HdM.cells (⟨fi,pa,om,co,st,tx,rc,bl,df,nu,gl,gu,ti,ex,mx,no,bf,wd,bg,u,be⟩:HdM) v:=part_put (HdM.lens k v) (j:=19) rfl rfl _
theorem ok_xs (k:HdM.Ok (⟨fi,pa,om,co,st,tx,rc,bl,df,nu,gl,gu,ti,ex,mx,no,bf,wd,bg,xs,be⟩:HdM)):HdM.Ok (⟨fi,pa,om,co,st,tx,rc,bl,df,nu,gl,gu,ti,ex,mx,no,bf,wd,bg,u,be⟩:HdM):= { k with }
theorem hd_be (k:HdM.Ok (⟨fi,pa,om,co,st,tx,rc,bl,df,nu,gl,gu,ti,ex,mx,no,bf,wd,bg,xs,be⟩:HdM)) (hx:x.length=32):setL (HdM.cells (⟨fi,pa,om,co,st,tx,rc,bl,df,nu,gl,gu,ti,ex,mx,no,bf,wd,bg,xs,be⟩:HdM) v) (0+524) (u8s x)=HdM.cells (⟨fi,pa,om,co,st,tx,rc,bl,df,nu,gl,gu,ti,ex,mx,no,bf,wd,bg,xs,x⟩:HdM) v:=part_set (HdM.lens k v) (j:=20) (q:=u8s x) rfl rfl (by simp only [aY,hx];exact k.be.symm)
theorem ok_be (k:HdM.Ok (⟨fi,pa,om,co,st,tx,rc,bl,df,nu,gl,gu,ti,ex,mx,no,bf,wd,bg,xs,be⟩:HdM)) (hx:x.length=32):HdM.Ok (⟨fi,pa,om,co,st,tx,rc,bl,df,nu,gl,gu,ti,ex,mx,no,bf,wd,bg,xs,x⟩:HdM):= { k with be:=hx }
theorem hd_fi (k:HdM.Ok (⟨fi,pa,om,co,st,tx,rc,bl,df,nu,gl,gu,ti,ex,mx,no,bf,wd,bg,xs,be⟩:HdM)):(HdM.cells (⟨fi,pa,om,co,st,tx,rc,bl,df,nu,gl,gu,ti,ex,mx,no,bf,wd,bg,xs,be⟩:HdM) v)[0+0]? =some (.int .i64 fi):=aK (HdM.lens k v) (j:=0) rfl rfl
end
theorem zeros_flat (fi:Int):HdM.zero fi=(⟨fi,zeros8 32,zeros8 32,zeros8 20,zeros8 32,zeros8 32,zeros8 32,zeros8 256,0,0,0,0,0,[],zeros8 32,zeros8 8,0,zeros8 32,0,0,zeros8 32⟩:HdM):=rfl
theorem zeros_ok (fi:Int):(HdM.zero fi).Ok:=⟨List.length_replicate ..,List.length_replicate ..,List.length_replicate ..,List.length_replicate ..,List.length_replicate ..,List.length_replicate ..,List.length_replicate ..,(show 0<WW by decide),List.length_replicate ..,List.length_replicate ..,(show 0<WW by decide),List.length_replicate ..,List.length_replicate ..⟩
theorem z_hd:z44=(HdM.zero 0).cells (.slice none 0 0):=by kernel_rfl
theorem hd_start (n:Int):setL z44 0 [.int .i64 n]=(HdM.zero n).cells (.slice none 0 0):=by
 rw [z_hd]
 exact part_put (HdM.lens (zeros_ok 0) _) (j:=0) rfl rfl _
theorem fill_hd (n:Nat):fillL [(0,1),(1,32),(33,32),(65,20),(85,32),(117,32),(149,32),(181,256),(437,4),(441,1),(442,1),(443,1),(444,1),(445,1),(446,32),(478,8),(486,4),(490,32),(522,1),(523,1),(524,32)] z44 [(0,.int .i64 (n:Int))]=some ((HdM.zero n).cells (.slice none 0 0)):=by
 have hl:=z44_len
 simp only [fillL,List.getElem?_cons_zero,Value.cells,hl]
 exact congrArg some (hd_start n)
section
variable {Np NI : Heaplet} {bp : Nat} {t : It} {ts : List It} {z : IV} {zs : List IV}
theorem F64_p (h:PartsN Np NI bp (z::zs) (t::ts)):FnE Tryz.prog 58 #[.pointer (some ⟨bp,0,none⟩)] [Np] [NI] (fun v L=> ∃Np, ∃u:UInt64,v=.int .u64 (u.toNat:Int)∧L= [Np]∧n64E t=.ok u∧PartsN Np NI bp zs ts) (fun v L=> ∃e:Nat,v=gaveV e∧L= []∧n64E t=.error e):=
 (FSmall_p h).mono (fun v L ⟨Np,x,h1,h2,h3,h4,h5⟩=>⟨Np,UInt64.ofNat x,by rw [h1,UInt64.toNat_ofNat',Nat.mod_eq_of_lt h4],h2,by simp only [n64E,eb,h3],h5⟩) (fun v L ⟨e,h1,h2,h3⟩=>⟨e,h1,h2,by simp only [n64E,eb,h3]⟩)
end
theorem three_of {α:Type} {l:List α} (h:l.length=3): ∃a b c,l= [a,b,c]:=by
 match l,h with
 | [a,b,c],_=>exact⟨a,b,c,rfl⟩
theorem split15 {its:List It} (h:its.length∈ [15,16,17,20]): ∃t0 t1 t2 t3 t4 t5 t6 t7 t8 t9 t10 t11 t12 t13 t14 r,its=t0::t1::t2::t3::t4::t5::t6::t7::t8::t9::t10::t11::t12::t13::t14::r∧(r.length=0∨r.length=1∨r.length=2∨r.length=5):=by
 simp only [List.mem_cons,List.not_mem_nil,or_false]at h
 obtain⟨t0,its,rfl⟩: ∃t l,its=t::l:=by cases its with|nil=>exact absurd h (by simp)|cons a b=>exact⟨a,b,rfl⟩
 obtain⟨t1,its,rfl⟩: ∃t l,its=t::l:=by cases its with|nil=>exact absurd h (by simp)|cons a b=>exact⟨a,b,rfl⟩
 obtain⟨t2,its,rfl⟩: ∃t l,its=t::l:=by cases its with|nil=>exact absurd h (by simp)|cons a b=>exact⟨a,b,rfl⟩
 obtain⟨t3,its,rfl⟩: ∃t l,its=t::l:=by cases its with|nil=>exact absurd h (by simp)|cons a b=>exact⟨a,b,rfl⟩
 obtain⟨t4,its,rfl⟩: ∃t l,its=t::l:=by cases its with|nil=>exact absurd h (by simp)|cons a b=>exact⟨a,b,rfl⟩
 obtain⟨t5,its,rfl⟩: ∃t l,its=t::l:=by cases its with|nil=>exact absurd h (by simp)|cons a b=>exact⟨a,b,rfl⟩
 obtain⟨t6,its,rfl⟩: ∃t l,its=t::l:=by cases its with|nil=>exact absurd h (by simp)|cons a b=>exact⟨a,b,rfl⟩
 obtain⟨t7,its,rfl⟩: ∃t l,its=t::l:=by cases its with|nil=>exact absurd h (by simp)|cons a b=>exact⟨a,b,rfl⟩
 obtain⟨t8,its,rfl⟩: ∃t l,its=t::l:=by cases its with|nil=>exact absurd h (by simp)|cons a b=>exact⟨a,b,rfl⟩
 obtain⟨t9,its,rfl⟩: ∃t l,its=t::l:=by cases its with|nil=>exact absurd h (by simp)|cons a b=>exact⟨a,b,rfl⟩
 obtain⟨t10,its,rfl⟩: ∃t l,its=t::l:=by cases its with|nil=>exact absurd h (by simp)|cons a b=>exact⟨a,b,rfl⟩
 obtain⟨t11,its,rfl⟩: ∃t l,its=t::l:=by cases its with|nil=>exact absurd h (by simp)|cons a b=>exact⟨a,b,rfl⟩
 obtain⟨t12,its,rfl⟩: ∃t l,its=t::l:=by cases its with|nil=>exact absurd h (by simp)|cons a b=>exact⟨a,b,rfl⟩
 obtain⟨t13,its,rfl⟩: ∃t l,its=t::l:=by cases its with|nil=>exact absurd h (by simp)|cons a b=>exact⟨a,b,rfl⟩
 obtain⟨t14,its,rfl⟩: ∃t l,its=t::l:=by cases its with|nil=>exact absurd h (by simp)|cons a b=>exact⟨a,b,rfl⟩
 exact⟨t0,t1,t2,t3,t4,t5,t6,t7,t8,t9,t10,t11,t12,t13,t14,its,rfl,by simp only [List.length_cons]at h;omega⟩
theorem ivs15 {zs:List IV} {n:Nat} (h:zs.length=n+15): ∃z0 z1 z2 z3 z4 z5 z6 z7 z8 z9 z10 z11 z12 z13 z14 r,zs=z0::z1::z2::z3::z4::z5::z6::z7::z8::z9::z10::z11::z12::z13::z14::r∧r.length=n:=by
 obtain⟨z0,zs,rfl⟩: ∃t l,zs=t::l:=by cases zs with|nil=>exact absurd h (by simp)|cons a b=>exact⟨a,b,rfl⟩
 obtain⟨z1,zs,rfl⟩: ∃t l,zs=t::l:=by cases zs with|nil=>exact absurd h (by simp)|cons a b=>exact⟨a,b,rfl⟩
 obtain⟨z2,zs,rfl⟩: ∃t l,zs=t::l:=by cases zs with|nil=>exact absurd h (by simp)|cons a b=>exact⟨a,b,rfl⟩
 obtain⟨z3,zs,rfl⟩: ∃t l,zs=t::l:=by cases zs with|nil=>exact absurd h (by simp)|cons a b=>exact⟨a,b,rfl⟩
 obtain⟨z4,zs,rfl⟩: ∃t l,zs=t::l:=by cases zs with|nil=>exact absurd h (by simp)|cons a b=>exact⟨a,b,rfl⟩
 obtain⟨z5,zs,rfl⟩: ∃t l,zs=t::l:=by cases zs with|nil=>exact absurd h (by simp)|cons a b=>exact⟨a,b,rfl⟩
 obtain⟨z6,zs,rfl⟩: ∃t l,zs=t::l:=by cases zs with|nil=>exact absurd h (by simp)|cons a b=>exact⟨a,b,rfl⟩
 obtain⟨z7,zs,rfl⟩: ∃t l,zs=t::l:=by cases zs with|nil=>exact absurd h (by simp)|cons a b=>exact⟨a,b,rfl⟩
 obtain⟨z8,zs,rfl⟩: ∃t l,zs=t::l:=by cases zs with|nil=>exact absurd h (by simp)|cons a b=>exact⟨a,b,rfl⟩
 obtain⟨z9,zs,rfl⟩: ∃t l,zs=t::l:=by cases zs with|nil=>exact absurd h (by simp)|cons a b=>exact⟨a,b,rfl⟩
 obtain⟨z10,zs,rfl⟩: ∃t l,zs=t::l:=by cases zs with|nil=>exact absurd h (by simp)|cons a b=>exact⟨a,b,rfl⟩
 obtain⟨z11,zs,rfl⟩: ∃t l,zs=t::l:=by cases zs with|nil=>exact absurd h (by simp)|cons a b=>exact⟨a,b,rfl⟩
 obtain⟨z12,zs,rfl⟩: ∃t l,zs=t::l:=by cases zs with|nil=>exact absurd h (by simp)|cons a b=>exact⟨a,b,rfl⟩
 obtain⟨z13,zs,rfl⟩: ∃t l,zs=t::l:=by cases zs with|nil=>exact absurd h (by simp)|cons a b=>exact⟨a,b,rfl⟩
 obtain⟨z14,zs,rfl⟩: ∃t l,zs=t::l:=by cases zs with|nil=>exact absurd h (by simp)|cons a b=>exact⟨a,b,rfl⟩
 exact⟨z0,z1,z2,z3,z4,z5,z6,z7,z8,z9,z10,z11,z12,z13,z14,zs,rfl,by simp only [List.length_cons]at h;omega⟩
theorem hdE_len {t:It} {its:List It} (h:listE t=.ok its) (k:its.length∉ [15,16,17,20]):hdE t=.error 2:=by
 simp only [hdE,eb,h];rw [if_neg k]
theorem hdE_in {t:It} {its:List It} (h:listE t=.ok its) (k:its.length∈ [15,16,17,20]):hdE t=hdA its:=by
 simp only [hdE,eb,h];rw [if_pos k]
def HdS (zs:List IV) (NI:Heaplet) (h:HdM) (v:Value):Prop:= ∃ea ec,v=.slice ea h.ex.length ec∧RSl NI 1 ea h.ex.length ec (u8s h.ex)∧ ∃(i:Nat) (z:IV),zs[i]? =some z∧v=slB z
section
variable {NI : Heaplet} {t : It} {x : IV}
set_option maxHeartbeats 16000000 in
theorem FHeader_p (hi:ItN NI t x):FnE Tryz.prog 48 #[.agg #[.bool x.l,.slice x.ab x.nb x.cb,.slice x.ai x.ni x.ci]] [] [NI] (fun v L=> ∃h v1 zs,v=.agg (h.cells v1).toArray∧L= []∧hdE t=.ok h∧h.Ok∧okF h.fi∧HdS zs NI h v1∧RSl NI 3 x.ai x.ni x.ci (cellsI zs)) (fun v L=> ∃e:Nat,v=gaveV e∧L= []∧hdE t=.error e):=by
 refine FnE.enter (vs:= [.agg #[.bool x.l,.slice x.ab x.nb x.cb,.slice x.ai x.ni x.ci]]) Tryz.func48 rfl rfl rfl ?_
 intro E R hR
 have hNR:=hR NI (by simp)
 change At _ _ E [R] _
 refine At.seq fun _ s_1=>At.region (op_box (aT rfl) rfl rfl rfl (fun N1 b1 B1=>aS (aT rfl) ze44 rfl (fun N2 b2 B2=>?_)))
 change Blk N2 b2 _ z44 at B2
 refine aA (aB (s_1 (At.seq fun _ s_2=>At.region (aQ (ds:= [_,_,_]) (aC rfl) ag91 rfl B1 rfl rfl bM rfl (op_callE (.cons rfl .nil) ((FOpened_p hi).liftB hNR) (F:= [N2,N1,R]) Tryz.func33 rfl rfl (.refl _) (by simp) rfl ?_ ?_)))))
 ·rintro v6 L6 ⟨e,rfl,rfl,he⟩
  change At _ _ _ [N2,N1,R] _
  refine aX ((At.sub (L':= [R]) (.cons _ (.cons _ (.cons_cons _ (.slnil)))) (At.pan (L1:= []) (.refl _) (.refl _) ?_)))
  exact⟨e,rfl,rfl,by simp only [hdE,eb,he]⟩
 rintro v6 L6 ⟨Nq,bq,its,zs,rfl,rfl,he,hq,hzs⟩
 change At _ _ _ [Nq,N2,N1,R] _
 refine aD (aC rfl) rfl rfl (aA (aB (s_2 (At.seq fun _ s_3=>At.region (aE (aC rfl) rfl rfl (op_lit (aT rfl) Tryz.underlying162 ze3 sz3 (.cons rfl (.cons rfl (.cons rfl (.cons rfl .nil)))) rfl rfl (by simp [Value.cells]) rfl rfl rfl (fun N8 a8 r8=>?_)))))))
 simp only [flatV,List.flatMap_cons,List.flatMap_nil,Value.cells,List.append_nil,List.cons_append,List.nil_append]at r8
 have s8:=r8.rsl
 refine At.perm sel4 (At.perm sel4 (At.perm sel4 (At.perm sel3 (At.perm sel4 (op_callE (.cons rfl (.cons rfl .nil)) (FJust_p (ks:= [15,16,17,20]) hq r8.rsl (by decide)) (F:= [N8,N2,N1,R]) Tryz.func51 rfl rfl (.refl _) (by simp) rfl ?_ ?_)))))
 ·rintro v9 L9 ⟨rfl,rfl,hjm⟩
  change At _ _ _ [N8,N2,N1,R] _
  refine aX ((At.sub (L':= [R]) (.cons _ (.cons _ (.cons _ (.cons_cons _ (.slnil))))) (At.pan (L1:= []) (.refl _) (.refl _) ?_)))
  exact⟨2,rfl,rfl,hdE_len he hjm⟩
 rintro v9 L9 ⟨rfl,rfl,hjm⟩
 change At _ _ _ [Nq,N8,N2,N1,R] _
 obtain⟨t0,t1,t2,t3,t4,t5,t6,t7,t8,t9,t10,t11,t12,t13,t14,r,rfl,hrl⟩:=split15 hjm;obtain⟨z0,z1,z2,z3,z4,z5,z6,z7,z8,z9,z10,z11,z12,z13,z14,zr,rfl,hzl⟩:=ivs15 (n:=r.length) hq.all;have hin:=hdE_in he hjm;clear hjm
 refine op_build (out:=(HdM.zero ((t0::t1::t2::t3::t4::t5::t6::t7::t8::t9::t10::t11::t12::t13::t14::r).length:Nat)).cells (.slice none 0 0)) (aC rfl) ze44 pl44 (.cons rfl .nil) (fill_hd _) rfl (aS (aT rfl) ze44 rfl (fun N4 b4 B4=>?_))
 change Blk N4 b4 _ z44 at B4
 refine aI (nxl rfl) sz44 rfl rfl rfl (HdM.len (zeros_ok _) _) (HdM.one rfl) B4 (by rw [HdM.len (zeros_ok _),z44_len];exact Nat.le_refl _) sel0 (fun N4 B4=>?_)
 rw [setL_whole (by rw [HdM.len (zeros_ok _),z44_len])]at B4;have k:=zeros_ok ((t0::t1::t2::t3::t4::t5::t6::t7::t8::t9::t10::t11::t12::t13::t14::r).length:Nat);rw [show(t0::t1::t2::t3::t4::t5::t6::t7::t8::t9::t10::t11::t12::t13::t14::r).length=15+r.length by simp only [List.length_cons];omega]at B4 k;rw [zeros_flat]at B4 k
 refine aA (aB (s_3 (At.seq fun _ s_4=>At.region (aE (aC rfl) rfl rfl (At.perm bE (At.perm bE (At.perm bE (At.perm bE (At.perm sel4 (At.perm bE (op_callE (.cons rfl .nil) ((FHash_p hq).liftB hNR) (F:= [N4,N8,N2,N1,R]) Tryz.func106 rfl rfl (.refl _) (by simp) rfl ?_ ?_)))))))))))
 ·rintro v12 L12 ⟨e,rfl,rfl,he2⟩
  change At _ _ _ [N4,N8,N2,N1,R] _
  refine aX ((At.sub (L':= [R]) (.cons _ (.cons _ (.cons _ (.cons _ (.cons_cons _ (.slnil)))))) (At.pan (L1:= []) (.refl _) (.refl _) ?_)))
  exact⟨e,rfl,rfl,hin.trans (by simp only [hdA,eb,he2])⟩
 rintro v12 L12 ⟨Nq,x_pa,rfl,rfl,e_pa,l_pa,hp⟩
 change At _ _ _ [Nq,N4,N8,N2,N1,R] _
 refine aE (aC rfl) rfl rfl (op_callE (.cons rfl .nil) ((FHash_p hp).liftB hNR) (F:= [N4,N8,N2,N1,R]) Tryz.func106 rfl rfl (.refl _) (by simp) rfl ?_ ?_)
 ·rintro v14 L14 ⟨e,rfl,rfl,he2⟩
  change At _ _ _ [N4,N8,N2,N1,R] _
  refine aX ((At.sub (L':= [R]) (.cons _ (.cons _ (.cons _ (.cons _ (.cons_cons _ (.slnil)))))) (At.pan (L1:= []) (.refl _) (.refl _) ?_)))
  exact⟨e,rfl,rfl,hin.trans (by simp only [hdA,eb,e_pa,he2])⟩
 rintro v14 L14 ⟨Nq,x_om,rfl,rfl,e_om,l_om,hp⟩
 change At _ _ _ [Nq,N4,N8,N2,N1,R] _
 refine aE (aC rfl) rfl rfl (op_callE (.cons rfl .nil) ((FAddr_p hp).liftB hNR) (F:= [N4,N8,N2,N1,R]) Tryz.func59 rfl rfl (.refl _) (by simp) rfl ?_ ?_)
 ·rintro v16 L16 ⟨e,rfl,rfl,he2⟩
  change At _ _ _ [N4,N8,N2,N1,R] _
  refine aX ((At.sub (L':= [R]) (.cons _ (.cons _ (.cons _ (.cons _ (.cons_cons _ (.slnil)))))) (At.pan (L1:= []) (.refl _) (.refl _) ?_)))
  exact⟨e,rfl,rfl,hin.trans (by simp only [hdA,eb,e_pa,e_om,he2])⟩
 rintro v16 L16 ⟨Nq,x_co,rfl,rfl,e_co,l_co,hp⟩
 change At _ _ _ [Nq,N4,N8,N2,N1,R] _
 refine aF (aC rfl) fl44_1 rfl rfl ?_
 refine aI (nxl rfl) sz40 rfl rfl rfl (by rw [aY];exact l_pa) (all8x2 _) B4 (by rw [HdM.len k,aY,l_pa];exact show 0+1+32≤556 by decide) sel1 (fun N4 B4=>?_)
 erw [hd_pa k l_pa]at B4;have k:=ok_pa k l_pa
 refine aF (aC rfl) fl44_2 rfl rfl ?_
 refine aI (nxl rfl) sz40 rfl rfl rfl (by rw [aY];exact l_om) (all8x2 _) B4 (by rw [HdM.len k,aY,l_om];exact show 0+33+32≤556 by decide) sel0 (fun N4 B4=>?_)
 erw [hd_om k l_om]at B4;have k:=ok_om k l_om
 refine aF (aC rfl) fl44_3 rfl rfl ?_
 refine aI (nxl rfl) sz28 rfl rfl rfl (by rw [aY];exact l_co) (all8x2 _) B4 (by rw [HdM.len k,aY,l_co];exact show 0+65+20≤556 by decide) sel0 (fun N4 B4=>?_)
 erw [hd_co k l_co]at B4;have k:=ok_co k l_co
 refine aA (aB (s_4 (At.seq fun _ s_5=>At.region (aE (aC rfl) rfl rfl (At.perm bE (At.perm bE (At.perm bE (At.perm bE (At.perm sel4 (At.perm bE (op_callE (.cons rfl .nil) ((FHash_p hp).liftB hNR) (F:= [N4,N8,N2,N1,R]) Tryz.func106 rfl rfl (.refl _) (by simp) rfl ?_ ?_)))))))))))
 ·rintro v21 L21 ⟨e,rfl,rfl,he2⟩
  change At _ _ _ [N4,N8,N2,N1,R] _
  refine aX ((At.sub (L':= [R]) (.cons _ (.cons _ (.cons _ (.cons _ (.cons_cons _ (.slnil)))))) (At.pan (L1:= []) (.refl _) (.refl _) ?_)))
  exact⟨e,rfl,rfl,hin.trans (by simp only [hdA,eb,e_pa,e_om,e_co,he2])⟩
 rintro v21 L21 ⟨Nq,x_st,rfl,rfl,e_st,l_st,hp⟩
 change At _ _ _ [Nq,N4,N8,N2,N1,R] _
 refine aE (aC rfl) rfl rfl (op_callE (.cons rfl .nil) ((FHash_p hp).liftB hNR) (F:= [N4,N8,N2,N1,R]) Tryz.func106 rfl rfl (.refl _) (by simp) rfl ?_ ?_)
 ·rintro v23 L23 ⟨e,rfl,rfl,he2⟩
  change At _ _ _ [N4,N8,N2,N1,R] _
  refine aX ((At.sub (L':= [R]) (.cons _ (.cons _ (.cons _ (.cons _ (.cons_cons _ (.slnil)))))) (At.pan (L1:= []) (.refl _) (.refl _) ?_)))
  exact⟨e,rfl,rfl,hin.trans (by simp only [hdA,eb,e_pa,e_om,e_co,e_st,he2])⟩
 rintro v23 L23 ⟨Nq,x_tx,rfl,rfl,e_tx,l_tx,hp⟩
 change At _ _ _ [Nq,N4,N8,N2,N1,R] _
 refine aE (aC rfl) rfl rfl (op_callE (.cons rfl .nil) ((FHash_p hp).liftB hNR) (F:= [N4,N8,N2,N1,R]) Tryz.func106 rfl rfl (.refl _) (by simp) rfl ?_ ?_)
 ·rintro v25 L25 ⟨e,rfl,rfl,he2⟩
  change At _ _ _ [N4,N8,N2,N1,R] _
  refine aX ((At.sub (L':= [R]) (.cons _ (.cons _ (.cons _ (.cons _ (.cons_cons _ (.slnil)))))) (At.pan (L1:= []) (.refl _) (.refl _) ?_)))
  exact⟨e,rfl,rfl,hin.trans (by simp only [hdA,eb,e_pa,e_om,e_co,e_st,e_tx,he2])⟩
 rintro v25 L25 ⟨Nq,x_rc,rfl,rfl,e_rc,l_rc,hp⟩
 change At _ _ _ [Nq,N4,N8,N2,N1,R] _
 refine aF (aC rfl) fl44_4 rfl rfl ?_
 refine aI (nxl rfl) sz40 rfl rfl rfl (by rw [aY];exact l_st) (all8x2 _) B4 (by rw [HdM.len k,aY,l_st];exact show 0+85+32≤556 by decide) sel1 (fun N4 B4=>?_)
 erw [hd_st k l_st]at B4;have k:=ok_st k l_st
 refine aF (aC rfl) fl44_5 rfl rfl ?_
 refine aI (nxl rfl) sz40 rfl rfl rfl (by rw [aY];exact l_tx) (all8x2 _) B4 (by rw [HdM.len k,aY,l_tx];exact show 0+117+32≤556 by decide) sel0 (fun N4 B4=>?_)
 erw [hd_tx k l_tx]at B4;have k:=ok_tx k l_tx
 refine aF (aC rfl) fl44_6 rfl rfl ?_
 refine aI (nxl rfl) sz40 rfl rfl rfl (by rw [aY];exact l_rc) (all8x2 _) B4 (by rw [HdM.len k,aY,l_rc];exact show 0+149+32≤556 by decide) sel0 (fun N4 B4=>?_)
 erw [hd_rc k l_rc]at B4;have k:=ok_rc k l_rc
 refine aA (aB (s_5 (At.seq fun _ s_6=>At.drawnR [R] [1,7,9] [4] [0,4,1,2,3,6,5,7,8,9] (by kernel_rfl) (by kernel_rfl) (.cons _ (.cons _ (.cons _ (.cons _ (.cons _ (.refl _)))))) (by repeat first|exact PanOK.body|apply PanOK.then|apply PanOK.inB) ?_)))
 refine aE (nxrf rfl rfl rfl) rfl rfl (aE (nxrf rfl rfl rfl) rfl rfl (At.perm bE (At.perm bE (At.perm bE (At.perm bE (At.perm sel4 (At.perm bE (op_callR rfl (.cons rfl (.cons rfl .nil)) ((FFixed_p (k:=256) hp).liftB hNR) (F:= [N4,N8,N2,N1,R]) (Lst':= [R]) Tryz.func107 rfl rfl (.refl _) (by simp) rfl (.refl _) (.cons _ (.cons _ (.cons _ (.cons _ (.refl _))))) ?_ ?_))))))))
 ·rintro v30 L30 ⟨e,rfl,rfl,he2⟩
  change At _ _ _ [N4,N8,N2,N1,R] _
  refine aX ((At.sub (L':= [R]) (.cons _ (.cons _ (.cons _ (.cons _ (.cons_cons _ (.slnil)))))) (At.pan (L1:= []) (.refl _) (.refl _) ?_)))
  exact⟨e,rfl,rfl,hin.trans (by simp only [hdA,eb,e_pa,e_om,e_co,e_st,e_tx,e_rc,he2])⟩
 rintro v30 L30 ⟨Nq,a_bl,c_bl,x_bl,rfl,rfl,e_bl,l_bl,hp,r_bl⟩
 change At _ _ _ [Nq,N4,N8,N2,N1,R] _
 have r_bl:=r_bl.le hNR;obtain⟨T_bl,O_bl,rfl,q_bl⟩:=r_bl.2.2.2 (by omega)
 refine op_toArr (nxrf rfl rfl rfl) ae41 rfl (by omega) rfl ?_
 refine op_loadAgg (nxrf rfl rfl rfl) ag41 rfl q_bl (by rw [aY];exact l_bl) aP rfl ?_
 refine aF (nxrf rfl rfl rfl) fl44_7 rfl rfl (op_callR rfl (.cons rfl .nil) ((FWord_p hp).liftB hNR) (F:= [N4,N8,N2,N1,R]) (Lst':= [R]) Tryz.func88 rfl rfl (.refl _) (by simp) rfl (.refl _) (.cons _ (.cons _ (.cons _ (.cons _ (.refl _))))) ?_ ?_)
 ·rintro v34 L34 ⟨e,rfl,rfl,he2⟩
  change At _ _ _ [N4,N8,N2,N1,R] _
  refine aX ((At.sub (L':= [R]) (.cons _ (.cons _ (.cons _ (.cons _ (.cons_cons _ (.slnil)))))) (At.pan (L1:= []) (.refl _) (.refl _) ?_)))
  exact⟨e,rfl,rfl,hin.trans (by simp only [hdA,eb,e_pa,e_om,e_co,e_st,e_tx,e_rc,e_bl,he2])⟩
 rintro v34 L34 ⟨Nq,x_df,rfl,rfl,e_df,l_df,hp⟩
 change At _ _ _ [Nq,N4,N8,N2,N1,R] _
 refine aI (nxrs rfl rfl rfl rfl) sz41 rfl rfl rfl (by rw [aY];exact l_bl) (all8x2 _) B4 (by rw [HdM.len k,aY,l_bl];exact show 0+181+256≤556 by decide) sel1 (fun N4 B4=>?_)
 erw [hd_bl k l_bl]at B4;have k:=ok_bl k l_bl
 refine At.anyR (.refl _) (aF (nxrf rfl rfl rfl) fl44_8 rfl rfl ?_)
 refine aI (nxrl rfl rfl rfl rfl) sz26 rfl rfl rfl rfl rfl B4 (by rw [HdM.len k];exact show 0+437+4≤556 by decide) sel0 (fun N4 B4=>?_)
 erw [hd_df k]at B4;have k:=ok_df k l_df
 refine At.rNil (aB (s_6 (At.seq fun _ s_7=>At.region (aE (aC rfl) rfl rfl (At.perm bE (At.perm bE (At.perm bE (At.perm bE (At.perm sel4 (At.perm bE (op_callE (.cons rfl .nil) ((F64_p hp).liftB hNR) (F:= [N4,N8,N2,N1,R]) Tryz.func58 rfl rfl (.refl _) (by simp) rfl ?_ ?_)))))))))))
 ·rintro v38 L38 ⟨e,rfl,rfl,he2⟩
  change At _ _ _ [N4,N8,N2,N1,R] _
  refine aX ((At.sub (L':= [R]) (.cons _ (.cons _ (.cons _ (.cons _ (.cons_cons _ (.slnil)))))) (At.pan (L1:= []) (.refl _) (.refl _) ?_)))
  exact⟨e,rfl,rfl,hin.trans (by simp only [hdA,eb,e_pa,e_om,e_co,e_st,e_tx,e_rc,e_bl,e_df,he2])⟩
 rintro v38 L38 ⟨Nq,x_nu,rfl,rfl,e_nu,hp⟩
 change At _ _ _ [Nq,N4,N8,N2,N1,R] _
 refine aE (aC rfl) rfl rfl (op_callE (.cons rfl .nil) ((F64_p hp).liftB hNR) (F:= [N4,N8,N2,N1,R]) Tryz.func58 rfl rfl (.refl _) (by simp) rfl ?_ ?_)
 ·rintro v40 L40 ⟨e,rfl,rfl,he2⟩
  change At _ _ _ [N4,N8,N2,N1,R] _
  refine aX ((At.sub (L':= [R]) (.cons _ (.cons _ (.cons _ (.cons _ (.cons_cons _ (.slnil)))))) (At.pan (L1:= []) (.refl _) (.refl _) ?_)))
  exact⟨e,rfl,rfl,hin.trans (by simp only [hdA,eb,e_pa,e_om,e_co,e_st,e_tx,e_rc,e_bl,e_df,e_nu,he2])⟩
 rintro v40 L40 ⟨Nq,x_gl,rfl,rfl,e_gl,hp⟩
 change At _ _ _ [Nq,N4,N8,N2,N1,R] _
 refine aE (aC rfl) rfl rfl (op_callE (.cons rfl .nil) ((F64_p hp).liftB hNR) (F:= [N4,N8,N2,N1,R]) Tryz.func58 rfl rfl (.refl _) (by simp) rfl ?_ ?_)
 ·rintro v42 L42 ⟨e,rfl,rfl,he2⟩
  change At _ _ _ [N4,N8,N2,N1,R] _
  refine aX ((At.sub (L':= [R]) (.cons _ (.cons _ (.cons _ (.cons _ (.cons_cons _ (.slnil)))))) (At.pan (L1:= []) (.refl _) (.refl _) ?_)))
  exact⟨e,rfl,rfl,hin.trans (by simp only [hdA,eb,e_pa,e_om,e_co,e_st,e_tx,e_rc,e_bl,e_df,e_nu,e_gl,he2])⟩
 rintro v42 L42 ⟨Nq,x_gu,rfl,rfl,e_gu,hp⟩
 change At _ _ _ [Nq,N4,N8,N2,N1,R] _
 refine aE (aC rfl) rfl rfl (op_callE (.cons rfl .nil) ((F64_p hp).liftB hNR) (F:= [N4,N8,N2,N1,R]) Tryz.func58 rfl rfl (.refl _) (by simp) rfl ?_ ?_)
 ·rintro v44 L44 ⟨e,rfl,rfl,he2⟩
  change At _ _ _ [N4,N8,N2,N1,R] _
  refine aX ((At.sub (L':= [R]) (.cons _ (.cons _ (.cons _ (.cons _ (.cons_cons _ (.slnil)))))) (At.pan (L1:= []) (.refl _) (.refl _) ?_)))
  exact⟨e,rfl,rfl,hin.trans (by simp only [hdA,eb,e_pa,e_om,e_co,e_st,e_tx,e_rc,e_bl,e_df,e_nu,e_gl,e_gu,he2])⟩
 rintro v44 L44 ⟨Nq,x_ti,rfl,rfl,e_ti,hp⟩
 change At _ _ _ [Nq,N4,N8,N2,N1,R] _
 refine aF (aC rfl) fl44_9 rfl rfl ?_
 refine aI (nxl rfl) sz24 rfl rfl rfl rfl rfl B4 (by rw [HdM.len k];exact show 0+441+1≤556 by decide) sel1 (fun N4 B4=>?_)
 erw [hd_nu k]at B4;have k:=ok_nu (u:=x_nu) k
 refine aF (aC rfl) fl44_10 rfl rfl ?_
 refine aI (nxl rfl) sz24 rfl rfl rfl rfl rfl B4 (by rw [HdM.len k];exact show 0+442+1≤556 by decide) sel0 (fun N4 B4=>?_)
 erw [hd_gl k]at B4;have k:=ok_gl (u:=x_gl) k
 refine aF (aC rfl) fl44_11 rfl rfl ?_
 refine aI (nxl rfl) sz24 rfl rfl rfl rfl rfl B4 (by rw [HdM.len k];exact show 0+443+1≤556 by decide) sel0 (fun N4 B4=>?_)
 erw [hd_gu k]at B4;have k:=ok_gu (u:=x_gu) k
 refine aF (aC rfl) fl44_12 rfl rfl ?_
 refine aI (nxl rfl) sz24 rfl rfl rfl rfl rfl B4 (by rw [HdM.len k];exact show 0+444+1≤556 by decide) sel0 (fun N4 B4=>?_)
 erw [hd_ti k]at B4;have k:=ok_ti (u:=x_ti) k
 refine aA (aB (s_7 (At.seq fun _ s_8=>At.drawnR [R] [1,13] [2,4] [0,2,4,1,8,3,5,6,7,9,10,11,12,13] (by kernel_rfl) (by kernel_rfl) (.cons _ (.cons _ (.cons _ (.cons _ (.cons _ (.refl _)))))) (by repeat first|exact PanOK.body|apply PanOK.then|apply PanOK.inB) ?_)))
 refine aE (nxrf rfl rfl rfl) rfl rfl (aE (nxrf rfl rfl rfl) rfl rfl (aE (nxrf rfl rfl rfl) rfl rfl (At.perm bE (At.perm bE (At.perm bE (At.perm bE (At.perm sel4 (At.perm bE (op_callR rfl (.cons rfl .nil) ((FBytes_x hp).liftB hNR) (F:= [N4,N8,N2,N1,R]) (Lst':= [R]) Tryz.func90 rfl rfl (.refl _) (by simp) rfl (.refl _) (.cons _ (.cons _ (.cons _ (.cons _ (.refl _))))) ?_ ?_)))))))))
 ·rintro v50 L50 ⟨e,rfl,rfl,he2⟩
  change At _ _ _ [N4,N8,N2,N1,R] _
  refine aX ((At.sub (L':= [R]) (.cons _ (.cons _ (.cons _ (.cons _ (.cons_cons _ (.slnil)))))) (At.pan (L1:= []) (.refl _) (.refl _) ?_)))
  exact⟨e,rfl,rfl,hin.trans (by simp only [hdA,eb,e_pa,e_om,e_co,e_st,e_tx,e_rc,e_bl,e_df,e_nu,e_gl,e_gu,e_ti,he2])⟩
 rintro v50 L50 ⟨Nq,ea,ec,x_ex,rfl,rfl,e_ex,hp,r_ex,w1,w2,w3⟩
 change At _ _ _ [Nq,N4,N8,N2,N1,R] _
 refine aF (nxrf rfl rfl rfl) fl44_13 rfl rfl (op_callR rfl (.cons rfl .nil) ((FHash_p hp).liftB hNR) (F:= [N4,N8,N2,N1,R]) (Lst':= [R]) Tryz.func106 rfl rfl (.refl _) (by simp) rfl (.refl _) (.cons _ (.cons _ (.cons _ (.cons _ (.refl _))))) ?_ ?_)
 ·rintro v52 L52 ⟨e,rfl,rfl,he2⟩
  change At _ _ _ [N4,N8,N2,N1,R] _
  refine aX ((At.sub (L':= [R]) (.cons _ (.cons _ (.cons _ (.cons _ (.cons_cons _ (.slnil)))))) (At.pan (L1:= []) (.refl _) (.refl _) ?_)))
  exact⟨e,rfl,rfl,hin.trans (by simp only [hdA,eb,e_pa,e_om,e_co,e_st,e_tx,e_rc,e_bl,e_df,e_nu,e_gl,e_gu,e_ti,e_ex,he2])⟩
 rintro v52 L52 ⟨Nq,x_mx,rfl,rfl,e_mx,l_mx,hp⟩
 change At _ _ _ [Nq,N4,N8,N2,N1,R] _
 refine op_callR rfl (.cons rfl (.cons rfl .nil)) ((FFixed_p (k:=8) hp).liftB hNR) (F:= [N4,N8,N2,N1,R]) (Lst':= [R]) Tryz.func107 rfl rfl (.refl _) (by simp) rfl (.refl _) (.cons _ (.cons _ (.cons _ (.cons _ (.refl _))))) ?_ ?_
 ·rintro v54 L54 ⟨e,rfl,rfl,he2⟩
  change At _ _ _ [N4,N8,N2,N1,R] _
  refine aX ((At.sub (L':= [R]) (.cons _ (.cons _ (.cons _ (.cons _ (.cons_cons _ (.slnil)))))) (At.pan (L1:= []) (.refl _) (.refl _) ?_)))
  exact⟨e,rfl,rfl,hin.trans (by simp only [hdA,eb,e_pa,e_om,e_co,e_st,e_tx,e_rc,e_bl,e_df,e_nu,e_gl,e_gu,e_ti,e_ex,e_mx,he2])⟩
 rintro v54 L54 ⟨Nq,a_no,c_no,x_no,rfl,rfl,e_no,l_no,hp,r_no⟩
 change At _ _ _ [Nq,N4,N8,N2,N1,R] _
 have r_no:=r_no.le hNR;obtain⟨T_no,O_no,rfl,q_no⟩:=r_no.2.2.2 (by omega)
 refine op_toArr (nxrf rfl rfl rfl) ae42 rfl (by omega) rfl ?_
 refine op_loadAgg (nxrf rfl rfl rfl) ag42 rfl q_no (by rw [aY];exact l_no) aP rfl ?_
 refine aI (nxrm rfl rfl rfl) sz22 rfl rfl rfl rfl rfl B4 (by rw [HdM.len k];exact show 0+445+1≤556 by decide) sel1 (fun N4 B4=>?_)
 erw [hd_ex (x:=x_ex) k]at B4;have k:=ok_ex (x:=x_ex) k
 refine At.moreR (Lst:= [R]) (Lst':= [R]) (.refl _) (.cons _ (.cons _ (.cons _ (.cons _ (.cons _ (.refl _)))))) (aF (nxrf rfl rfl rfl) fl44_14 rfl rfl ?_)
 refine aI (nxrm rfl rfl rfl) sz40 rfl rfl rfl (by rw [aY];exact l_mx) (all8x2 _) B4 (by rw [HdM.len k,aY,l_mx];exact show 0+446+32≤556 by decide) sel0 (fun N4 B4=>?_)
 erw [hd_mx k l_mx]at B4;have k:=ok_mx k l_mx
 refine At.moreR (Lst:= [R]) (Lst':= [R]) (.refl _) (.cons _ (.cons _ (.cons _ (.cons _ (.cons _ (.refl _)))))) (aF (nxrf rfl rfl rfl) fl44_15 rfl rfl ?_)
 refine aI (nxrl rfl rfl rfl rfl) sz42 rfl rfl rfl (by rw [aY];exact l_no) (all8x2 _) B4 (by rw [HdM.len k,aY,l_no];exact show 0+478+8≤556 by decide) sel0 (fun N4 B4=>?_)
 erw [hd_no k l_no]at B4;have k:=ok_no k l_no
 refine At.rNil (aB (s_8 (At.seq fun _ s_9=>At.seq fun _ s_10=>At.region (aF (aC rfl) fl44_0 rfl rfl (aL (aC rfl) sc3 rfl B4 (hd_fi k) aP rfl (op_gtr (aC rfl) rfl rfl rfl (aA (aB (s_10 (aO rfl (fun c62=>?_) (fun c62=>?_)))))))))))
 ·refine At.knowT (d:=62) rfl c62 ?_
  obtain⟨t15,r,rfl⟩: ∃a l,r=a::l:=by cases r with|nil=>exact absurd c62 (by simp)|cons a b=>exact⟨a,b,rfl⟩
  obtain⟨z15,zr,rfl⟩: ∃a l,zr=a::l:=by cases zr with|nil=>exact absurd hzl (by simp)|cons a b=>exact⟨a,b,rfl⟩
  refine At.region (aE (aC rfl) rfl rfl (At.perm bE (At.perm bE (At.perm bE (At.perm bE (At.perm sel4 (At.perm bE (op_callE (.cons rfl .nil) ((FWord_p hp).liftB hNR) (F:= [N4,N8,N2,N1,R]) Tryz.func88 rfl rfl (.refl _) (by simp) rfl ?_ ?_))))))))
  ·rintro v64 L64 ⟨e,rfl,rfl,he2⟩
   change At _ _ _ [N4,N8,N2,N1,R] _
   refine aX ((At.sub (L':= [R]) (.cons _ (.cons _ (.cons _ (.cons _ (.cons_cons _ (.slnil)))))) (At.pan (L1:= []) (.refl _) (.refl _) ?_)))
   exact⟨e,rfl,rfl,hin.trans (by simp only [hdA,eb,e_pa,e_om,e_co,e_st,e_tx,e_rc,e_bl,e_df,e_nu,e_gl,e_gu,e_ti,e_ex,e_mx,e_no,hdR,hdR2,hdR3,he2])⟩
  rintro v64 L64 ⟨Nq,x_bf,rfl,rfl,e_bf,l_bf,hp⟩
  change At _ _ _ [Nq,N4,N8,N2,N1,R] _
  refine aF (aC rfl) fl44_16 rfl rfl ?_
  refine aI (nxl rfl) sz26 rfl rfl rfl rfl rfl B4 (by rw [HdM.len k];exact show 0+486+4≤556 by decide) sel1 (fun N4 B4=>?_)
  erw [hd_bf k]at B4;have k:=ok_bf k l_bf
  refine aA (aB (s_9 (At.seq fun _ s_11=>At.seq fun _ s_12=>At.region (aF (aC rfl) fl44_0 rfl rfl (aL (aC rfl) sc3 rfl B4 (hd_fi k) aP rfl (op_gtr (aC rfl) rfl rfl rfl (aA (aB (s_12 (aO rfl (fun c68=>?_) (fun c68=>?_)))))))))))
  ·refine At.knowT (d:=68) rfl c68 ?_
   obtain⟨t16,r,rfl⟩: ∃a l,r=a::l:=by cases r with|nil=>exact absurd c68 (by simp)|cons a b=>exact⟨a,b,rfl⟩
   obtain⟨z16,zr,rfl⟩: ∃a l,zr=a::l:=by cases zr with|nil=>exact absurd hzl (by simp)|cons a b=>exact⟨a,b,rfl⟩
   refine At.region (aE (aC rfl) rfl rfl (At.perm bE (At.perm bE (At.perm bE (At.perm bE (At.perm sel4 (At.perm bE (op_callE (.cons rfl .nil) ((FHash_p hp).liftB hNR) (F:= [N4,N8,N2,N1,R]) Tryz.func106 rfl rfl (.refl _) (by simp) rfl ?_ ?_))))))))
   ·rintro v70 L70 ⟨e,rfl,rfl,he2⟩
    change At _ _ _ [N4,N8,N2,N1,R] _
    refine aX ((At.sub (L':= [R]) (.cons _ (.cons _ (.cons _ (.cons _ (.cons_cons _ (.slnil)))))) (At.pan (L1:= []) (.refl _) (.refl _) ?_)))
    exact⟨e,rfl,rfl,hin.trans (by simp only [hdA,eb,e_pa,e_om,e_co,e_st,e_tx,e_rc,e_bl,e_df,e_nu,e_gl,e_gu,e_ti,e_ex,e_mx,e_no,hdR,hdR2,hdR3,e_bf,he2])⟩
   rintro v70 L70 ⟨Nq,x_wd,rfl,rfl,e_wd,l_wd,hp⟩
   change At _ _ _ [Nq,N4,N8,N2,N1,R] _
   refine aF (aC rfl) fl44_17 rfl rfl ?_
   refine aI (nxl rfl) sz40 rfl rfl rfl (by rw [aY];exact l_wd) (all8x2 _) B4 (by rw [HdM.len k,aY,l_wd];exact show 0+490+32≤556 by decide) sel1 (fun N4 B4=>?_)
   erw [hd_wd k l_wd]at B4;have k:=ok_wd k l_wd
   refine aA (aB (s_11 (At.seq fun _ s_13=>At.seq fun _ s_14=>At.region (aF (aC rfl) fl44_0 rfl rfl (aL (aC rfl) sc3 rfl B4 (hd_fi k) aP rfl (op_gtr (aC rfl) rfl rfl rfl (aA (aB (s_14 (aO rfl (fun c74=>?_) (fun c74=>?_)))))))))))
   ·refine At.knowT (d:=74) rfl c74 ?_
    obtain⟨t17,t18,t19,rfl⟩:=three_of (l:=r) (by simp only [List.length_cons]at hrl c74;omega)
    obtain⟨z17,z18,z19,rfl⟩:=three_of (l:=zr) (by simp only [List.length_cons,List.length_nil]at hzl;omega)
    refine At.region (aE (aC rfl) rfl rfl (At.perm bE (At.perm bE (At.perm bE (At.perm bE (At.perm sel4 (At.perm bE (op_callE (.cons rfl .nil) ((F64_p hp).liftB hNR) (F:= [N4,N8,N2,N1,R]) Tryz.func58 rfl rfl (.refl _) (by simp) rfl ?_ ?_))))))))
    ·rintro v76 L76 ⟨e,rfl,rfl,he2⟩
     change At _ _ _ [N4,N8,N2,N1,R] _
     refine aX ((At.sub (L':= [R]) (.cons _ (.cons _ (.cons _ (.cons _ (.cons_cons _ (.slnil)))))) (At.pan (L1:= []) (.refl _) (.refl _) ?_)))
     exact⟨e,rfl,rfl,hin.trans (by simp only [hdA,eb,e_pa,e_om,e_co,e_st,e_tx,e_rc,e_bl,e_df,e_nu,e_gl,e_gu,e_ti,e_ex,e_mx,e_no,hdR,hdR2,hdR3,e_bf,e_wd,he2])⟩
    rintro v76 L76 ⟨Nq,x_bg,rfl,rfl,e_bg,hp⟩
    change At _ _ _ [Nq,N4,N8,N2,N1,R] _
    refine aE (aC rfl) rfl rfl (op_callE (.cons rfl .nil) ((F64_p hp).liftB hNR) (F:= [N4,N8,N2,N1,R]) Tryz.func58 rfl rfl (.refl _) (by simp) rfl ?_ ?_)
    ·rintro v78 L78 ⟨e,rfl,rfl,he2⟩
     change At _ _ _ [N4,N8,N2,N1,R] _
     refine aX ((At.sub (L':= [R]) (.cons _ (.cons _ (.cons _ (.cons _ (.cons_cons _ (.slnil)))))) (At.pan (L1:= []) (.refl _) (.refl _) ?_)))
     exact⟨e,rfl,rfl,hin.trans (by simp only [hdA,eb,e_pa,e_om,e_co,e_st,e_tx,e_rc,e_bl,e_df,e_nu,e_gl,e_gu,e_ti,e_ex,e_mx,e_no,hdR,hdR2,hdR3,e_bf,e_wd,e_bg,he2])⟩
    rintro v78 L78 ⟨Nq,x_xs,rfl,rfl,e_xs,hp⟩
    change At _ _ _ [Nq,N4,N8,N2,N1,R] _
    refine aE (aC rfl) rfl rfl (op_callE (.cons rfl .nil) ((FHash_p hp).liftB hNR) (F:= [N4,N8,N2,N1,R]) Tryz.func106 rfl rfl (.refl _) (by simp) rfl ?_ ?_)
    ·rintro v80 L80 ⟨e,rfl,rfl,he2⟩
     change At _ _ _ [N4,N8,N2,N1,R] _
     refine aX ((At.sub (L':= [R]) (.cons _ (.cons _ (.cons _ (.cons _ (.cons_cons _ (.slnil)))))) (At.pan (L1:= []) (.refl _) (.refl _) ?_)))
     exact⟨e,rfl,rfl,hin.trans (by simp only [hdA,eb,e_pa,e_om,e_co,e_st,e_tx,e_rc,e_bl,e_df,e_nu,e_gl,e_gu,e_ti,e_ex,e_mx,e_no,hdR,hdR2,hdR3,e_bf,e_wd,e_bg,e_xs,he2])⟩
    rintro v80 L80 ⟨Nq,x_be,rfl,rfl,e_be,l_be,hp⟩
    change At _ _ _ [Nq,N4,N8,N2,N1,R] _
    refine aF (aC rfl) fl44_18 rfl rfl ?_
    refine aI (nxl rfl) sz24 rfl rfl rfl rfl rfl B4 (by rw [HdM.len k];exact show 0+522+1≤556 by decide) sel1 (fun N4 B4=>?_)
    erw [hd_bg k]at B4;have k:=ok_bg (u:=x_bg) k
    refine aF (aC rfl) fl44_19 rfl rfl ?_
    refine aI (nxl rfl) sz24 rfl rfl rfl rfl rfl B4 (by rw [HdM.len k];exact show 0+523+1≤556 by decide) sel0 (fun N4 B4=>?_)
    erw [hd_xs k]at B4;have k:=ok_xs (u:=x_xs) k
    refine aF (aC rfl) fl44_20 rfl rfl ?_
    refine aI (nxl rfl) sz40 rfl rfl rfl (by rw [aY];exact l_be) (all8x2 _) B4 (by rw [HdM.len k,aY,l_be];exact show 0+524+32≤556 by decide) sel0 (fun N4 B4=>?_)
    erw [hd_be k l_be]at B4;have k:=ok_be k l_be
    refine aA (aB (s_13 (At.seq fun _ s_15=>At.region (aQ (ds:=_) (aC rfl) ag44 rfl B4 (by exact tk_all (HdM.len k _)) (by exact HdM.len k _) aP rfl ?_))))
    refine aI (nxl rfl) sz44 rfl rfl rfl (HdM.len k _) (HdM.one rfl) B2 (by rw [z44_len,HdM.len k];exact Nat.le_refl _) sel3 (fun N2 B2=>?_)
    rw [setL_whole (by rw [z44_len,HdM.len k])]at B2
    refine aA (aB (s_15 (At.ret ((At.retX (At.sub (L':= [N2,R]) (.cons_cons _ (.cons _ (.cons _ (.cons _ (.cons _ (.cons_cons _ (.slnil))))))) (aW (L1:= []) rfl (.cell rfl (aZ (ds:=_) ag44 B2 (tk_all (HdM.len k _)) (HdM.len k _) aP) .nil) (.cons _ (.refl _)) (.refl _) ?_)))))))
    exact⟨_,_,_,rfl,rfl,hin.trans (by simp only [hdA,eb,hdR,hdR2,hdR3,e_pa,e_om,e_co,e_st,e_tx,e_rc,e_bl,e_df,e_nu,e_gl,e_gu,e_ti,e_ex,e_mx,e_no,e_bf,e_wd,e_bg,e_xs,e_be]<;>rfl),k,.inr (.inr (.inr rfl)),⟨ea,ec,rfl,r_ex,12,z12,rfl,by rw [slB,w1,w2,w3]⟩,hzs⟩
   refine At.knowF (d:=74) rfl c74 ?_
   try obtain rfl:r= []:=List.length_eq_zero_iff.1 (by simp only [List.length_cons]at c74;omega)
   refine At.skip (aB (s_13 (At.seq fun _ s_16=>At.region (aQ (ds:=_) (aC rfl) ag44 rfl B4 (by exact tk_all (HdM.len k _)) (by exact HdM.len k _) aP rfl ?_))))
   refine aI (nxl rfl) sz44 rfl rfl rfl (HdM.len k _) (HdM.one rfl) B2 (by rw [z44_len,HdM.len k];exact Nat.le_refl _) sel3 (fun N2 B2=>?_)
   rw [setL_whole (by rw [z44_len,HdM.len k])]at B2
   refine aA (aB (s_16 (At.ret ((At.retX (At.sub (L':= [N2,R]) (.cons_cons _ (.cons _ (.cons _ (.cons _ (.cons _ (.cons_cons _ (.slnil))))))) (aW (L1:= []) rfl (.cell rfl (aZ (ds:=_) ag44 B2 (tk_all (HdM.len k _)) (HdM.len k _) aP) .nil) (.cons _ (.refl _)) (.refl _) ?_)))))))
   exact⟨_,_,_,rfl,rfl,hin.trans (by simp only [hdA,eb,hdR,hdR2,hdR3,e_pa,e_om,e_co,e_st,e_tx,e_rc,e_bl,e_df,e_nu,e_gl,e_gu,e_ti,e_ex,e_mx,e_no,e_bf,e_wd]<;>rfl),k,.inr (.inr (.inl rfl)),⟨ea,ec,rfl,r_ex,12,z12,rfl,by rw [slB,w1,w2,w3]⟩,hzs⟩
  refine At.knowF (d:=68) rfl c68 ?_
  try obtain rfl:r= []:=List.length_eq_zero_iff.1 (by simp only [List.length_cons]at c68;omega)
  refine At.skip (aB (s_11 (At.seq fun _ s_17=>At.seq fun _ s_18=>At.region (aF (aC rfl) fl44_0 rfl rfl (aL (aC rfl) sc3 rfl B4 (hd_fi k) aP rfl (op_gtr (aC rfl) rfl rfl rfl (aA (aB (s_18 (aO rfl (fun c74=>?_) (fun c74=>?_)))))))))))
  ·exact absurd c74 (by simp)
  refine At.knowF (d:=74) rfl c74 ?_
  try obtain rfl:r= []:=List.length_eq_zero_iff.1 (by simp only [List.length_cons]at c74;omega)
  refine At.skip (aB (s_17 (At.seq fun _ s_19=>At.region (aQ (ds:=_) (aC rfl) ag44 rfl B4 (by exact tk_all (HdM.len k _)) (by exact HdM.len k _) aP rfl ?_))))
  refine aI (nxl rfl) sz44 rfl rfl rfl (HdM.len k _) (HdM.one rfl) B2 (by rw [z44_len,HdM.len k];exact Nat.le_refl _) sel3 (fun N2 B2=>?_)
  rw [setL_whole (by rw [z44_len,HdM.len k])]at B2
  refine aA (aB (s_19 (At.ret ((At.retX (At.sub (L':= [N2,R]) (.cons_cons _ (.cons _ (.cons _ (.cons _ (.cons _ (.cons_cons _ (.slnil))))))) (aW (L1:= []) rfl (.cell rfl (aZ (ds:=_) ag44 B2 (tk_all (HdM.len k _)) (HdM.len k _) aP) .nil) (.cons _ (.refl _)) (.refl _) ?_)))))))
  exact⟨_,_,_,rfl,rfl,hin.trans (by simp only [hdA,eb,hdR,hdR2,hdR3,e_pa,e_om,e_co,e_st,e_tx,e_rc,e_bl,e_df,e_nu,e_gl,e_gu,e_ti,e_ex,e_mx,e_no,e_bf]<;>rfl),k,.inr (.inl rfl),⟨ea,ec,rfl,r_ex,12,z12,rfl,by rw [slB,w1,w2,w3]⟩,hzs⟩
 refine At.knowF (d:=62) rfl c62 ?_
 obtain rfl:r= []:=List.length_eq_zero_iff.1 (by omega)
 refine At.skip (aB (s_9 (At.seq fun _ s_20=>At.seq fun _ s_21=>At.region (aF (aC rfl) fl44_0 rfl rfl (aL (aC rfl) sc3 rfl B4 (hd_fi k) aP rfl (op_gtr (aC rfl) rfl rfl rfl (aA (aB (s_21 (aO rfl (fun c68=>?_) (fun c68=>?_)))))))))))
 ·exact absurd c68 (by simp)
 refine At.knowF (d:=68) rfl c68 ?_
 try obtain rfl:r= []:=List.length_eq_zero_iff.1 (by simp only [List.length_cons]at c68;omega)
 refine At.skip (aB (s_20 (At.seq fun _ s_22=>At.seq fun _ s_23=>At.region (aF (aC rfl) fl44_0 rfl rfl (aL (aC rfl) sc3 rfl B4 (hd_fi k) aP rfl (op_gtr (aC rfl) rfl rfl rfl (aA (aB (s_23 (aO rfl (fun c74=>?_) (fun c74=>?_)))))))))))
 ·exact absurd c74 (by simp)
 refine At.knowF (d:=74) rfl c74 ?_
 try obtain rfl:r= []:=List.length_eq_zero_iff.1 (by simp only [List.length_cons]at c74;omega)
 refine At.skip (aB (s_22 (At.seq fun _ s_24=>At.region (aQ (ds:=_) (aC rfl) ag44 rfl B4 (by exact tk_all (HdM.len k _)) (by exact HdM.len k _) aP rfl ?_))))
 refine aI (nxl rfl) sz44 rfl rfl rfl (HdM.len k _) (HdM.one rfl) B2 (by rw [z44_len,HdM.len k];exact Nat.le_refl _) sel3 (fun N2 B2=>?_)
 rw [setL_whole (by rw [z44_len,HdM.len k])]at B2
 refine aA (aB (s_24 (At.ret ((At.retX (At.sub (L':= [N2,R]) (.cons_cons _ (.cons _ (.cons _ (.cons _ (.cons _ (.cons_cons _ (.slnil))))))) (aW (L1:= []) rfl (.cell rfl (aZ (ds:=_) ag44 B2 (tk_all (HdM.len k _)) (HdM.len k _) aP) .nil) (.cons _ (.refl _)) (.refl _) ?_)))))))
 exact⟨_,_,_,rfl,rfl,hin.trans (by simp only [hdA,eb,hdR,hdR2,hdR3,e_pa,e_om,e_co,e_st,e_tx,e_rc,e_bl,e_df,e_nu,e_gl,e_gu,e_ti,e_ex,e_mx,e_no]<;>rfl),k,.inl rfl,⟨ea,ec,rfl,r_ex,12,z12,rfl,by rw [slB,w1,w2,w3]⟩,hzs⟩
end
end Go.Proofs.YtjfagifjajielaaGreat
