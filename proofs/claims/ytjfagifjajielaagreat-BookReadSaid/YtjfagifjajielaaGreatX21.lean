/- Several texts in one: see the remarks ahead of each part. No condition but those told there. -/
import Derived.Test.YtjfagifjajielaaGreatX1
import Derived.Test.YtjfagifjajielaaGreatX20
set_option linter.unusedSimpArgs false
set_option linter.unusedVariables false
namespace Go.Proofs.YtjfagifjajielaaGreat
open Go Go.RowKit
set_option maxRecDepth 100000
def readTxE (b:List UInt8):Except Nat TxM:=match envF b with
 |none=>.error 2
 |some (k,p)=>if k≤3∧(0<k∨0<(b.getD 0 0).toNat)then eb (decodeF p) fun t=>eb (listE t) (txE k)else .error 2
theorem eb_ne {α β:Type} {x:Except Nat α} {f:α→Except Nat β} (hx: ∀e,x=.error e→e≠0) (hf: ∀a e,f a=.error e→e≠0): ∀e,eb x f=.error e→e≠0:=fun e h=>by
 cases x with
 |ok a=>exact hf a e h
 |error e'=>cases h;exact hx _ rfl
theorem ok_ne {α:Type} {a:α} : ∀e,(Except.ok a:Except Nat α)=.error e→e≠0:=fun e h=>by cases h
theorem er_ne {α:Type} {k:Nat} (hk:k≠0): ∀e,(Except.error k:Except Nat α)=.error e→e≠0:=fun e h=>by cases h;exact hk
theorem if_ne {α:Type} {c:Prop} [Decidable c] {x y:Except Nat α} (hx:c→ ∀e,x=.error e→e≠0) (hy: ¬c→ ∀e,y=.error e→e≠0): ∀e,(if c then x else y)=.error e→e≠0:=fun e h=>by
 split at h
 ·rename_i k;exact hx k e h
 ·rename_i k;exact hy k e h
theorem strE_ne {t:It} : ∀e,strE t=.error e→e≠0:=fun e h=>by
 obtain⟨l,bs,its⟩:=t
 cases l with
 |false=>cases h
 |true=>cases h;decide
theorem listE_ne {t:It} : ∀e,listE t=.error e→e≠0:=fun e h=>by
 obtain⟨l,bs,its⟩:=t
 cases l with
 |false=>cases h;decide
 |true=>cases h
theorem fixE_ne {k:Nat} {t:It} : ∀e,fixE k t=.error e→e≠0:=fun e h=>by
 unfold fixE at h
 split at h
 ·split at h
  ·cases h
  ·cases h;decide
 ·rename_i he;cases h;exact strE_ne _ he
theorem wordE_ne {t:It} : ∀e,wordE t=.error e→e≠0:=fun e h=>by
 unfold wordE at h
 split at h
 ·split at h
  ·cases h
  ·rename_i k;cases h;exact k
 ·rename_i he;cases h;exact strE_ne _ he
theorem smallE_ne {t:It} : ∀e,smallE t=.error e→e≠0:=fun e h=>by
 unfold smallE at h
 split at h
 ·split at h
  ·cases h
  ·cases h;decide
 ·rename_i he;cases h;exact wordE_ne _ he
theorem n64E_ne {t:It} : ∀e,n64E t=.error e→e≠0:=eb_ne smallE_ne fun _=>ok_ne
theorem toE_ne {ki:Int} {t:It} : ∀e,toE ki t=.error e→e≠0:=fun e h=>by
 unfold toE at h
 split at h
 ·rename_i he;cases h;exact strE_ne _ he
 ·split at h
  ·cases h
  ·split at h
   ·cases h
   ·cases h;decide
theorem vE_ne {ki:Int} {ch:Nat} {t:It} : ∀e,vE ki ch t=.error e→e≠0:=fun e h=>by
 unfold vE at h
 split at h
 ·rename_i he;cases h;exact wordE_ne _ he
 ·split at h
  ·split at h
   ·cases h
   ·cases h;decide
  ·split at h<;>split at h<;>first|(cases h;done)|(cases h;decide)
theorem mapE_ne {α:Type} {g:It→Except Nat α} (hg: ∀t e,g t=.error e→e≠0): ∀(ts:List It) (e:Nat),mapE g ts=.error e→e≠0:=by
 intro ts
 induction ts with
 |nil=>intro e h;cases h
 |cons t ts ih=>
  intro e h
  unfold mapE at h
  split at h
  ·rename_i he;cases h;exact hg t _ he
  ·split at h
   ·rename_i he;cases h;exact ih _ he
   ·cases h
theorem eachE_ne {α:Type} {g:It→Except Nat α} (hg: ∀t e,g t=.error e→e≠0) {t:It} : ∀e,eachE g t=.error e→e≠0:=fun e h=>by
 unfold eachE at h
 split at h
 ·rename_i he;cases h;exact listE_ne _ he
 ·exact mapE_ne hg _ e h
theorem accE_err {t:It} : ∀e,accE t=.error e→e≠0:=fun e h=>by
 unfold accE at h
 split at h
 ·rename_i he;cases h;exact listE_ne _ he
 ·split at h
  ·rename_i he;cases h;exact fixE_ne _ he
  ·split at h
   ·rename_i he;cases h;exact eachE_ne (fun t=>fixE_ne) _ he
   ·cases h
 ·cases h;decide
theorem tx0_err (its:List It): ∀e,tx0 its=.error e→e≠0:=by
 unfold tx0
 split
 ·exact eb_ne smallE_ne fun _=>eb_ne wordE_ne fun _=>eb_ne smallE_ne fun _=>eb_ne toE_ne fun _=>eb_ne wordE_ne fun _=>eb_ne strE_ne fun _=>eb_ne vE_ne fun _=>eb_ne wordE_ne fun _=>eb_ne wordE_ne fun _=>ok_ne
 ·exact er_ne (by decide)
theorem tx1_err (its:List It): ∀e,tx1 its=.error e→e≠0:=by
 unfold tx1
 split
 ·exact eb_ne smallE_ne fun _=>eb_ne smallE_ne fun _=>eb_ne wordE_ne fun _=>eb_ne smallE_ne fun _=>eb_ne toE_ne fun _=>eb_ne wordE_ne fun _=>eb_ne strE_ne fun _=>eb_ne (eachE_ne fun t=>accE_err) fun _=>eb_ne vE_ne fun _=>eb_ne wordE_ne fun _=>eb_ne wordE_ne fun _=>ok_ne
 ·exact er_ne (by decide)
theorem tx2_err (its:List It): ∀e,tx2 its=.error e→e≠0:=by
 unfold tx2
 split
 ·exact eb_ne smallE_ne fun _=>eb_ne smallE_ne fun _=>eb_ne wordE_ne fun _=>eb_ne wordE_ne fun _=>eb_ne smallE_ne fun _=>eb_ne toE_ne fun _=>eb_ne wordE_ne fun _=>eb_ne strE_ne fun _=>eb_ne (eachE_ne fun t=>accE_err) fun _=>eb_ne vE_ne fun _=>eb_ne wordE_ne fun _=>eb_ne wordE_ne fun _=>ok_ne
 ·exact er_ne (by decide)
theorem tx3_err (its:List It): ∀e,tx3 its=.error e→e≠0:=by
 unfold tx3
 split
 ·exact eb_ne smallE_ne fun _=>eb_ne smallE_ne fun _=>eb_ne wordE_ne fun _=>eb_ne wordE_ne fun _=>eb_ne smallE_ne fun _=>eb_ne toE_ne fun _=>eb_ne wordE_ne fun _=>eb_ne strE_ne fun _=>eb_ne (eachE_ne fun t=>accE_err) fun _=>eb_ne wordE_ne fun _=>eb_ne (eachE_ne fun t=>fixE_ne) fun _=>eb_ne vE_ne fun _=>eb_ne wordE_ne fun _=>eb_ne wordE_ne fun _=>ok_ne
 ·exact er_ne (by decide)
theorem txE_err (k:Nat) (its:List It): ∀e,txE k its=.error e→e≠0:=by
 match k with
 |0=>exact tx0_err its
 |1=>exact tx1_err its
 |2=>exact tx2_err its
 |3=>exact tx3_err its
 |k+4=>exact er_ne (by decide)
theorem readTx_1 {b:List UInt8} (h:envF b=none):readTxE b=.error 2:=by rw [readTxE,h]
theorem readTx_2 {b p:List UInt8} {k:Nat} (h:envF b=some (k,p)) (hk: ¬(k≤3∧(0<k∨0<(b.getD 0 0).toNat))):readTxE b=.error 2:=by
 rw [readTxE,h];simp only;rw [if_neg hk]
theorem readTx_3 {b p:List UInt8} {k e:Nat} (h:envF b=some (k,p)) (hk:k≤3∧(0<k∨0<(b.getD 0 0).toNat)) (hd:decodeF p=.error e):readTxE b=.error e:=by
 rw [readTxE,h];simp only [hd,eb];rw [if_pos hk]
theorem readTx_4 {b p:List UInt8} {t:It} {k e:Nat} (h:envF b=some (k,p)) (hk:k≤3∧(0<k∨0<(b.getD 0 0).toNat)) (hd:decodeF p=.ok t) (hl:listE t=.error e):readTxE b=.error e:=by
 rw [readTxE,h];simp only [hd,eb,hl];rw [if_pos hk]
theorem readTx_5 {b p:List UInt8} {t:It} {its:List It} {k:Nat} (h:envF b=some (k,p)) (hk:k≤3∧(0<k∨0<(b.getD 0 0).toNat)) (hd:decodeF p=.ok t) (hl:listE t=.ok its):readTxE b=txE k its:=by
 rw [readTxE,h];simp only [hd,eb,hl];rw [if_pos hk]
def ItemO (NI:Heaplet) (t:It) (zs:List IV):Prop:= ∃x:IV,ItN NI t x∧OwnTop NI t x∧RSl NI 3 x.ai x.ni x.ci (cellsI zs)
def ReadTxP (b:List UInt8) (v:Value) (L:List Heaplet):Prop:=
 (∃e:Nat,e≠0∧v=.tuple #[.agg z32.toArray,.int .i64 (e:Int)]∧L= []∧readTxE b=.error e)∨
 (∃NI J m d x y t zs,v=.tuple #[.agg (m.cells d x y).toArray,.int .i64 0]∧L= [NI,J]∧readTxE b=.ok m∧m.Ok∧TxS zs NI J m d x y∧ItemO NI t zs)
theorem TxM.cells_len {m:TxM} (h:m.Ok) (d a b:Value):(m.cells d a b).length=53:=aX h.to
theorem TxM.one {m:TxM} {d a b:Value} (hd:d.oneCell'=true) (ha:a.oneCell'=true) (hb:b.oneCell'=true):(m.cells d a b).all (·.oneCell')=true:=by
 refine part_all fun p hp u hu=>?_
 simp only [txP,List.mem_cons,List.not_mem_nil,or_false]at hp
 rcases hp with rfl|rfl|rfl|rfl|rfl|rfl|rfl|rfl|rfl|rfl|rfl|rfl|rfl|rfl|rfl|rfl
 all_goals first
  |exact one_u8s _ u hu
  |exact one_u64s _ u hu
  |(obtain rfl:=List.mem_singleton.1 hu;first|exact hd|exact ha|exact hb|rfl)
theorem deco_le {b:List UInt8} {t:It} (hb:b.length≤1099511627776) (h:decodeF b=.ok t):t.form.length≤1099511627776:=by
 rw [(decodeF_back (by omega) h).1];exact hb
theorem its_le {t:It} {its:List It} (h:listE t=.ok its) (hb:t.form.length≤1099511627776): ∀y∈its,y.form.length≤1099511627776:=fun y hy=>el_le hb h hy
theorem envF_len {b p:List UInt8} {k:Nat} (h:envF b=some (k,p)):0<b.length∧p.length≤b.length:=by
 unfold envF at h
 split at h
 ·cases h
 ·rename_i hn
  split at h
  ·simp only [Option.some.injEq,Prod.mk.injEq]at h
   rw [←h.2];exact⟨by omega,Nat.le_refl _⟩
  ·simp only [Option.some.injEq,Prod.mk.injEq]at h
   rw [←h.2,List.length_drop];omega
theorem z_tx:z32=(txP 0 0 0 0 0 0 false zero20 0 (.slice none 0 0) (.slice none 0 0) 0 (.slice none 0 0) false 0 0).flatten:=by rfl
theorem tx_start (k:Int):setL z32 (0+0) [.int .i64 k]=(txP k 0 0 0 0 0 false zero20 0 (.slice none 0 0) (.slice none 0 0) 0 (.slice none 0 0) false 0 0).flatten:=by
 rw [z_tx]
 exact part_put (txP_lens (List.length_replicate ..)) (j:=0) U U _
section
variable {N : Heaplet} {ao : Option Addr} {n cap : Nat} {b : List UInt8}
set_option maxHeartbeats 4000000 in
theorem FReadTx (h:RSl N 1 ao n cap (u8s b)) (hn:n≤1099511627776):Fn Tryz.prog 7 #[.slice ao n cap] [] [N] (ReadTxP b):=by
 have hl:=cQ
 have hz0:=cQ
 have hlen:=h.len8
 refine Fn.enterD (vs:= [.slice ao n cap]) Tryz.func7 U U U ?_
 intro E R hR hE
 have h:=h.le (hR N (by simp))
 change At _ _ E [R] _
 refine aC fun _ s_1=>aA (bK bU ze32 U (fun N2 b2 B2=>?_))
 change Blk N2 b2 _ z32 at B2
 refine bK bU ze33 U (fun N3 b3 B3=>?_)
 change Blk N3 b3 _ [.int .i64 0]at B3
 refine aB (s_1 (aC fun _ s_2=>aA (op_mkF aE .nil (.cons U (.cons U .nil)) U (op_defer U hE (aB (s_2 (aC fun _ s_3=>aA (aH U U (bD bU (.cons U .nil) (Envelope_r h hn) Tryz.func29 U U (by simp) U ?_)))))))))
 rintro _ _ (⟨rfl,henv,rfl⟩|⟨M,k,p,a,c,rfl,henv,rfl,r⟩)
 ·show At _ _ _ [N3,N2,R] _
  refine aH U U (aO aE U U U (aO aE U U U (aO aE U U U (aR U U (aR U U (aF cL sz33 U U U U U B3 (by simp) dB (fun N3 B3=>?_)))))))
  simp only [setL,List.set]at B3
  refine aB (s_3 (aC fun _ s_4=>aA (aK aE sc33 U B3 U bI U ?_)))
  refine bM (.cons U .nil) (FCheck_e (by decide)) (F:= [N3,N2,R]) Tryz.func30 U U (.refl _) (by simp) U ?_ ?_
  ·rintro _ _ ⟨rfl,rfl⟩
   show At _ _ _ [N3,N2,R] _
   refine aY ((aM (bO (aM (At.panD (F:= [R]) hE (FRecTx B2 hl B3) Tryz.func28 U U (.refl _) ?_)))))
   rintro L_ ⟨N2,N3,rfl,B2,B3⟩
   show At _ _ _ [N2,N3,R] _
   refine bE (L1:= []) U (.cell U (bQ (ds:=_) ag32 B2 (bY (by first|exact hz0|exact TxM.cells_len hok _ _ _)) (by first|exact hz0|exact TxM.cells_len hok _ _ _) bI) (.cell U (res_scal sc33 B3 U mem1) .nil)) U (.cons _ (.cons _ (.refl _))) aJ ?_
   first
    |exact .inl ⟨2,by decide,rfl,rfl,readTx_1 henv⟩
    |exact absurd rfl hc
  intro _ _ h_;exact h_.elim
 show At _ _ _ [M,N3,N2,R] _
 have hne:=(envF_len henv).1
 refine aH U U (aO aE U U U (aO aE U U U (aO aE U U U (aR U U (aR U U (aF cL sz33 U U U U U B3 (by simp) sel1 (fun N3 B3=>?_)))))))
 simp only [setL,List.set]at B3
 refine aB (s_3 (aC fun _ s_5=>aA (aK aE sc33 U B3 U bI U ?_)))
 refine bM (.cons U .nil) (FCheck_any 0) (F:= [N3,M,N2,R]) Tryz.func30 U U (.refl _) (by simp) U ?_ ?_
 ·rintro _ _ ⟨rfl,rfl,hc⟩
  show At _ _ _ [N3,M,N2,R] _
  refine aY ((aN (aM (aM (aN (At.panD (F:= [M,R]) hE (FRecTx B2 hl B3) Tryz.func28 U U (.refl _) ?_))))))
  rintro L_ ⟨N2,N3,rfl,B2,B3⟩
  show At _ _ _ [N2,N3,M,R] _
  refine bJ (bE (L1:= []) U (.cell U (bQ (ds:=_) ag32 B2 (bY (by first|exact hz0|exact TxM.cells_len hok _ _ _)) (by first|exact hz0|exact TxM.cells_len hok _ _ _) bI) (.cell U (res_scal sc33 B3 U mem1) .nil)) U (.cons _ (.cons _ (.refl _))) aJ ?_)
  first
   |exact .inl ⟨2,by decide,rfl,rfl,readTx_1 henv⟩
   |exact absurd rfl hc
 rintro _ _ ⟨rfl,rfl,_⟩
 show At _ _ _ [N3,M,N2,R] _
 refine aB (s_5 (aC fun _ s_6=>aA (aH U U (op_leq aE U U U (aH U U (cB (d:=18) U (fun g18=>?_) (fun g18=>?_)))))))
 ·refine aP (bF U U U U) U U (op_gtr (bF U U U U) U U U (aP (bF U U U U) U U (cB (d:=21) U (fun g21=>?_) (fun g21=>?_))))
  ·refine aU U U U U U U U (aU U U U U U U U (aU U U U U U U U (aU U U U U U U U (cH (bF U U U U) U U U (cH aE U U U (bM (.cons U .nil) (FMust_any _) (F:= [N3,M,N2,R]) Tryz.func31 U U (.refl _) (by simp) U ?_ ?_))))))
   ·rintro _ _ ⟨rfl,rfl,hb⟩
    show At _ _ _ [N3,M,N2,R] _
    refine aY ((aN (aM (aM (aN (At.panD (F:= [M,R]) hE (FRecTx B2 hl B3) Tryz.func28 U U (.refl _) ?_))))))
    rintro L_ ⟨N2,N3,rfl,B2,B3⟩
    show At _ _ _ [N2,N3,M,R] _
    refine bJ (bE (L1:= []) U (.cell U (bQ (ds:=_) ag32 B2 (bY (by first|exact hz0|exact TxM.cells_len hok _ _ _)) (by first|exact hz0|exact TxM.cells_len hok _ _ _) bI) (.cell U (res_scal sc33 B3 U mem1) .nil)) U (.cons _ (.cons _ (.refl _))) aJ ?_)
    first
     |exact yes_no hb
     |exact .inl ⟨2,by decide,rfl,rfl,readTx_2 henv (fun q=>by omega)⟩
     |exact .inl ⟨2,by decide,rfl,rfl,readTx_2 henv (fun q=>by have:=of_decide_eq_false hb;omega)⟩
   rintro _ _ ⟨rfl,rfl,hb⟩
   show At _ _ _ [N3,M,N2,R] _
   refine aB (s_6 (aC fun _ s_7=>aA (aH U U ?_)))
   refine bD bU (.cons U .nil) (Decode_o r.rsl (by have:=(envF_len henv).2;omega)) Tryz.func32 U U (by simp) U ?_
   rintro _ _ (⟨t,D,x,ht,rfl,rfl,hi,ho,hsz⟩|⟨e,ht,rfl,rfl,hne⟩)
   ·show At _ _ _ [D,N3,M,N2,R] _
    refine aH U U (aO aE U U U (aO aE U U U (bK bU ze91 U (fun N6 b6 B6=>?_))))
    change Blk N6 b6 _ [.bool false,.slice none 0 0,.slice none 0 0]at B6
    refine aF cL sz91 U U U U U B6 (by simp) dB (fun N6 B6=>?_)
    simp only [setL,List.set]at B6
    refine aF cL sz33 U U U U U B3 (by simp) sel2 (fun N3 B3=>?_)
    simp only [setL,List.set]at B3
    refine aB (s_7 (aC fun _ s_8=>aA (aK aE sc33 U B3 U bI U ?_)))
    refine bM (.cons U .nil) (FCheck_any 0) (F:= [N3,N6,D,M,N2,R]) Tryz.func30 U U (.refl _) (by simp) U ?_ ?_
    ·rintro _ _ ⟨rfl,rfl,hc⟩
     show At _ _ _ [N3,N6,D,M,N2,R] _
     refine aY ((aG (aL (aL (aL (aL (aG (At.panD (F:= [N6,D,M,R]) hE (FRecTx B2 hl B3) Tryz.func28 U U (.refl _) ?_))))))))
     rintro L_ ⟨N2,N3,rfl,B2,B3⟩
     show At _ _ _ [N2,N3,N6,D,M,R] _
     refine dH (bW (bJ (bE (L1:= []) U (.cell U (bQ (ds:=_) ag32 B2 (bY (by first|exact hz0|exact TxM.cells_len hok _ _ _)) (by first|exact hz0|exact TxM.cells_len hok _ _ _) bI) (.cell U (res_scal sc33 B3 U mem1) .nil)) U (.cons _ (.cons _ (.refl _))) aJ ?_)))
     first
      |exact .inl ⟨_,hne,rfl,rfl,readTx_3 henv ⟨by omega,by omega⟩ ht⟩
      |exact absurd rfl hc
      |exact no_yes hb
      |(have hb:=of_decide_eq_true hb;exact .inl ⟨_,hne,rfl,rfl,readTx_3 henv ⟨by omega,by omega⟩ ht⟩)
    rintro _ _ ⟨rfl,rfl,_⟩
    show At _ _ _ [N3,N6,D,M,N2,R] _
    refine aB (s_8 (aC fun _ s_9=>aA (aH U U (aD aE fl32_0 U U ?_))))
    refine aF cL sz3 U U U U U B2 (by rw [hl];exact show 0+0+1≤53 by decide) sel4 (fun N2 B2=>?_)
    rw [tx_start]at B2
    refine aB (s_9 (aC fun _ s_10=>aA (aV (ds:= [_,_,_]) aE ag91 U B6 U U mem2 U (bM (.cons U .nil) (FOpened_p hi) (F:= [N2,N3,N6,D,M,R]) Tryz.func33 U U (.refl _) (by simp) U ?_ ?_))))
    ·rintro _ _ ⟨e,rfl,rfl,he⟩
     show At _ _ _ [N2,N3,N6,D,M,R] _
     refine aY ((At.panD (F:= [N6,D,M,R]) hE (FRecTx B2 hl B3) Tryz.func28 U U (.refl _) ?_))
     rintro L_ ⟨N2,N3,rfl,B2,B3⟩
     show At _ _ _ [N2,N3,N6,D,M,R] _
     refine dH (bW (bJ (bE (L1:= []) U (.cell U (bQ (ds:=_) ag32 B2 (bY (by first|exact hz0|exact TxM.cells_len hok _ _ _)) (by first|exact hz0|exact TxM.cells_len hok _ _ _) bI) (.cell U (res_scal sc33 B3 U mem1) .nil)) U (.cons _ (.cons _ (.refl _))) aJ ?_)))
     first
      |exact .inl ⟨_,listE_ne _ he,rfl,rfl,readTx_4 henv ⟨by omega,by omega⟩ ht he⟩
      |exact no_yes hb
      |(have hb:=of_decide_eq_true hb;exact .inl ⟨_,listE_ne _ he,rfl,rfl,readTx_4 henv ⟨by omega,by omega⟩ ht he⟩)
    rintro _ _ ⟨Nq,bq,its,zs,rfl,rfl,he,hq,hz⟩
    show At _ _ _ [Nq,N2,N3,N6,D,M,R] _
    have hk4:k<4:=by
     first
      |omega
      |exact no_yes hb
    refine bM (.cons U (.cons U .nil)) (FTx_p hk4 hq (its_le he (deco_le (by have:=(envF_len henv).2;omega) ht)) B2) (F:= [N3,N6,D,M,R]) Tryz.func34 U U (.refl _) (by simp) U ?_ ?_
    ·rintro _ _ ⟨e,N2,cs,rfl,rfl,hm,B2,hl⟩
     show At _ _ _ [N2,N3,N6,D,M,R] _
     refine aY ((At.panD (F:= [N6,D,M,R]) hE (FRecTx B2 hl B3) Tryz.func28 U U (.refl _) ?_))
     rintro L_ ⟨N2,N3,rfl,B2,B3⟩
     show At _ _ _ [N2,N3,N6,D,M,R] _
     refine dH (bW (bJ (bE (L1:= []) U (.cell U (bQ (ds:=_) ag32 B2 (bY (by first|exact hz0|exact TxM.cells_len hok _ _ _)) (by first|exact hz0|exact TxM.cells_len hok _ _ _) bI) (.cell U (res_scal sc33 B3 U mem1) .nil)) U (.cons _ (.cons _ (.refl _))) aJ ?_)))
     first
      |exact .inl ⟨_,txE_err _ _ _ hm,rfl,rfl,(readTx_5 henv ⟨by omega,by omega⟩ ht he).trans hm⟩
      |exact no_yes hb
      |(have hb:=of_decide_eq_true hb;exact .inl ⟨_,txE_err _ _ _ hm,rfl,rfl,(readTx_5 henv ⟨by omega,by omega⟩ ht he).trans hm⟩)
    rintro _ _ ⟨N2,J,m,d,y,z,rfl,rfl,hm,hok,B2,hS⟩
    show At _ _ _ [N2,J,N3,N6,D,M,R] _
    obtain⟨da,dc,aa,cc,ba,bc,axs,rfl,S1,S2,rfl,S3,S4,rfl,S5⟩:=hS
    refine aB (s_10 (aC fun _ s_11=>aA (aV (ds:=m.cells _ _ _) aE ag32 U B2 (by exact bY (TxM.cells_len hok _ _ _)) (by exact TxM.cells_len hok _ _ _) bI U ?_)))
    refine aF cL sz32 U U U (TxM.cells_len hok _ _ _) (TxM.one U U U) B2 (by rw [TxM.cells_len hok];exact Nat.le_refl _) dB (fun N2 B2=>?_)
    rw [bG (by rw [TxM.cells_len hok])]at B2
    refine aF cL sz33 U U U U U B3 (by simp) sel2 (fun N3 B3=>?_)
    simp only [setL,List.set]at B3
    refine aB (s_11 (a0 ((At.retD hE (FRetTx _ _) Tryz.func28 U U (dropAt5 (bW (aL (aN (aL (aN (aL (bE (L1:= [D,J]) U (.cell U (bQ (ds:=_) ag32 B2 (bY (by first|exact hz0|exact TxM.cells_len hok _ _ _)) (by first|exact hz0|exact TxM.cells_len hok _ _ _) bI) (.cell U (res_scal sc33 B3 U mem1) .nil)) U (.cons _ (.cons _ (.refl _))) aJ ?_))))))))))))
    first
     |exact .inr ⟨D,J,m,_,_,_,t,zs,rfl,rfl,(readTx_5 henv ⟨by omega,by omega⟩ ht he).trans hm,hok,⟨da,dc,aa,cc,ba,bc,axs,rfl,S1,S2,rfl,S3,S4,rfl,S5⟩,x,hi,ho,hz⟩
     |exact no_yes hb
     |(have hb:=of_decide_eq_true hb;exact .inr ⟨D,J,m,_,_,_,t,zs,rfl,rfl,(readTx_5 henv ⟨by omega,by omega⟩ ht he).trans hm,hok,⟨da,dc,aa,cc,ba,bc,axs,rfl,S1,S2,rfl,S3,S4,rfl,S5⟩,x,hi,ho,hz⟩)
   show At _ _ _ [N3,M,N2,R] _
   refine aH U U (aO aE U U U (aO aE U U U (bK bU ze91 U (fun N6 b6 B6=>?_))))
   change Blk N6 b6 _ [.bool false,.slice none 0 0,.slice none 0 0]at B6
   refine aF cL sz91 U U U U U B6 (by simp) dB (fun N6 B6=>?_)
   simp only [setL,List.set]at B6
   refine aF cL sz33 U U U U U B3 (by simp) sel1 (fun N3 B3=>?_)
   simp only [setL,List.set]at B3
   refine aB (s_7 (aC fun _ s_12=>aA (aK aE sc33 U B3 U bI U ?_)))
   refine bM (.cons U .nil) (FCheck_e (by omega)) (F:= [N3,N6,M,N2,R]) Tryz.func30 U U (.refl _) (by simp) U ?_ ?_
   ·rintro _ _ ⟨rfl,rfl⟩
    show At _ _ _ [N3,N6,M,N2,R] _
    refine aY ((aL (aN (aN (aN (aL (At.panD (F:= [N6,M,R]) hE (FRecTx B2 hl B3) Tryz.func28 U U (.refl _) ?_)))))))
    rintro L_ ⟨N2,N3,rfl,B2,B3⟩
    show At _ _ _ [N2,N3,N6,M,R] _
    refine bW (bJ (bE (L1:= []) U (.cell U (bQ (ds:=_) ag32 B2 (bY (by first|exact hz0|exact TxM.cells_len hok _ _ _)) (by first|exact hz0|exact TxM.cells_len hok _ _ _) bI) (.cell U (res_scal sc33 B3 U mem1) .nil)) U (.cons _ (.cons _ (.refl _))) aJ ?_))
    first
     |exact .inl ⟨_,hne,rfl,rfl,readTx_3 henv ⟨by omega,by omega⟩ ht⟩
     |exact absurd rfl hc
     |exact no_yes hb
     |(have hb:=of_decide_eq_true hb;exact .inl ⟨_,hne,rfl,rfl,readTx_3 henv ⟨by omega,by omega⟩ ht⟩)
   intro _ _ h_;exact h_.elim
  refine aP (bF U U U U) U U (cZ (bF U U U U) se22 U U h (show _=((0:Nat):Int)from U) (by omega) U (cO (bF U U U U) sc5 U h (by first|exact get8 (by omega)|exact get64 (by omega)|exact get32 (by omega)) (by simp) U ?_))
  refine op_gtr (bF U U U U) U U U (cE (bF U U U U) U U U (cH aE U U U (bM (.cons U .nil) (FMust_any _) (F:= [N3,M,N2,R]) Tryz.func31 U U (.refl _) (by simp) U ?_ ?_)))
  ·rintro _ _ ⟨rfl,rfl,hb⟩
   show At _ _ _ [N3,M,N2,R] _
   refine aY ((aN (aM (aM (aN (At.panD (F:= [M,R]) hE (FRecTx B2 hl B3) Tryz.func28 U U (.refl _) ?_))))))
   rintro L_ ⟨N2,N3,rfl,B2,B3⟩
   show At _ _ _ [N2,N3,M,R] _
   refine bJ (bE (L1:= []) U (.cell U (bQ (ds:=_) ag32 B2 (bY (by first|exact hz0|exact TxM.cells_len hok _ _ _)) (by first|exact hz0|exact TxM.cells_len hok _ _ _) bI) (.cell U (res_scal sc33 B3 U mem1) .nil)) U (.cons _ (.cons _ (.refl _))) aJ ?_)
   first
    |exact yes_no hb
    |exact .inl ⟨2,by decide,rfl,rfl,readTx_2 henv (fun q=>by omega)⟩
    |exact .inl ⟨2,by decide,rfl,rfl,readTx_2 henv (fun q=>by have:=of_decide_eq_false hb;omega)⟩
  rintro _ _ ⟨rfl,rfl,hb⟩
  show At _ _ _ [N3,M,N2,R] _
  refine aB (s_6 (aC fun _ s_13=>aA (aH U U ?_)))
  refine bD bU (.cons U .nil) (Decode_o r.rsl (by have:=(envF_len henv).2;omega)) Tryz.func32 U U (by simp) U ?_
  rintro _ _ (⟨t,D,x,ht,rfl,rfl,hi,ho,hsz⟩|⟨e,ht,rfl,rfl,hne⟩)
  ·show At _ _ _ [D,N3,M,N2,R] _
   refine aH U U (aO aE U U U (aO aE U U U (bK bU ze91 U (fun N6 b6 B6=>?_))))
   change Blk N6 b6 _ [.bool false,.slice none 0 0,.slice none 0 0]at B6
   refine aF cL sz91 U U U U U B6 (by simp) dB (fun N6 B6=>?_)
   simp only [setL,List.set]at B6
   refine aF cL sz33 U U U U U B3 (by simp) sel2 (fun N3 B3=>?_)
   simp only [setL,List.set]at B3
   refine aB (s_13 (aC fun _ s_14=>aA (aK aE sc33 U B3 U bI U ?_)))
   refine bM (.cons U .nil) (FCheck_any 0) (F:= [N3,N6,D,M,N2,R]) Tryz.func30 U U (.refl _) (by simp) U ?_ ?_
   ·rintro _ _ ⟨rfl,rfl,hc⟩
    show At _ _ _ [N3,N6,D,M,N2,R] _
    refine aY ((aG (aL (aL (aL (aL (aG (At.panD (F:= [N6,D,M,R]) hE (FRecTx B2 hl B3) Tryz.func28 U U (.refl _) ?_))))))))
    rintro L_ ⟨N2,N3,rfl,B2,B3⟩
    show At _ _ _ [N2,N3,N6,D,M,R] _
    refine dH (bW (bJ (bE (L1:= []) U (.cell U (bQ (ds:=_) ag32 B2 (bY (by first|exact hz0|exact TxM.cells_len hok _ _ _)) (by first|exact hz0|exact TxM.cells_len hok _ _ _) bI) (.cell U (res_scal sc33 B3 U mem1) .nil)) U (.cons _ (.cons _ (.refl _))) aJ ?_)))
    first
     |exact .inl ⟨_,hne,rfl,rfl,readTx_3 henv ⟨by omega,by omega⟩ ht⟩
     |exact absurd rfl hc
     |exact no_yes hb
     |(have hb:=of_decide_eq_true hb;exact .inl ⟨_,hne,rfl,rfl,readTx_3 henv ⟨by omega,by omega⟩ ht⟩)
   rintro _ _ ⟨rfl,rfl,_⟩
   show At _ _ _ [N3,N6,D,M,N2,R] _
   refine aB (s_14 (aC fun _ s_15=>aA (aH U U (aD aE fl32_0 U U ?_))))
   refine aF cL sz3 U U U U U B2 (by rw [hl];exact show 0+0+1≤53 by decide) sel4 (fun N2 B2=>?_)
   rw [tx_start]at B2
   refine aB (s_15 (aC fun _ s_16=>aA (aV (ds:= [_,_,_]) aE ag91 U B6 U U mem2 U (bM (.cons U .nil) (FOpened_p hi) (F:= [N2,N3,N6,D,M,R]) Tryz.func33 U U (.refl _) (by simp) U ?_ ?_))))
   ·rintro _ _ ⟨e,rfl,rfl,he⟩
    show At _ _ _ [N2,N3,N6,D,M,R] _
    refine aY ((At.panD (F:= [N6,D,M,R]) hE (FRecTx B2 hl B3) Tryz.func28 U U (.refl _) ?_))
    rintro L_ ⟨N2,N3,rfl,B2,B3⟩
    show At _ _ _ [N2,N3,N6,D,M,R] _
    refine dH (bW (bJ (bE (L1:= []) U (.cell U (bQ (ds:=_) ag32 B2 (bY (by first|exact hz0|exact TxM.cells_len hok _ _ _)) (by first|exact hz0|exact TxM.cells_len hok _ _ _) bI) (.cell U (res_scal sc33 B3 U mem1) .nil)) U (.cons _ (.cons _ (.refl _))) aJ ?_)))
    first
     |exact .inl ⟨_,listE_ne _ he,rfl,rfl,readTx_4 henv ⟨by omega,by omega⟩ ht he⟩
     |exact no_yes hb
     |(have hb:=of_decide_eq_true hb;exact .inl ⟨_,listE_ne _ he,rfl,rfl,readTx_4 henv ⟨by omega,by omega⟩ ht he⟩)
   rintro _ _ ⟨Nq,bq,its,zs,rfl,rfl,he,hq,hz⟩
   show At _ _ _ [Nq,N2,N3,N6,D,M,R] _
   have hk4:k<4:=by
    first
     |omega
     |exact no_yes hb
   refine bM (.cons U (.cons U .nil)) (FTx_p hk4 hq (its_le he (deco_le (by have:=(envF_len henv).2;omega) ht)) B2) (F:= [N3,N6,D,M,R]) Tryz.func34 U U (.refl _) (by simp) U ?_ ?_
   ·rintro _ _ ⟨e,N2,cs,rfl,rfl,hm,B2,hl⟩
    show At _ _ _ [N2,N3,N6,D,M,R] _
    refine aY ((At.panD (F:= [N6,D,M,R]) hE (FRecTx B2 hl B3) Tryz.func28 U U (.refl _) ?_))
    rintro L_ ⟨N2,N3,rfl,B2,B3⟩
    show At _ _ _ [N2,N3,N6,D,M,R] _
    refine dH (bW (bJ (bE (L1:= []) U (.cell U (bQ (ds:=_) ag32 B2 (bY (by first|exact hz0|exact TxM.cells_len hok _ _ _)) (by first|exact hz0|exact TxM.cells_len hok _ _ _) bI) (.cell U (res_scal sc33 B3 U mem1) .nil)) U (.cons _ (.cons _ (.refl _))) aJ ?_)))
    first
     |exact .inl ⟨_,txE_err _ _ _ hm,rfl,rfl,(readTx_5 henv ⟨by omega,by omega⟩ ht he).trans hm⟩
     |exact no_yes hb
     |(have hb:=of_decide_eq_true hb;exact .inl ⟨_,txE_err _ _ _ hm,rfl,rfl,(readTx_5 henv ⟨by omega,by omega⟩ ht he).trans hm⟩)
   rintro _ _ ⟨N2,J,m,d,y,z,rfl,rfl,hm,hok,B2,hS⟩
   show At _ _ _ [N2,J,N3,N6,D,M,R] _
   obtain⟨da,dc,aa,cc,ba,bc,axs,rfl,S1,S2,rfl,S3,S4,rfl,S5⟩:=hS
   refine aB (s_16 (aC fun _ s_17=>aA (aV (ds:=m.cells _ _ _) aE ag32 U B2 (by exact bY (TxM.cells_len hok _ _ _)) (by exact TxM.cells_len hok _ _ _) bI U ?_)))
   refine aF cL sz32 U U U (TxM.cells_len hok _ _ _) (TxM.one U U U) B2 (by rw [TxM.cells_len hok];exact Nat.le_refl _) dB (fun N2 B2=>?_)
   rw [bG (by rw [TxM.cells_len hok])]at B2
   refine aF cL sz33 U U U U U B3 (by simp) sel2 (fun N3 B3=>?_)
   simp only [setL,List.set]at B3
   refine aB (s_17 (a0 ((At.retD hE (FRetTx _ _) Tryz.func28 U U (dropAt5 (bW (aL (aN (aL (aN (aL (bE (L1:= [D,J]) U (.cell U (bQ (ds:=_) ag32 B2 (bY (by first|exact hz0|exact TxM.cells_len hok _ _ _)) (by first|exact hz0|exact TxM.cells_len hok _ _ _) bI) (.cell U (res_scal sc33 B3 U mem1) .nil)) U (.cons _ (.cons _ (.refl _))) aJ ?_))))))))))))
   first
    |exact .inr ⟨D,J,m,_,_,_,t,zs,rfl,rfl,(readTx_5 henv ⟨by omega,by omega⟩ ht he).trans hm,hok,⟨da,dc,aa,cc,ba,bc,axs,rfl,S1,S2,rfl,S3,S4,rfl,S5⟩,x,hi,ho,hz⟩
    |exact no_yes hb
    |(have hb:=of_decide_eq_true hb;exact .inr ⟨D,J,m,_,_,_,t,zs,rfl,rfl,(readTx_5 henv ⟨by omega,by omega⟩ ht he).trans hm,hok,⟨da,dc,aa,cc,ba,bc,axs,rfl,S1,S2,rfl,S3,S4,rfl,S5⟩,x,hi,ho,hz⟩)
  show At _ _ _ [N3,M,N2,R] _
  refine aH U U (aO aE U U U (aO aE U U U (bK bU ze91 U (fun N6 b6 B6=>?_))))
  change Blk N6 b6 _ [.bool false,.slice none 0 0,.slice none 0 0]at B6
  refine aF cL sz91 U U U U U B6 (by simp) dB (fun N6 B6=>?_)
  simp only [setL,List.set]at B6
  refine aF cL sz33 U U U U U B3 (by simp) sel1 (fun N3 B3=>?_)
  simp only [setL,List.set]at B3
  refine aB (s_13 (aC fun _ s_18=>aA (aK aE sc33 U B3 U bI U ?_)))
  refine bM (.cons U .nil) (FCheck_e (by omega)) (F:= [N3,N6,M,N2,R]) Tryz.func30 U U (.refl _) (by simp) U ?_ ?_
  ·rintro _ _ ⟨rfl,rfl⟩
   show At _ _ _ [N3,N6,M,N2,R] _
   refine aY ((aL (aN (aN (aN (aL (At.panD (F:= [N6,M,R]) hE (FRecTx B2 hl B3) Tryz.func28 U U (.refl _) ?_)))))))
   rintro L_ ⟨N2,N3,rfl,B2,B3⟩
   show At _ _ _ [N2,N3,N6,M,R] _
   refine bW (bJ (bE (L1:= []) U (.cell U (bQ (ds:=_) ag32 B2 (bY (by first|exact hz0|exact TxM.cells_len hok _ _ _)) (by first|exact hz0|exact TxM.cells_len hok _ _ _) bI) (.cell U (res_scal sc33 B3 U mem1) .nil)) U (.cons _ (.cons _ (.refl _))) aJ ?_))
   first
    |exact .inl ⟨_,hne,rfl,rfl,readTx_3 henv ⟨by omega,by omega⟩ ht⟩
    |exact absurd rfl hc
    |exact no_yes hb
    |(have hb:=of_decide_eq_true hb;exact .inl ⟨_,hne,rfl,rfl,readTx_3 henv ⟨by omega,by omega⟩ ht⟩)
  intro _ _ h_;exact h_.elim
 refine aU U U U U U U U (aU U U U U U U U (aU U U U U U U U (op_skipU U U U U U U (op_skipU U U U U U U (op_skipU U U U U U U (op_skipU U U U U U U (aU U U U U U U U (cE aE U U U (bM (.cons U .nil) (FMust_any _) (F:= [N3,M,N2,R]) Tryz.func31 U U (.refl _) (by simp) U ?_ ?_)))))))))
 ·rintro _ _ ⟨rfl,rfl,hb⟩
  show At _ _ _ [N3,M,N2,R] _
  refine aY ((aN (aM (aM (aN (At.panD (F:= [M,R]) hE (FRecTx B2 hl B3) Tryz.func28 U U (.refl _) ?_))))))
  rintro L_ ⟨N2,N3,rfl,B2,B3⟩
  show At _ _ _ [N2,N3,M,R] _
  refine bJ (bE (L1:= []) U (.cell U (bQ (ds:=_) ag32 B2 (bY (by first|exact hz0|exact TxM.cells_len hok _ _ _)) (by first|exact hz0|exact TxM.cells_len hok _ _ _) bI) (.cell U (res_scal sc33 B3 U mem1) .nil)) U (.cons _ (.cons _ (.refl _))) aJ ?_)
  first
   |exact yes_no hb
   |exact .inl ⟨2,by decide,rfl,rfl,readTx_2 henv (fun q=>by omega)⟩
   |exact .inl ⟨2,by decide,rfl,rfl,readTx_2 henv (fun q=>by have:=of_decide_eq_false hb;omega)⟩
 rintro _ _ ⟨rfl,rfl,hb⟩
 show At _ _ _ [N3,M,N2,R] _
 refine aB (s_6 (aC fun _ s_19=>aA (aH U U ?_)))
 refine bD bU (.cons U .nil) (Decode_o r.rsl (by have:=(envF_len henv).2;omega)) Tryz.func32 U U (by simp) U ?_
 rintro _ _ (⟨t,D,x,ht,rfl,rfl,hi,ho,hsz⟩|⟨e,ht,rfl,rfl,hne⟩)
 ·show At _ _ _ [D,N3,M,N2,R] _
  refine aH U U (aO aE U U U (aO aE U U U (bK bU ze91 U (fun N6 b6 B6=>?_))))
  change Blk N6 b6 _ [.bool false,.slice none 0 0,.slice none 0 0]at B6
  refine aF cL sz91 U U U U U B6 (by simp) dB (fun N6 B6=>?_)
  simp only [setL,List.set]at B6
  refine aF cL sz33 U U U U U B3 (by simp) sel2 (fun N3 B3=>?_)
  simp only [setL,List.set]at B3
  refine aB (s_19 (aC fun _ s_20=>aA (aK aE sc33 U B3 U bI U ?_)))
  refine bM (.cons U .nil) (FCheck_any 0) (F:= [N3,N6,D,M,N2,R]) Tryz.func30 U U (.refl _) (by simp) U ?_ ?_
  ·rintro _ _ ⟨rfl,rfl,hc⟩
   show At _ _ _ [N3,N6,D,M,N2,R] _
   refine aY ((aG (aL (aL (aL (aL (aG (At.panD (F:= [N6,D,M,R]) hE (FRecTx B2 hl B3) Tryz.func28 U U (.refl _) ?_))))))))
   rintro L_ ⟨N2,N3,rfl,B2,B3⟩
   show At _ _ _ [N2,N3,N6,D,M,R] _
   refine dH (bW (bJ (bE (L1:= []) U (.cell U (bQ (ds:=_) ag32 B2 (bY (by first|exact hz0|exact TxM.cells_len hok _ _ _)) (by first|exact hz0|exact TxM.cells_len hok _ _ _) bI) (.cell U (res_scal sc33 B3 U mem1) .nil)) U (.cons _ (.cons _ (.refl _))) aJ ?_)))
   first
    |exact .inl ⟨_,hne,rfl,rfl,readTx_3 henv ⟨by omega,by omega⟩ ht⟩
    |exact absurd rfl hc
    |exact no_yes hb
    |(have hb:=of_decide_eq_true hb;exact .inl ⟨_,hne,rfl,rfl,readTx_3 henv ⟨by omega,by omega⟩ ht⟩)
  rintro _ _ ⟨rfl,rfl,_⟩
  show At _ _ _ [N3,N6,D,M,N2,R] _
  refine aB (s_20 (aC fun _ s_21=>aA (aH U U (aD aE fl32_0 U U ?_))))
  refine aF cL sz3 U U U U U B2 (by rw [hl];exact show 0+0+1≤53 by decide) sel4 (fun N2 B2=>?_)
  rw [tx_start]at B2
  refine aB (s_21 (aC fun _ s_22=>aA (aV (ds:= [_,_,_]) aE ag91 U B6 U U mem2 U (bM (.cons U .nil) (FOpened_p hi) (F:= [N2,N3,N6,D,M,R]) Tryz.func33 U U (.refl _) (by simp) U ?_ ?_))))
  ·rintro _ _ ⟨e,rfl,rfl,he⟩
   show At _ _ _ [N2,N3,N6,D,M,R] _
   refine aY ((At.panD (F:= [N6,D,M,R]) hE (FRecTx B2 hl B3) Tryz.func28 U U (.refl _) ?_))
   rintro L_ ⟨N2,N3,rfl,B2,B3⟩
   show At _ _ _ [N2,N3,N6,D,M,R] _
   refine dH (bW (bJ (bE (L1:= []) U (.cell U (bQ (ds:=_) ag32 B2 (bY (by first|exact hz0|exact TxM.cells_len hok _ _ _)) (by first|exact hz0|exact TxM.cells_len hok _ _ _) bI) (.cell U (res_scal sc33 B3 U mem1) .nil)) U (.cons _ (.cons _ (.refl _))) aJ ?_)))
   first
    |exact .inl ⟨_,listE_ne _ he,rfl,rfl,readTx_4 henv ⟨by omega,by omega⟩ ht he⟩
    |exact no_yes hb
    |(have hb:=of_decide_eq_true hb;exact .inl ⟨_,listE_ne _ he,rfl,rfl,readTx_4 henv ⟨by omega,by omega⟩ ht he⟩)
  rintro _ _ ⟨Nq,bq,its,zs,rfl,rfl,he,hq,hz⟩
  show At _ _ _ [Nq,N2,N3,N6,D,M,R] _
  have hk4:k<4:=by
   first
    |omega
    |exact no_yes hb
  refine bM (.cons U (.cons U .nil)) (FTx_p hk4 hq (its_le he (deco_le (by have:=(envF_len henv).2;omega) ht)) B2) (F:= [N3,N6,D,M,R]) Tryz.func34 U U (.refl _) (by simp) U ?_ ?_
  ·rintro _ _ ⟨e,N2,cs,rfl,rfl,hm,B2,hl⟩
   show At _ _ _ [N2,N3,N6,D,M,R] _
   refine aY ((At.panD (F:= [N6,D,M,R]) hE (FRecTx B2 hl B3) Tryz.func28 U U (.refl _) ?_))
   rintro L_ ⟨N2,N3,rfl,B2,B3⟩
   show At _ _ _ [N2,N3,N6,D,M,R] _
   refine dH (bW (bJ (bE (L1:= []) U (.cell U (bQ (ds:=_) ag32 B2 (bY (by first|exact hz0|exact TxM.cells_len hok _ _ _)) (by first|exact hz0|exact TxM.cells_len hok _ _ _) bI) (.cell U (res_scal sc33 B3 U mem1) .nil)) U (.cons _ (.cons _ (.refl _))) aJ ?_)))
   first
    |exact .inl ⟨_,txE_err _ _ _ hm,rfl,rfl,(readTx_5 henv ⟨by omega,by omega⟩ ht he).trans hm⟩
    |exact no_yes hb
    |(have hb:=of_decide_eq_true hb;exact .inl ⟨_,txE_err _ _ _ hm,rfl,rfl,(readTx_5 henv ⟨by omega,by omega⟩ ht he).trans hm⟩)
  rintro _ _ ⟨N2,J,m,d,y,z,rfl,rfl,hm,hok,B2,hS⟩
  show At _ _ _ [N2,J,N3,N6,D,M,R] _
  obtain⟨da,dc,aa,cc,ba,bc,axs,rfl,S1,S2,rfl,S3,S4,rfl,S5⟩:=hS
  refine aB (s_22 (aC fun _ s_23=>aA (aV (ds:=m.cells _ _ _) aE ag32 U B2 (by exact bY (TxM.cells_len hok _ _ _)) (by exact TxM.cells_len hok _ _ _) bI U ?_)))
  refine aF cL sz32 U U U (TxM.cells_len hok _ _ _) (TxM.one U U U) B2 (by rw [TxM.cells_len hok];exact Nat.le_refl _) dB (fun N2 B2=>?_)
  rw [bG (by rw [TxM.cells_len hok])]at B2
  refine aF cL sz33 U U U U U B3 (by simp) sel2 (fun N3 B3=>?_)
  simp only [setL,List.set]at B3
  refine aB (s_23 (a0 ((At.retD hE (FRetTx _ _) Tryz.func28 U U (dropAt5 (bW (aL (aN (aL (aN (aL (bE (L1:= [D,J]) U (.cell U (bQ (ds:=_) ag32 B2 (bY (by first|exact hz0|exact TxM.cells_len hok _ _ _)) (by first|exact hz0|exact TxM.cells_len hok _ _ _) bI) (.cell U (res_scal sc33 B3 U mem1) .nil)) U (.cons _ (.cons _ (.refl _))) aJ ?_))))))))))))
  first
   |exact .inr ⟨D,J,m,_,_,_,t,zs,rfl,rfl,(readTx_5 henv ⟨by omega,by omega⟩ ht he).trans hm,hok,⟨da,dc,aa,cc,ba,bc,axs,rfl,S1,S2,rfl,S3,S4,rfl,S5⟩,x,hi,ho,hz⟩
   |exact no_yes hb
   |(have hb:=of_decide_eq_true hb;exact .inr ⟨D,J,m,_,_,_,t,zs,rfl,rfl,(readTx_5 henv ⟨by omega,by omega⟩ ht he).trans hm,hok,⟨da,dc,aa,cc,ba,bc,axs,rfl,S1,S2,rfl,S3,S4,rfl,S5⟩,x,hi,ho,hz⟩)
 show At _ _ _ [N3,M,N2,R] _
 refine aH U U (aO aE U U U (aO aE U U U (bK bU ze91 U (fun N6 b6 B6=>?_))))
 change Blk N6 b6 _ [.bool false,.slice none 0 0,.slice none 0 0]at B6
 refine aF cL sz91 U U U U U B6 (by simp) dB (fun N6 B6=>?_)
 simp only [setL,List.set]at B6
 refine aF cL sz33 U U U U U B3 (by simp) sel1 (fun N3 B3=>?_)
 simp only [setL,List.set]at B3
 refine aB (s_19 (aC fun _ s_24=>aA (aK aE sc33 U B3 U bI U ?_)))
 refine bM (.cons U .nil) (FCheck_e (by omega)) (F:= [N3,N6,M,N2,R]) Tryz.func30 U U (.refl _) (by simp) U ?_ ?_
 ·rintro _ _ ⟨rfl,rfl⟩
  show At _ _ _ [N3,N6,M,N2,R] _
  refine aY ((aL (aN (aN (aN (aL (At.panD (F:= [N6,M,R]) hE (FRecTx B2 hl B3) Tryz.func28 U U (.refl _) ?_)))))))
  rintro L_ ⟨N2,N3,rfl,B2,B3⟩
  show At _ _ _ [N2,N3,N6,M,R] _
  refine bW (bJ (bE (L1:= []) U (.cell U (bQ (ds:=_) ag32 B2 (bY (by first|exact hz0|exact TxM.cells_len hok _ _ _)) (by first|exact hz0|exact TxM.cells_len hok _ _ _) bI) (.cell U (res_scal sc33 B3 U mem1) .nil)) U (.cons _ (.cons _ (.refl _))) aJ ?_))
  first
   |exact .inl ⟨_,hne,rfl,rfl,readTx_3 henv ⟨by omega,by omega⟩ ht⟩
   |exact absurd rfl hc
   |exact no_yes hb
   |(have hb:=of_decide_eq_true hb;exact .inl ⟨_,hne,rfl,rfl,readTx_3 henv ⟨by omega,by omega⟩ ht⟩)
 intro _ _ h_;exact h_.elim
end
section
variable {h : HdM} {v w : Value} {x : List UInt8} {n : Nat} {u : UInt64}
variable {fi : Int} {pa om co st tx rc bl ex mx no wd be : List UInt8} {df bf : Nat} {nu gl gu ti bg xs : UInt64}
theorem hd_pa (k:HdM.Ok (⟨fi,pa,om,co,st,tx,rc,bl,df,nu,gl,gu,ti,ex,mx,no,bf,wd,bg,xs,be⟩:HdM)) (hx:x.length=32):setL (HdM.cells (⟨fi,pa,om,co,st,tx,rc,bl,df,nu,gl,gu,ti,ex,mx,no,bf,wd,bg,xs,be⟩:HdM) v) (0+1) (u8s x)=HdM.cells (⟨fi,x,om,co,st,tx,rc,bl,df,nu,gl,gu,ti,ex,mx,no,bf,wd,bg,xs,be⟩:HdM) v:=part_set (HdM.lens k v) (j:=1) (q:=u8s x) rfl rfl (by simp only [bL,hx];exact k.pa.symm)
theorem ok_pa (k:HdM.Ok (⟨fi,pa,om,co,st,tx,rc,bl,df,nu,gl,gu,ti,ex,mx,no,bf,wd,bg,xs,be⟩:HdM)) (hx:x.length=32):HdM.Ok (⟨fi,x,om,co,st,tx,rc,bl,df,nu,gl,gu,ti,ex,mx,no,bf,wd,bg,xs,be⟩:HdM):= { k with pa:=hx }
theorem hd_om (k:HdM.Ok (⟨fi,pa,om,co,st,tx,rc,bl,df,nu,gl,gu,ti,ex,mx,no,bf,wd,bg,xs,be⟩:HdM)) (hx:x.length=32):setL (HdM.cells (⟨fi,pa,om,co,st,tx,rc,bl,df,nu,gl,gu,ti,ex,mx,no,bf,wd,bg,xs,be⟩:HdM) v) (0+33) (u8s x)=HdM.cells (⟨fi,pa,x,co,st,tx,rc,bl,df,nu,gl,gu,ti,ex,mx,no,bf,wd,bg,xs,be⟩:HdM) v:=part_set (HdM.lens k v) (j:=2) (q:=u8s x) rfl rfl (by simp only [bL,hx];exact k.om.symm)
theorem ok_om (k:HdM.Ok (⟨fi,pa,om,co,st,tx,rc,bl,df,nu,gl,gu,ti,ex,mx,no,bf,wd,bg,xs,be⟩:HdM)) (hx:x.length=32):HdM.Ok (⟨fi,pa,x,co,st,tx,rc,bl,df,nu,gl,gu,ti,ex,mx,no,bf,wd,bg,xs,be⟩:HdM):= { k with om:=hx }
theorem hd_co (k:HdM.Ok (⟨fi,pa,om,co,st,tx,rc,bl,df,nu,gl,gu,ti,ex,mx,no,bf,wd,bg,xs,be⟩:HdM)) (hx:x.length=20):setL (HdM.cells (⟨fi,pa,om,co,st,tx,rc,bl,df,nu,gl,gu,ti,ex,mx,no,bf,wd,bg,xs,be⟩:HdM) v) (0+65) (u8s x)=HdM.cells (⟨fi,pa,om,x,st,tx,rc,bl,df,nu,gl,gu,ti,ex,mx,no,bf,wd,bg,xs,be⟩:HdM) v:=part_set (HdM.lens k v) (j:=3) (q:=u8s x) rfl rfl (by simp only [bL,hx];exact k.co.symm)
theorem ok_co (k:HdM.Ok (⟨fi,pa,om,co,st,tx,rc,bl,df,nu,gl,gu,ti,ex,mx,no,bf,wd,bg,xs,be⟩:HdM)) (hx:x.length=20):HdM.Ok (⟨fi,pa,om,x,st,tx,rc,bl,df,nu,gl,gu,ti,ex,mx,no,bf,wd,bg,xs,be⟩:HdM):= { k with co:=hx }
theorem hd_st (k:HdM.Ok (⟨fi,pa,om,co,st,tx,rc,bl,df,nu,gl,gu,ti,ex,mx,no,bf,wd,bg,xs,be⟩:HdM)) (hx:x.length=32):setL (HdM.cells (⟨fi,pa,om,co,st,tx,rc,bl,df,nu,gl,gu,ti,ex,mx,no,bf,wd,bg,xs,be⟩:HdM) v) (0+85) (u8s x)=HdM.cells (⟨fi,pa,om,co,x,tx,rc,bl,df,nu,gl,gu,ti,ex,mx,no,bf,wd,bg,xs,be⟩:HdM) v:=part_set (HdM.lens k v) (j:=4) (q:=u8s x) rfl rfl (by simp only [bL,hx];exact k.st.symm)
theorem ok_st (k:HdM.Ok (⟨fi,pa,om,co,st,tx,rc,bl,df,nu,gl,gu,ti,ex,mx,no,bf,wd,bg,xs,be⟩:HdM)) (hx:x.length=32):HdM.Ok (⟨fi,pa,om,co,x,tx,rc,bl,df,nu,gl,gu,ti,ex,mx,no,bf,wd,bg,xs,be⟩:HdM):= { k with st:=hx }
theorem hd_tx (k:HdM.Ok (⟨fi,pa,om,co,st,tx,rc,bl,df,nu,gl,gu,ti,ex,mx,no,bf,wd,bg,xs,be⟩:HdM)) (hx:x.length=32):setL (HdM.cells (⟨fi,pa,om,co,st,tx,rc,bl,df,nu,gl,gu,ti,ex,mx,no,bf,wd,bg,xs,be⟩:HdM) v) (0+117) (u8s x)=HdM.cells (⟨fi,pa,om,co,st,x,rc,bl,df,nu,gl,gu,ti,ex,mx,no,bf,wd,bg,xs,be⟩:HdM) v:=part_set (HdM.lens k v) (j:=5) (q:=u8s x) rfl rfl (by simp only [bL,hx];exact k.tx.symm)
theorem ok_tx (k:HdM.Ok (⟨fi,pa,om,co,st,tx,rc,bl,df,nu,gl,gu,ti,ex,mx,no,bf,wd,bg,xs,be⟩:HdM)) (hx:x.length=32):HdM.Ok (⟨fi,pa,om,co,st,x,rc,bl,df,nu,gl,gu,ti,ex,mx,no,bf,wd,bg,xs,be⟩:HdM):= { k with tx:=hx }
theorem hd_rc (k:HdM.Ok (⟨fi,pa,om,co,st,tx,rc,bl,df,nu,gl,gu,ti,ex,mx,no,bf,wd,bg,xs,be⟩:HdM)) (hx:x.length=32):setL (HdM.cells (⟨fi,pa,om,co,st,tx,rc,bl,df,nu,gl,gu,ti,ex,mx,no,bf,wd,bg,xs,be⟩:HdM) v) (0+149) (u8s x)=HdM.cells (⟨fi,pa,om,co,st,tx,x,bl,df,nu,gl,gu,ti,ex,mx,no,bf,wd,bg,xs,be⟩:HdM) v:=part_set (HdM.lens k v) (j:=6) (q:=u8s x) rfl rfl (by simp only [bL,hx];exact k.rc.symm)
theorem ok_rc (k:HdM.Ok (⟨fi,pa,om,co,st,tx,rc,bl,df,nu,gl,gu,ti,ex,mx,no,bf,wd,bg,xs,be⟩:HdM)) (hx:x.length=32):HdM.Ok (⟨fi,pa,om,co,st,tx,x,bl,df,nu,gl,gu,ti,ex,mx,no,bf,wd,bg,xs,be⟩:HdM):= { k with rc:=hx }
theorem hd_bl (k:HdM.Ok (⟨fi,pa,om,co,st,tx,rc,bl,df,nu,gl,gu,ti,ex,mx,no,bf,wd,bg,xs,be⟩:HdM)) (hx:x.length=256):setL (HdM.cells (⟨fi,pa,om,co,st,tx,rc,bl,df,nu,gl,gu,ti,ex,mx,no,bf,wd,bg,xs,be⟩:HdM) v) (0+181) (u8s x)=HdM.cells (⟨fi,pa,om,co,st,tx,rc,x,df,nu,gl,gu,ti,ex,mx,no,bf,wd,bg,xs,be⟩:HdM) v:=part_set (HdM.lens k v) (j:=7) (q:=u8s x) rfl rfl (by simp only [bL,hx];exact k.bl.symm)
theorem ok_bl (k:HdM.Ok (⟨fi,pa,om,co,st,tx,rc,bl,df,nu,gl,gu,ti,ex,mx,no,bf,wd,bg,xs,be⟩:HdM)) (hx:x.length=256):HdM.Ok (⟨fi,pa,om,co,st,tx,rc,x,df,nu,gl,gu,ti,ex,mx,no,bf,wd,bg,xs,be⟩:HdM):= { k with bl:=hx }
theorem hd_df (k:HdM.Ok (⟨fi,pa,om,co,st,tx,rc,bl,df,nu,gl,gu,ti,ex,mx,no,bf,wd,bg,xs,be⟩:HdM)):setL (HdM.cells (⟨fi,pa,om,co,st,tx,rc,bl,df,nu,gl,gu,ti,ex,mx,no,bf,wd,bg,xs,be⟩:HdM) v) (0+437) (u64s (wl n))=HdM.cells (⟨fi,pa,om,co,st,tx,rc,bl,n,nu,gl,gu,ti,ex,mx,no,bf,wd,bg,xs,be⟩:HdM) v:=part_set (HdM.lens k v) (j:=8) (q:=u64s (wl n)) rfl rfl (by simp only [u64s_len,length_wl])
theorem ok_df (k:HdM.Ok (⟨fi,pa,om,co,st,tx,rc,bl,df,nu,gl,gu,ti,ex,mx,no,bf,wd,bg,xs,be⟩:HdM)) (hx:n<WW):HdM.Ok (⟨fi,pa,om,co,st,tx,rc,bl,n,nu,gl,gu,ti,ex,mx,no,bf,wd,bg,xs,be⟩:HdM):= { k with df:=hx }
theorem hd_nu (k:HdM.Ok (⟨fi,pa,om,co,st,tx,rc,bl,df,nu,gl,gu,ti,ex,mx,no,bf,wd,bg,xs,be⟩:HdM)):setL (HdM.cells (⟨fi,pa,om,co,st,tx,rc,bl,df,nu,gl,gu,ti,ex,mx,no,bf,wd,bg,xs,be⟩:HdM) v) (0+441) [.int .u64 (u.toNat:Int)]=HdM.cells (⟨fi,pa,om,co,st,tx,rc,bl,df,u,gl,gu,ti,ex,mx,no,bf,wd,bg,xs,be⟩:HdM) v:=part_put (HdM.lens k v) (j:=9) rfl rfl _
theorem ok_nu (k:HdM.Ok (⟨fi,pa,om,co,st,tx,rc,bl,df,nu,gl,gu,ti,ex,mx,no,bf,wd,bg,xs,be⟩:HdM)):HdM.Ok (⟨fi,pa,om,co,st,tx,rc,bl,df,u,gl,gu,ti,ex,mx,no,bf,wd,bg,xs,be⟩:HdM):= { k with }
theorem hd_gl (k:HdM.Ok (⟨fi,pa,om,co,st,tx,rc,bl,df,nu,gl,gu,ti,ex,mx,no,bf,wd,bg,xs,be⟩:HdM)):setL (HdM.cells (⟨fi,pa,om,co,st,tx,rc,bl,df,nu,gl,gu,ti,ex,mx,no,bf,wd,bg,xs,be⟩:HdM) v) (0+442) [.int .u64 (u.toNat:Int)]=HdM.cells (⟨fi,pa,om,co,st,tx,rc,bl,df,nu,u,gu,ti,ex,mx,no,bf,wd,bg,xs,be⟩:HdM) v:=part_put (HdM.lens k v) (j:=10) rfl rfl _
theorem ok_gl (k:HdM.Ok (⟨fi,pa,om,co,st,tx,rc,bl,df,nu,gl,gu,ti,ex,mx,no,bf,wd,bg,xs,be⟩:HdM)):HdM.Ok (⟨fi,pa,om,co,st,tx,rc,bl,df,nu,u,gu,ti,ex,mx,no,bf,wd,bg,xs,be⟩:HdM):= { k with }
theorem hd_gu (k:HdM.Ok (⟨fi,pa,om,co,st,tx,rc,bl,df,nu,gl,gu,ti,ex,mx,no,bf,wd,bg,xs,be⟩:HdM)):setL (HdM.cells (⟨fi,pa,om,co,st,tx,rc,bl,df,nu,gl,gu,ti,ex,mx,no,bf,wd,bg,xs,be⟩:HdM) v) (0+443) [.int .u64 (u.toNat:Int)]=HdM.cells (⟨fi,pa,om,co,st,tx,rc,bl,df,nu,gl,u,ti,ex,mx,no,bf,wd,bg,xs,be⟩:HdM) v:=part_put (HdM.lens k v) (j:=11) rfl rfl _
theorem ok_gu (k:HdM.Ok (⟨fi,pa,om,co,st,tx,rc,bl,df,nu,gl,gu,ti,ex,mx,no,bf,wd,bg,xs,be⟩:HdM)):HdM.Ok (⟨fi,pa,om,co,st,tx,rc,bl,df,nu,gl,u,ti,ex,mx,no,bf,wd,bg,xs,be⟩:HdM):= { k with }
theorem hd_ti (k:HdM.Ok (⟨fi,pa,om,co,st,tx,rc,bl,df,nu,gl,gu,ti,ex,mx,no,bf,wd,bg,xs,be⟩:HdM)):setL (HdM.cells (⟨fi,pa,om,co,st,tx,rc,bl,df,nu,gl,gu,ti,ex,mx,no,bf,wd,bg,xs,be⟩:HdM) v) (0+444) [.int .u64 (u.toNat:Int)]=HdM.cells (⟨fi,pa,om,co,st,tx,rc,bl,df,nu,gl,gu,u,ex,mx,no,bf,wd,bg,xs,be⟩:HdM) v:=part_put (HdM.lens k v) (j:=12) rfl rfl _
theorem ok_ti (k:HdM.Ok (⟨fi,pa,om,co,st,tx,rc,bl,df,nu,gl,gu,ti,ex,mx,no,bf,wd,bg,xs,be⟩:HdM)):HdM.Ok (⟨fi,pa,om,co,st,tx,rc,bl,df,nu,gl,gu,u,ex,mx,no,bf,wd,bg,xs,be⟩:HdM):= { k with }
theorem hd_ex (k:HdM.Ok (⟨fi,pa,om,co,st,tx,rc,bl,df,nu,gl,gu,ti,ex,mx,no,bf,wd,bg,xs,be⟩:HdM)):setL (HdM.cells (⟨fi,pa,om,co,st,tx,rc,bl,df,nu,gl,gu,ti,ex,mx,no,bf,wd,bg,xs,be⟩:HdM) v) (0+445) [w]=HdM.cells (⟨fi,pa,om,co,st,tx,rc,bl,df,nu,gl,gu,ti,x,mx,no,bf,wd,bg,xs,be⟩:HdM) w:=part_put (HdM.lens k v) (j:=13) rfl rfl _
theorem ok_ex (k:HdM.Ok (⟨fi,pa,om,co,st,tx,rc,bl,df,nu,gl,gu,ti,ex,mx,no,bf,wd,bg,xs,be⟩:HdM)):HdM.Ok (⟨fi,pa,om,co,st,tx,rc,bl,df,nu,gl,gu,ti,x,mx,no,bf,wd,bg,xs,be⟩:HdM):= { k with }
theorem hd_mx (k:HdM.Ok (⟨fi,pa,om,co,st,tx,rc,bl,df,nu,gl,gu,ti,ex,mx,no,bf,wd,bg,xs,be⟩:HdM)) (hx:x.length=32):setL (HdM.cells (⟨fi,pa,om,co,st,tx,rc,bl,df,nu,gl,gu,ti,ex,mx,no,bf,wd,bg,xs,be⟩:HdM) v) (0+446) (u8s x)=HdM.cells (⟨fi,pa,om,co,st,tx,rc,bl,df,nu,gl,gu,ti,ex,x,no,bf,wd,bg,xs,be⟩:HdM) v:=part_set (HdM.lens k v) (j:=14) (q:=u8s x) rfl rfl (by simp only [bL,hx];exact k.mx.symm)
theorem ok_mx (k:HdM.Ok (⟨fi,pa,om,co,st,tx,rc,bl,df,nu,gl,gu,ti,ex,mx,no,bf,wd,bg,xs,be⟩:HdM)) (hx:x.length=32):HdM.Ok (⟨fi,pa,om,co,st,tx,rc,bl,df,nu,gl,gu,ti,ex,x,no,bf,wd,bg,xs,be⟩:HdM):= { k with mx:=hx }
theorem hd_no (k:HdM.Ok (⟨fi,pa,om,co,st,tx,rc,bl,df,nu,gl,gu,ti,ex,mx,no,bf,wd,bg,xs,be⟩:HdM)) (hx:x.length=8):setL (HdM.cells (⟨fi,pa,om,co,st,tx,rc,bl,df,nu,gl,gu,ti,ex,mx,no,bf,wd,bg,xs,be⟩:HdM) v) (0+478) (u8s x)=HdM.cells (⟨fi,pa,om,co,st,tx,rc,bl,df,nu,gl,gu,ti,ex,mx,x,bf,wd,bg,xs,be⟩:HdM) v:=part_set (HdM.lens k v) (j:=15) (q:=u8s x) rfl rfl (by simp only [bL,hx];exact k.no.symm)
theorem ok_no (k:HdM.Ok (⟨fi,pa,om,co,st,tx,rc,bl,df,nu,gl,gu,ti,ex,mx,no,bf,wd,bg,xs,be⟩:HdM)) (hx:x.length=8):HdM.Ok (⟨fi,pa,om,co,st,tx,rc,bl,df,nu,gl,gu,ti,ex,mx,x,bf,wd,bg,xs,be⟩:HdM):= { k with no:=hx }
theorem hd_bf (k:HdM.Ok (⟨fi,pa,om,co,st,tx,rc,bl,df,nu,gl,gu,ti,ex,mx,no,bf,wd,bg,xs,be⟩:HdM)):setL (HdM.cells (⟨fi,pa,om,co,st,tx,rc,bl,df,nu,gl,gu,ti,ex,mx,no,bf,wd,bg,xs,be⟩:HdM) v) (0+486) (u64s (wl n))=HdM.cells (⟨fi,pa,om,co,st,tx,rc,bl,df,nu,gl,gu,ti,ex,mx,no,n,wd,bg,xs,be⟩:HdM) v:=part_set (HdM.lens k v) (j:=16) (q:=u64s (wl n)) rfl rfl (by simp only [u64s_len,length_wl])
theorem ok_bf (k:HdM.Ok (⟨fi,pa,om,co,st,tx,rc,bl,df,nu,gl,gu,ti,ex,mx,no,bf,wd,bg,xs,be⟩:HdM)) (hx:n<WW):HdM.Ok (⟨fi,pa,om,co,st,tx,rc,bl,df,nu,gl,gu,ti,ex,mx,no,n,wd,bg,xs,be⟩:HdM):= { k with bf:=hx }
theorem hd_wd (k:HdM.Ok (⟨fi,pa,om,co,st,tx,rc,bl,df,nu,gl,gu,ti,ex,mx,no,bf,wd,bg,xs,be⟩:HdM)) (hx:x.length=32):setL (HdM.cells (⟨fi,pa,om,co,st,tx,rc,bl,df,nu,gl,gu,ti,ex,mx,no,bf,wd,bg,xs,be⟩:HdM) v) (0+490) (u8s x)=HdM.cells (⟨fi,pa,om,co,st,tx,rc,bl,df,nu,gl,gu,ti,ex,mx,no,bf,x,bg,xs,be⟩:HdM) v:=part_set (HdM.lens k v) (j:=17) (q:=u8s x) rfl rfl (by simp only [bL,hx];exact k.wd.symm)
theorem ok_wd (k:HdM.Ok (⟨fi,pa,om,co,st,tx,rc,bl,df,nu,gl,gu,ti,ex,mx,no,bf,wd,bg,xs,be⟩:HdM)) (hx:x.length=32):HdM.Ok (⟨fi,pa,om,co,st,tx,rc,bl,df,nu,gl,gu,ti,ex,mx,no,bf,x,bg,xs,be⟩:HdM):= { k with wd:=hx }
theorem hd_bg (k:HdM.Ok (⟨fi,pa,om,co,st,tx,rc,bl,df,nu,gl,gu,ti,ex,mx,no,bf,wd,bg,xs,be⟩:HdM)):setL (HdM.cells (⟨fi,pa,om,co,st,tx,rc,bl,df,nu,gl,gu,ti,ex,mx,no,bf,wd,bg,xs,be⟩:HdM) v) (0+522) [.int .u64 (u.toNat:Int)]=HdM.cells (⟨fi,pa,om,co,st,tx,rc,bl,df,nu,gl,gu,ti,ex,mx,no,bf,wd,u,xs,be⟩:HdM) v:=part_put (HdM.lens k v) (j:=18) rfl rfl _
theorem ok_bg (k:HdM.Ok (⟨fi,pa,om,co,st,tx,rc,bl,df,nu,gl,gu,ti,ex,mx,no,bf,wd,bg,xs,be⟩:HdM)):HdM.Ok (⟨fi,pa,om,co,st,tx,rc,bl,df,nu,gl,gu,ti,ex,mx,no,bf,wd,u,xs,be⟩:HdM):= { k with }
theorem hd_xs (k:HdM.Ok (⟨fi,pa,om,co,st,tx,rc,bl,df,nu,gl,gu,ti,ex,mx,no,bf,wd,bg,xs,be⟩:HdM)):setL (HdM.cells (⟨fi,pa,om,co,st,tx,rc,bl,df,nu,gl,gu,ti,ex,mx,no,bf,wd,bg,xs,be⟩:HdM) v) (0+523) [.int .u64 (u.toNat:Int)]=HdM.cells (⟨fi,pa,om,co,st,tx,rc,bl,df,nu,gl,gu,ti,ex,mx,no,bf,wd,bg,u,be⟩:HdM) v:=part_put (HdM.lens k v) (j:=19) rfl rfl _
theorem ok_xs (k:HdM.Ok (⟨fi,pa,om,co,st,tx,rc,bl,df,nu,gl,gu,ti,ex,mx,no,bf,wd,bg,xs,be⟩:HdM)):HdM.Ok (⟨fi,pa,om,co,st,tx,rc,bl,df,nu,gl,gu,ti,ex,mx,no,bf,wd,bg,u,be⟩:HdM):= { k with }
theorem hd_be (k:HdM.Ok (⟨fi,pa,om,co,st,tx,rc,bl,df,nu,gl,gu,ti,ex,mx,no,bf,wd,bg,xs,be⟩:HdM)) (hx:x.length=32):setL (HdM.cells (⟨fi,pa,om,co,st,tx,rc,bl,df,nu,gl,gu,ti,ex,mx,no,bf,wd,bg,xs,be⟩:HdM) v) (0+524) (u8s x)=HdM.cells (⟨fi,pa,om,co,st,tx,rc,bl,df,nu,gl,gu,ti,ex,mx,no,bf,wd,bg,xs,x⟩:HdM) v:=part_set (HdM.lens k v) (j:=20) (q:=u8s x) rfl rfl (by simp only [bL,hx];exact k.be.symm)
theorem ok_be (k:HdM.Ok (⟨fi,pa,om,co,st,tx,rc,bl,df,nu,gl,gu,ti,ex,mx,no,bf,wd,bg,xs,be⟩:HdM)) (hx:x.length=32):HdM.Ok (⟨fi,pa,om,co,st,tx,rc,bl,df,nu,gl,gu,ti,ex,mx,no,bf,wd,bg,xs,x⟩:HdM):= { k with be:=hx }
theorem hd_fi (k:HdM.Ok (⟨fi,pa,om,co,st,tx,rc,bl,df,nu,gl,gu,ti,ex,mx,no,bf,wd,bg,xs,be⟩:HdM)):(HdM.cells (⟨fi,pa,om,co,st,tx,rc,bl,df,nu,gl,gu,ti,ex,mx,no,bf,wd,bg,xs,be⟩:HdM) v)[0+0]? =some (.int .i64 fi):=part_val (HdM.lens k v) (j:=0) rfl rfl
end
theorem zeros_flat (fi:Int):HdM.zero fi=(⟨fi,zeros8 32,zeros8 32,zeros8 20,zeros8 32,zeros8 32,zeros8 32,zeros8 256,0,0,0,0,0,[],zeros8 32,zeros8 8,0,zeros8 32,0,0,zeros8 32⟩:HdM):=rfl
theorem zeros_ok (fi:Int):(HdM.zero fi).Ok:=⟨List.length_replicate ..,List.length_replicate ..,List.length_replicate ..,List.length_replicate ..,List.length_replicate ..,List.length_replicate ..,List.length_replicate ..,(show 0<WW by decide),List.length_replicate ..,List.length_replicate ..,(show 0<WW by decide),List.length_replicate ..,List.length_replicate ..⟩
theorem z_hd:z44=(HdM.zero 0).cells (.slice none 0 0):=by kernel_rfl
theorem hd_start (n:Int):setL z44 0 [.int .i64 n]=(HdM.zero n).cells (.slice none 0 0):=by
 rw [z_hd]
 exact part_put (HdM.lens (zeros_ok 0) _) (j:=0) U U _
theorem fill_hd (n:Nat):fillL [(0,1),(1,32),(33,32),(65,20),(85,32),(117,32),(149,32),(181,256),(437,4),(441,1),(442,1),(443,1),(444,1),(445,1),(446,32),(478,8),(486,4),(490,32),(522,1),(523,1),(524,32)] z44 [(0,.int .i64 (n:Int))]=some ((HdM.zero n).cells (.slice none 0 0)):=by
 have hl:=cY
 simp only [fillL,List.getElem?_cons_zero,Value.cells,hl]
 exact congrArg some (hd_start n)
section
variable {Np NI : Heaplet} {bp : Nat} {t : It} {ts : List It} {z : IV} {zs : List IV}
theorem F64_p (h:PartsN Np NI bp (z::zs) (t::ts)):FnE Tryz.prog 58 #[.pointer (some ⟨bp,0,none⟩)] [Np] [NI] (fun v L=> ∃Np, ∃u:UInt64,v=.int .u64 (u.toNat:Int)∧L= [Np]∧n64E t=.ok u∧PartsN Np NI bp zs ts) (fun v L=> ∃e:Nat,v=gaveV e∧L= []∧n64E t=.error e):=
 (FSmall_p h).mono (fun v L ⟨Np,x,h1,h2,h3,h4,h5⟩=>⟨Np,UInt64.ofNat x,by rw [h1,UInt64.toNat_ofNat',Nat.mod_eq_of_lt h4],h2,by simp only [n64E,eb,h3],h5⟩) (fun v L ⟨e,h1,h2,h3⟩=>⟨e,h1,h2,by simp only [n64E,eb,h3]⟩)
end
theorem three_of {α:Type} {l:List α} (h:l.length=3): ∃a b c,l= [a,b,c]:=by
 match l,h with
 | [a,b,c],_=>exact⟨a,b,c,rfl⟩
theorem split15 {its:List It} (h:its.length∈ [15,16,17,20]): ∃t0 t1 t2 t3 t4 t5 t6 t7 t8 t9 t10 t11 t12 t13 t14 r,its=t0::t1::t2::t3::t4::t5::t6::t7::t8::t9::t10::t11::t12::t13::t14::r∧(r.length=0∨r.length=1∨r.length=2∨r.length=5):=by
 simp only [List.mem_cons,List.not_mem_nil,or_false]at h
 obtain⟨t0,its,rfl⟩: ∃t l,its=t::l:=by cases its with|nil=>exact absurd h (by simp)|cons a b=>exact⟨a,b,rfl⟩
 obtain⟨t1,its,rfl⟩: ∃t l,its=t::l:=by cases its with|nil=>exact absurd h (by simp)|cons a b=>exact⟨a,b,rfl⟩
 obtain⟨t2,its,rfl⟩: ∃t l,its=t::l:=by cases its with|nil=>exact absurd h (by simp)|cons a b=>exact⟨a,b,rfl⟩
 obtain⟨t3,its,rfl⟩: ∃t l,its=t::l:=by cases its with|nil=>exact absurd h (by simp)|cons a b=>exact⟨a,b,rfl⟩
 obtain⟨t4,its,rfl⟩: ∃t l,its=t::l:=by cases its with|nil=>exact absurd h (by simp)|cons a b=>exact⟨a,b,rfl⟩
 obtain⟨t5,its,rfl⟩: ∃t l,its=t::l:=by cases its with|nil=>exact absurd h (by simp)|cons a b=>exact⟨a,b,rfl⟩
 obtain⟨t6,its,rfl⟩: ∃t l,its=t::l:=by cases its with|nil=>exact absurd h (by simp)|cons a b=>exact⟨a,b,rfl⟩
 obtain⟨t7,its,rfl⟩: ∃t l,its=t::l:=by cases its with|nil=>exact absurd h (by simp)|cons a b=>exact⟨a,b,rfl⟩
 obtain⟨t8,its,rfl⟩: ∃t l,its=t::l:=by cases its with|nil=>exact absurd h (by simp)|cons a b=>exact⟨a,b,rfl⟩
 obtain⟨t9,its,rfl⟩: ∃t l,its=t::l:=by cases its with|nil=>exact absurd h (by simp)|cons a b=>exact⟨a,b,rfl⟩
 obtain⟨t10,its,rfl⟩: ∃t l,its=t::l:=by cases its with|nil=>exact absurd h (by simp)|cons a b=>exact⟨a,b,rfl⟩
 obtain⟨t11,its,rfl⟩: ∃t l,its=t::l:=by cases its with|nil=>exact absurd h (by simp)|cons a b=>exact⟨a,b,rfl⟩
 obtain⟨t12,its,rfl⟩: ∃t l,its=t::l:=by cases its with|nil=>exact absurd h (by simp)|cons a b=>exact⟨a,b,rfl⟩
 obtain⟨t13,its,rfl⟩: ∃t l,its=t::l:=by cases its with|nil=>exact absurd h (by simp)|cons a b=>exact⟨a,b,rfl⟩
 obtain⟨t14,its,rfl⟩: ∃t l,its=t::l:=by cases its with|nil=>exact absurd h (by simp)|cons a b=>exact⟨a,b,rfl⟩
 exact⟨t0,t1,t2,t3,t4,t5,t6,t7,t8,t9,t10,t11,t12,t13,t14,its,rfl,by simp only [List.length_cons]at h;omega⟩
theorem ivs15 {zs:List IV} {n:Nat} (h:zs.length=n+15): ∃z0 z1 z2 z3 z4 z5 z6 z7 z8 z9 z10 z11 z12 z13 z14 r,zs=z0::z1::z2::z3::z4::z5::z6::z7::z8::z9::z10::z11::z12::z13::z14::r∧r.length=n:=by
 obtain⟨z0,zs,rfl⟩: ∃t l,zs=t::l:=by cases zs with|nil=>exact absurd h (by simp)|cons a b=>exact⟨a,b,rfl⟩
 obtain⟨z1,zs,rfl⟩: ∃t l,zs=t::l:=by cases zs with|nil=>exact absurd h (by simp)|cons a b=>exact⟨a,b,rfl⟩
 obtain⟨z2,zs,rfl⟩: ∃t l,zs=t::l:=by cases zs with|nil=>exact absurd h (by simp)|cons a b=>exact⟨a,b,rfl⟩
 obtain⟨z3,zs,rfl⟩: ∃t l,zs=t::l:=by cases zs with|nil=>exact absurd h (by simp)|cons a b=>exact⟨a,b,rfl⟩
 obtain⟨z4,zs,rfl⟩: ∃t l,zs=t::l:=by cases zs with|nil=>exact absurd h (by simp)|cons a b=>exact⟨a,b,rfl⟩
 obtain⟨z5,zs,rfl⟩: ∃t l,zs=t::l:=by cases zs with|nil=>exact absurd h (by simp)|cons a b=>exact⟨a,b,rfl⟩
 obtain⟨z6,zs,rfl⟩: ∃t l,zs=t::l:=by cases zs with|nil=>exact absurd h (by simp)|cons a b=>exact⟨a,b,rfl⟩
 obtain⟨z7,zs,rfl⟩: ∃t l,zs=t::l:=by cases zs with|nil=>exact absurd h (by simp)|cons a b=>exact⟨a,b,rfl⟩
 obtain⟨z8,zs,rfl⟩: ∃t l,zs=t::l:=by cases zs with|nil=>exact absurd h (by simp)|cons a b=>exact⟨a,b,rfl⟩
 obtain⟨z9,zs,rfl⟩: ∃t l,zs=t::l:=by cases zs with|nil=>exact absurd h (by simp)|cons a b=>exact⟨a,b,rfl⟩
 obtain⟨z10,zs,rfl⟩: ∃t l,zs=t::l:=by cases zs with|nil=>exact absurd h (by simp)|cons a b=>exact⟨a,b,rfl⟩
 obtain⟨z11,zs,rfl⟩: ∃t l,zs=t::l:=by cases zs with|nil=>exact absurd h (by simp)|cons a b=>exact⟨a,b,rfl⟩
 obtain⟨z12,zs,rfl⟩: ∃t l,zs=t::l:=by cases zs with|nil=>exact absurd h (by simp)|cons a b=>exact⟨a,b,rfl⟩
 obtain⟨z13,zs,rfl⟩: ∃t l,zs=t::l:=by cases zs with|nil=>exact absurd h (by simp)|cons a b=>exact⟨a,b,rfl⟩
 obtain⟨z14,zs,rfl⟩: ∃t l,zs=t::l:=by cases zs with|nil=>exact absurd h (by simp)|cons a b=>exact⟨a,b,rfl⟩
 exact⟨z0,z1,z2,z3,z4,z5,z6,z7,z8,z9,z10,z11,z12,z13,z14,zs,rfl,by simp only [List.length_cons]at h;omega⟩
theorem hdE_len {t:It} {its:List It} (h:listE t=.ok its) (k:its.length∉ [15,16,17,20]):hdE t=.error 2:=by
 simp only [hdE,eb,h];rw [if_neg k]
theorem hdE_in {t:It} {its:List It} (h:listE t=.ok its) (k:its.length∈ [15,16,17,20]):hdE t=hdA its:=by
 simp only [hdE,eb,h];rw [if_pos k]
def HdS (zs:List IV) (NI:Heaplet) (h:HdM) (v:Value):Prop:= ∃ea ec,v=.slice ea h.ex.length ec∧RSl NI 1 ea h.ex.length ec (u8s h.ex)∧ ∃(i:Nat) (z:IV),zs[i]? =some z∧v=slB z
section
variable {NI : Heaplet} {t : It} {x : IV}
set_option maxHeartbeats 16000000 in
theorem FHeader_p (hi:ItN NI t x):FnE Tryz.prog 48 #[.agg #[.bool x.l,.slice x.ab x.nb x.cb,.slice x.ai x.ni x.ci]] [] [NI] (fun v L=> ∃h v1 zs,v=.agg (h.cells v1).toArray∧L= []∧hdE t=.ok h∧h.Ok∧okF h.fi∧HdS zs NI h v1∧RSl NI 3 x.ai x.ni x.ci (cellsI zs)) (fun v L=> ∃e:Nat,v=gaveV e∧L= []∧hdE t=.error e):=by
 refine FnE.enter (vs:= [.agg #[.bool x.l,.slice x.ab x.nb x.cb,.slice x.ai x.ni x.ci]]) Tryz.func48 U U U ?_
 intro E R hR
 have hNR:=hR NI (by simp)
 change At _ _ E [R] _
 refine aC fun _ s_1=>aA (op_box bU U U U (fun N1 b1 B1=>bK bU ze44 U (fun N2 b2 B2=>?_)))
 change Blk N2 b2 _ z44 at B2
 refine aB (s_1 (aC fun _ s_2=>aA (aV (ds:= [_,_,_]) aE ag91 U B1 U U mem1 U (bM (.cons U .nil) ((FOpened_p hi).liftB hNR) (F:= [N2,N1,R]) Tryz.func33 U U (.refl _) (by simp) U ?_ ?_))))
 ·rintro _ _ ⟨e,rfl,rfl,he⟩
  show At _ _ _ [N2,N1,R] _
  refine aY ((bH (cK (cP (L1:= []) (.refl _) aJ ?_))))
  exact⟨e,rfl,rfl,by simp only [hdE,eb,he]⟩
 rintro _ _ ⟨Nq,bq,its,zs,rfl,rfl,he,hq,hzs⟩
 show At _ _ _ [Nq,N2,N1,R] _
 refine aR U U (aB (s_2 (aC fun _ s_3=>aA (aH U U (op_lit bU Tryz.underlying162 ze3 sz3 (.cons U (.cons U (.cons U (.cons U .nil)))) U U (by simp [Value.cells]) U U U (fun N8 a8 r8=>?_))))))
 simp only [flatV,List.flatMap_cons,List.flatMap_nil,Value.cells,List.append_nil,List.cons_append,List.nil_append]at r8
 have s8:=r8.rsl
 refine aL (aL (aL (aN (aL (bM (.cons U (.cons U .nil)) (FJust_p (ks:= [15,16,17,20]) hq r8.rsl (by decide)) (F:= [N8,N2,N1,R]) Tryz.func51 U U (.refl _) (by simp) U ?_ ?_)))))
 ·rintro _ _ ⟨rfl,rfl,hjm⟩
  show At _ _ _ [N8,N2,N1,R] _
  refine aY ((bJ (bH (cK (cP (L1:= []) (.refl _) aJ ?_)))))
  exact⟨2,rfl,rfl,hdE_len he hjm⟩
 rintro _ _ ⟨rfl,rfl,hjm⟩
 show At _ _ _ [Nq,N8,N2,N1,R] _
 obtain⟨t0,t1,t2,t3,t4,t5,t6,t7,t8,t9,t10,t11,t12,t13,t14,r,rfl,hrl⟩:=split15 hjm;obtain⟨z0,z1,z2,z3,z4,z5,z6,z7,z8,z9,z10,z11,z12,z13,z14,zr,rfl,hzl⟩:=ivs15 (n:=r.length) hq.all;have hin:=hdE_in he hjm;clear hjm
 refine cM (out:=(HdM.zero ((t0::t1::t2::t3::t4::t5::t6::t7::t8::t9::t10::t11::t12::t13::t14::r).length:Nat)).cells (.slice none 0 0)) aE ze44 pl44 (.cons U .nil) (fill_hd _) U (bK bU ze44 U (fun N4 b4 B4=>?_))
 change Blk N4 b4 _ z44 at B4
 refine aF cL sz44 U U U (HdM.len (zeros_ok _) _) (HdM.one U) B4 (by rw [HdM.len (zeros_ok _),cY];exact Nat.le_refl _) dB (fun N4 B4=>?_)
 rw [bG (by rw [HdM.len (zeros_ok _),cY])]at B4;have k:=zeros_ok ((t0::t1::t2::t3::t4::t5::t6::t7::t8::t9::t10::t11::t12::t13::t14::r).length:Nat);rw [show(t0::t1::t2::t3::t4::t5::t6::t7::t8::t9::t10::t11::t12::t13::t14::r).length=15+r.length by simp only [List.length_cons];omega]at B4 k;rw [zeros_flat]at B4 k
 refine aB (s_3 (aC fun _ s_4=>aA (aH U U (aG (aG (aG (aG (aL (aG (bM (.cons U .nil) ((FHash_p hq).liftB hNR) (F:= [N4,N8,N2,N1,R]) Tryz.func106 U U (.refl _) (by simp) U ?_ ?_))))))))))
 ·rintro _ _ ⟨e,rfl,rfl,he2⟩
  show At _ _ _ [N4,N8,N2,N1,R] _
  refine aY ((bW (bJ (bH (cK (cP (L1:= []) (.refl _) aJ ?_))))))
  exact⟨e,rfl,rfl,hin.trans (by simp only [hdA,eb,he2])⟩
 rintro _ _ ⟨Nq,x_pa,rfl,rfl,e_pa,l_pa,hp⟩
 show At _ _ _ [Nq,N4,N8,N2,N1,R] _
 refine aH U U (bM (.cons U .nil) ((FHash_p hp).liftB hNR) (F:= [N4,N8,N2,N1,R]) Tryz.func106 U U (.refl _) (by simp) U ?_ ?_)
 ·rintro _ _ ⟨e,rfl,rfl,he2⟩
  show At _ _ _ [N4,N8,N2,N1,R] _
  refine aY ((bW (bJ (bH (cK (cP (L1:= []) (.refl _) aJ ?_))))))
  exact⟨e,rfl,rfl,hin.trans (by simp only [hdA,eb,e_pa,he2])⟩
 rintro _ _ ⟨Nq,x_om,rfl,rfl,e_om,l_om,hp⟩
 show At _ _ _ [Nq,N4,N8,N2,N1,R] _
 refine aH U U (bM (.cons U .nil) ((FAddr_p hp).liftB hNR) (F:= [N4,N8,N2,N1,R]) Tryz.func59 U U (.refl _) (by simp) U ?_ ?_)
 ·rintro _ _ ⟨e,rfl,rfl,he2⟩
  show At _ _ _ [N4,N8,N2,N1,R] _
  refine aY ((bW (bJ (bH (cK (cP (L1:= []) (.refl _) aJ ?_))))))
  exact⟨e,rfl,rfl,hin.trans (by simp only [hdA,eb,e_pa,e_om,he2])⟩
 rintro _ _ ⟨Nq,x_co,rfl,rfl,e_co,l_co,hp⟩
 show At _ _ _ [Nq,N4,N8,N2,N1,R] _
 refine aD aE fl44_1 U U ?_
 refine aF cL sz40 U U U (by rw [bL];exact l_pa) (all8x2 _) B4 (by rw [HdM.len k,bL,l_pa];exact show 0+1+32≤556 by decide) sel1 (fun N4 B4=>?_)
 erw [hd_pa k l_pa]at B4;have k:=ok_pa k l_pa
 refine aD aE fl44_2 U U ?_
 refine aF cL sz40 U U U (by rw [bL];exact l_om) (all8x2 _) B4 (by rw [HdM.len k,bL,l_om];exact show 0+33+32≤556 by decide) dB (fun N4 B4=>?_)
 erw [hd_om k l_om]at B4;have k:=ok_om k l_om
 refine aD aE fl44_3 U U ?_
 refine aF cL sz28 U U U (by rw [bL];exact l_co) (all8x2 _) B4 (by rw [HdM.len k,bL,l_co];exact show 0+65+20≤556 by decide) dB (fun N4 B4=>?_)
 erw [hd_co k l_co]at B4;have k:=ok_co k l_co
 refine aB (s_4 (aC fun _ s_5=>aA (aH U U (aG (aG (aG (aG (aL (aG (bM (.cons U .nil) ((FHash_p hp).liftB hNR) (F:= [N4,N8,N2,N1,R]) Tryz.func106 U U (.refl _) (by simp) U ?_ ?_))))))))))
 ·rintro _ _ ⟨e,rfl,rfl,he2⟩
  show At _ _ _ [N4,N8,N2,N1,R] _
  refine aY ((bW (bJ (bH (cK (cP (L1:= []) (.refl _) aJ ?_))))))
  exact⟨e,rfl,rfl,hin.trans (by simp only [hdA,eb,e_pa,e_om,e_co,he2])⟩
 rintro _ _ ⟨Nq,x_st,rfl,rfl,e_st,l_st,hp⟩
 show At _ _ _ [Nq,N4,N8,N2,N1,R] _
 refine aH U U (bM (.cons U .nil) ((FHash_p hp).liftB hNR) (F:= [N4,N8,N2,N1,R]) Tryz.func106 U U (.refl _) (by simp) U ?_ ?_)
 ·rintro _ _ ⟨e,rfl,rfl,he2⟩
  show At _ _ _ [N4,N8,N2,N1,R] _
  refine aY ((bW (bJ (bH (cK (cP (L1:= []) (.refl _) aJ ?_))))))
  exact⟨e,rfl,rfl,hin.trans (by simp only [hdA,eb,e_pa,e_om,e_co,e_st,he2])⟩
 rintro _ _ ⟨Nq,x_tx,rfl,rfl,e_tx,l_tx,hp⟩
 show At _ _ _ [Nq,N4,N8,N2,N1,R] _
 refine aH U U (bM (.cons U .nil) ((FHash_p hp).liftB hNR) (F:= [N4,N8,N2,N1,R]) Tryz.func106 U U (.refl _) (by simp) U ?_ ?_)
 ·rintro _ _ ⟨e,rfl,rfl,he2⟩
  show At _ _ _ [N4,N8,N2,N1,R] _
  refine aY ((bW (bJ (bH (cK (cP (L1:= []) (.refl _) aJ ?_))))))
  exact⟨e,rfl,rfl,hin.trans (by simp only [hdA,eb,e_pa,e_om,e_co,e_st,e_tx,he2])⟩
 rintro _ _ ⟨Nq,x_rc,rfl,rfl,e_rc,l_rc,hp⟩
 show At _ _ _ [Nq,N4,N8,N2,N1,R] _
 refine aD aE fl44_4 U U ?_
 refine aF cL sz40 U U U (by rw [bL];exact l_st) (all8x2 _) B4 (by rw [HdM.len k,bL,l_st];exact show 0+85+32≤556 by decide) sel1 (fun N4 B4=>?_)
 erw [hd_st k l_st]at B4;have k:=ok_st k l_st
 refine aD aE fl44_5 U U ?_
 refine aF cL sz40 U U U (by rw [bL];exact l_tx) (all8x2 _) B4 (by rw [HdM.len k,bL,l_tx];exact show 0+117+32≤556 by decide) dB (fun N4 B4=>?_)
 erw [hd_tx k l_tx]at B4;have k:=ok_tx k l_tx
 refine aD aE fl44_6 U U ?_
 refine aF cL sz40 U U U (by rw [bL];exact l_rc) (all8x2 _) B4 (by rw [HdM.len k,bL,l_rc];exact show 0+149+32≤556 by decide) dB (fun N4 B4=>?_)
 erw [hd_rc k l_rc]at B4;have k:=ok_rc k l_rc
 refine aB (s_5 (aC fun _ s_6=>At.drawnR [R] [1,7,9] [4] [0,4,1,2,3,6,5,7,8,9] (by kernel_rfl) (by kernel_rfl) (.cons _ (.cons _ (.cons _ (.cons _ (.cons _ (.refl _)))))) (by repeat first|exact PanOK.body|apply PanOK.then|apply PanOK.inB) ?_))
 refine aP (nxrf U U U) U U (aP (nxrf U U U) U U (aG (aG (aG (aG (aL (aG (op_callR U (.cons U (.cons U .nil)) ((FFixed_p (k:=256) hp).liftB hNR) (F:= [N4,N8,N2,N1,R]) (Lst':= [R]) Tryz.func107 U U (.refl _) (by simp) U (.refl _) (.cons _ (.cons _ (.cons _ (.cons _ (.refl _))))) ?_ ?_))))))))
 ·rintro _ _ ⟨e,rfl,rfl,he2⟩
  show At _ _ _ [N4,N8,N2,N1,R] _
  refine aY ((bW (bJ (bH (cK (cP (L1:= []) (.refl _) aJ ?_))))))
  exact⟨e,rfl,rfl,hin.trans (by simp only [hdA,eb,e_pa,e_om,e_co,e_st,e_tx,e_rc,he2])⟩
 rintro _ _ ⟨Nq,a_bl,c_bl,x_bl,rfl,rfl,e_bl,l_bl,hp,r_bl⟩
 show At _ _ _ [Nq,N4,N8,N2,N1,R] _
 have r_bl:=r_bl.le hNR;obtain⟨T_bl,O_bl,rfl,q_bl⟩:=r_bl.2.2.2 (by omega)
 refine op_toArr (nxrf U U U) ae41 U (by omega) U ?_
 refine op_loadAgg (nxrf U U U) ag41 U q_bl (by rw [bL];exact l_bl) bI U ?_
 refine aD (nxrf U U U) fl44_7 U U (op_callR U (.cons U .nil) ((FWord_p hp).liftB hNR) (F:= [N4,N8,N2,N1,R]) (Lst':= [R]) Tryz.func88 U U (.refl _) (by simp) U (.refl _) (.cons _ (.cons _ (.cons _ (.cons _ (.refl _))))) ?_ ?_)
 ·rintro _ _ ⟨e,rfl,rfl,he2⟩
  show At _ _ _ [N4,N8,N2,N1,R] _
  refine aY ((bW (bJ (bH (cK (cP (L1:= []) (.refl _) aJ ?_))))))
  exact⟨e,rfl,rfl,hin.trans (by simp only [hdA,eb,e_pa,e_om,e_co,e_st,e_tx,e_rc,e_bl,he2])⟩
 rintro _ _ ⟨Nq,x_df,rfl,rfl,e_df,l_df,hp⟩
 show At _ _ _ [Nq,N4,N8,N2,N1,R] _
 refine aF (nxrs U U U U) sz41 U U U (by rw [bL];exact l_bl) (all8x2 _) B4 (by rw [HdM.len k,bL,l_bl];exact show 0+181+256≤556 by decide) sel1 (fun N4 B4=>?_)
 erw [hd_bl k l_bl]at B4;have k:=ok_bl k l_bl
 refine At.anyR (.refl _) (aD (nxrf U U U) fl44_8 U U ?_)
 refine aF (nxrl U U U U) sz26 U U U U U B4 (by rw [HdM.len k];exact show 0+437+4≤556 by decide) dB (fun N4 B4=>?_)
 erw [hd_df k]at B4;have k:=ok_df k l_df
 refine At.rNil (aI (s_6 (aC fun _ s_7=>aA (aH U U (aG (aG (aG (aG (aL (aG (bM (.cons U .nil) ((F64_p hp).liftB hNR) (F:= [N4,N8,N2,N1,R]) Tryz.func58 U U (.refl _) (by simp) U ?_ ?_)))))))))))
 ·rintro _ _ ⟨e,rfl,rfl,he2⟩
  show At _ _ _ [N4,N8,N2,N1,R] _
  refine aY ((bW (bJ (bH (cK (cP (L1:= []) (.refl _) aJ ?_))))))
  exact⟨e,rfl,rfl,hin.trans (by simp only [hdA,eb,e_pa,e_om,e_co,e_st,e_tx,e_rc,e_bl,e_df,he2])⟩
 rintro _ _ ⟨Nq,x_nu,rfl,rfl,e_nu,hp⟩
 show At _ _ _ [Nq,N4,N8,N2,N1,R] _
 refine aH U U (bM (.cons U .nil) ((F64_p hp).liftB hNR) (F:= [N4,N8,N2,N1,R]) Tryz.func58 U U (.refl _) (by simp) U ?_ ?_)
 ·rintro _ _ ⟨e,rfl,rfl,he2⟩
  show At _ _ _ [N4,N8,N2,N1,R] _
  refine aY ((bW (bJ (bH (cK (cP (L1:= []) (.refl _) aJ ?_))))))
  exact⟨e,rfl,rfl,hin.trans (by simp only [hdA,eb,e_pa,e_om,e_co,e_st,e_tx,e_rc,e_bl,e_df,e_nu,he2])⟩
 rintro _ _ ⟨Nq,x_gl,rfl,rfl,e_gl,hp⟩
 show At _ _ _ [Nq,N4,N8,N2,N1,R] _
 refine aH U U (bM (.cons U .nil) ((F64_p hp).liftB hNR) (F:= [N4,N8,N2,N1,R]) Tryz.func58 U U (.refl _) (by simp) U ?_ ?_)
 ·rintro _ _ ⟨e,rfl,rfl,he2⟩
  show At _ _ _ [N4,N8,N2,N1,R] _
  refine aY ((bW (bJ (bH (cK (cP (L1:= []) (.refl _) aJ ?_))))))
  exact⟨e,rfl,rfl,hin.trans (by simp only [hdA,eb,e_pa,e_om,e_co,e_st,e_tx,e_rc,e_bl,e_df,e_nu,e_gl,he2])⟩
 rintro _ _ ⟨Nq,x_gu,rfl,rfl,e_gu,hp⟩
 show At _ _ _ [Nq,N4,N8,N2,N1,R] _
 refine aH U U (bM (.cons U .nil) ((F64_p hp).liftB hNR) (F:= [N4,N8,N2,N1,R]) Tryz.func58 U U (.refl _) (by simp) U ?_ ?_)
 ·rintro _ _ ⟨e,rfl,rfl,he2⟩
  show At _ _ _ [N4,N8,N2,N1,R] _
  refine aY ((bW (bJ (bH (cK (cP (L1:= []) (.refl _) aJ ?_))))))
  exact⟨e,rfl,rfl,hin.trans (by simp only [hdA,eb,e_pa,e_om,e_co,e_st,e_tx,e_rc,e_bl,e_df,e_nu,e_gl,e_gu,he2])⟩
 rintro _ _ ⟨Nq,x_ti,rfl,rfl,e_ti,hp⟩
 show At _ _ _ [Nq,N4,N8,N2,N1,R] _
 refine aD aE fl44_9 U U ?_
 refine aF cL sz24 U U U U U B4 (by rw [HdM.len k];exact show 0+441+1≤556 by decide) sel1 (fun N4 B4=>?_)
 erw [hd_nu k]at B4;have k:=ok_nu (u:=x_nu) k
 refine aD aE fl44_10 U U ?_
 refine aF cL sz24 U U U U U B4 (by rw [HdM.len k];exact show 0+442+1≤556 by decide) dB (fun N4 B4=>?_)
 erw [hd_gl k]at B4;have k:=ok_gl (u:=x_gl) k
 refine aD aE fl44_11 U U ?_
 refine aF cL sz24 U U U U U B4 (by rw [HdM.len k];exact show 0+443+1≤556 by decide) dB (fun N4 B4=>?_)
 erw [hd_gu k]at B4;have k:=ok_gu (u:=x_gu) k
 refine aD aE fl44_12 U U ?_
 refine aF cL sz24 U U U U U B4 (by rw [HdM.len k];exact show 0+444+1≤556 by decide) dB (fun N4 B4=>?_)
 erw [hd_ti k]at B4;have k:=ok_ti (u:=x_ti) k
 refine aB (s_7 (aC fun _ s_8=>At.drawnR [R] [1,13] [2,4] [0,2,4,1,8,3,5,6,7,9,10,11,12,13] (by kernel_rfl) (by kernel_rfl) (.cons _ (.cons _ (.cons _ (.cons _ (.cons _ (.refl _)))))) (by repeat first|exact PanOK.body|apply PanOK.then|apply PanOK.inB) ?_))
 refine aP (nxrf U U U) U U (aP (nxrf U U U) U U (aP (nxrf U U U) U U (aG (aG (aG (aG (aL (aG (op_callR U (.cons U .nil) ((FBytes_x hp).liftB hNR) (F:= [N4,N8,N2,N1,R]) (Lst':= [R]) Tryz.func90 U U (.refl _) (by simp) U (.refl _) (.cons _ (.cons _ (.cons _ (.cons _ (.refl _))))) ?_ ?_)))))))))
 ·rintro _ _ ⟨e,rfl,rfl,he2⟩
  show At _ _ _ [N4,N8,N2,N1,R] _
  refine aY ((bW (bJ (bH (cK (cP (L1:= []) (.refl _) aJ ?_))))))
  exact⟨e,rfl,rfl,hin.trans (by simp only [hdA,eb,e_pa,e_om,e_co,e_st,e_tx,e_rc,e_bl,e_df,e_nu,e_gl,e_gu,e_ti,he2])⟩
 rintro _ _ ⟨Nq,ea,ec,x_ex,rfl,rfl,e_ex,hp,r_ex,w1,w2,w3⟩
 show At _ _ _ [Nq,N4,N8,N2,N1,R] _
 refine aD (nxrf U U U) fl44_13 U U (op_callR U (.cons U .nil) ((FHash_p hp).liftB hNR) (F:= [N4,N8,N2,N1,R]) (Lst':= [R]) Tryz.func106 U U (.refl _) (by simp) U (.refl _) (.cons _ (.cons _ (.cons _ (.cons _ (.refl _))))) ?_ ?_)
 ·rintro _ _ ⟨e,rfl,rfl,he2⟩
  show At _ _ _ [N4,N8,N2,N1,R] _
  refine aY ((bW (bJ (bH (cK (cP (L1:= []) (.refl _) aJ ?_))))))
  exact⟨e,rfl,rfl,hin.trans (by simp only [hdA,eb,e_pa,e_om,e_co,e_st,e_tx,e_rc,e_bl,e_df,e_nu,e_gl,e_gu,e_ti,e_ex,he2])⟩
 rintro _ _ ⟨Nq,x_mx,rfl,rfl,e_mx,l_mx,hp⟩
 show At _ _ _ [Nq,N4,N8,N2,N1,R] _
 refine op_callR U (.cons U (.cons U .nil)) ((FFixed_p (k:=8) hp).liftB hNR) (F:= [N4,N8,N2,N1,R]) (Lst':= [R]) Tryz.func107 U U (.refl _) (by simp) U (.refl _) (.cons _ (.cons _ (.cons _ (.cons _ (.refl _))))) ?_ ?_
 ·rintro _ _ ⟨e,rfl,rfl,he2⟩
  show At _ _ _ [N4,N8,N2,N1,R] _
  refine aY ((bW (bJ (bH (cK (cP (L1:= []) (.refl _) aJ ?_))))))
  exact⟨e,rfl,rfl,hin.trans (by simp only [hdA,eb,e_pa,e_om,e_co,e_st,e_tx,e_rc,e_bl,e_df,e_nu,e_gl,e_gu,e_ti,e_ex,e_mx,he2])⟩
 rintro _ _ ⟨Nq,a_no,c_no,x_no,rfl,rfl,e_no,l_no,hp,r_no⟩
 show At _ _ _ [Nq,N4,N8,N2,N1,R] _
 have r_no:=r_no.le hNR;obtain⟨T_no,O_no,rfl,q_no⟩:=r_no.2.2.2 (by omega)
 refine op_toArr (nxrf U U U) ae42 U (by omega) U ?_
 refine op_loadAgg (nxrf U U U) ag42 U q_no (by rw [bL];exact l_no) bI U ?_
 refine aF (nxrm U U U) sz22 U U U U U B4 (by rw [HdM.len k];exact show 0+445+1≤556 by decide) sel1 (fun N4 B4=>?_)
 erw [hd_ex (x:=x_ex) k]at B4;have k:=ok_ex (x:=x_ex) k
 refine At.moreR (Lst:= [R]) (Lst':= [R]) (.refl _) (.cons _ (.cons _ (.cons _ (.cons _ (.cons _ (.refl _)))))) (aD (nxrf U U U) fl44_14 U U ?_)
 refine aF (nxrm U U U) sz40 U U U (by rw [bL];exact l_mx) (all8x2 _) B4 (by rw [HdM.len k,bL,l_mx];exact show 0+446+32≤556 by decide) dB (fun N4 B4=>?_)
 erw [hd_mx k l_mx]at B4;have k:=ok_mx k l_mx
 refine At.moreR (Lst:= [R]) (Lst':= [R]) (.refl _) (.cons _ (.cons _ (.cons _ (.cons _ (.cons _ (.refl _)))))) (aD (nxrf U U U) fl44_15 U U ?_)
 refine aF (nxrl U U U U) sz42 U U U (by rw [bL];exact l_no) (all8x2 _) B4 (by rw [HdM.len k,bL,l_no];exact show 0+478+8≤556 by decide) dB (fun N4 B4=>?_)
 erw [hd_no k l_no]at B4;have k:=ok_no k l_no
 refine At.rNil (aI (s_8 (aC fun _ s_9=>aC fun _ s_10=>aA (aD aE fl44_0 U U (aK aE sc3 U B4 (hd_fi k) bI U (op_gtr aE U U U (aB (s_10 (aQ U (fun c62=>?_) (fun c62=>?_))))))))))
 ·refine c4 (d:=62) U c62 ?_
  obtain⟨t15,r,rfl⟩: ∃a l,r=a::l:=by cases r with|nil=>exact absurd c62 (by simp)|cons a b=>exact⟨a,b,rfl⟩
  obtain⟨z15,zr,rfl⟩: ∃a l,zr=a::l:=by cases zr with|nil=>exact absurd hzl (by simp)|cons a b=>exact⟨a,b,rfl⟩
  refine aA (aH U U (aG (aG (aG (aG (aL (aG (bM (.cons U .nil) ((FWord_p hp).liftB hNR) (F:= [N4,N8,N2,N1,R]) Tryz.func88 U U (.refl _) (by simp) U ?_ ?_))))))))
  ·rintro _ _ ⟨e,rfl,rfl,he2⟩
   show At _ _ _ [N4,N8,N2,N1,R] _
   refine aY ((bW (bJ (bH (cK (cP (L1:= []) (.refl _) aJ ?_))))))
   exact⟨e,rfl,rfl,hin.trans (by simp only [hdA,eb,e_pa,e_om,e_co,e_st,e_tx,e_rc,e_bl,e_df,e_nu,e_gl,e_gu,e_ti,e_ex,e_mx,e_no,hdR,hdR2,hdR3,he2])⟩
  rintro _ _ ⟨Nq,x_bf,rfl,rfl,e_bf,l_bf,hp⟩
  show At _ _ _ [Nq,N4,N8,N2,N1,R] _
  refine aD aE fl44_16 U U ?_
  refine aF cL sz26 U U U U U B4 (by rw [HdM.len k];exact show 0+486+4≤556 by decide) sel1 (fun N4 B4=>?_)
  erw [hd_bf k]at B4;have k:=ok_bf k l_bf
  refine aB (s_9 (aC fun _ s_11=>aC fun _ s_12=>aA (aD aE fl44_0 U U (aK aE sc3 U B4 (hd_fi k) bI U (op_gtr aE U U U (aB (s_12 (aQ U (fun c68=>?_) (fun c68=>?_)))))))))
  ·refine c4 (d:=68) U c68 ?_
   obtain⟨t16,r,rfl⟩: ∃a l,r=a::l:=by cases r with|nil=>exact absurd c68 (by simp)|cons a b=>exact⟨a,b,rfl⟩
   obtain⟨z16,zr,rfl⟩: ∃a l,zr=a::l:=by cases zr with|nil=>exact absurd hzl (by simp)|cons a b=>exact⟨a,b,rfl⟩
   refine aA (aH U U (aG (aG (aG (aG (aL (aG (bM (.cons U .nil) ((FHash_p hp).liftB hNR) (F:= [N4,N8,N2,N1,R]) Tryz.func106 U U (.refl _) (by simp) U ?_ ?_))))))))
   ·rintro _ _ ⟨e,rfl,rfl,he2⟩
    show At _ _ _ [N4,N8,N2,N1,R] _
    refine aY ((bW (bJ (bH (cK (cP (L1:= []) (.refl _) aJ ?_))))))
    exact⟨e,rfl,rfl,hin.trans (by simp only [hdA,eb,e_pa,e_om,e_co,e_st,e_tx,e_rc,e_bl,e_df,e_nu,e_gl,e_gu,e_ti,e_ex,e_mx,e_no,hdR,hdR2,hdR3,e_bf,he2])⟩
   rintro _ _ ⟨Nq,x_wd,rfl,rfl,e_wd,l_wd,hp⟩
   show At _ _ _ [Nq,N4,N8,N2,N1,R] _
   refine aD aE fl44_17 U U ?_
   refine aF cL sz40 U U U (by rw [bL];exact l_wd) (all8x2 _) B4 (by rw [HdM.len k,bL,l_wd];exact show 0+490+32≤556 by decide) sel1 (fun N4 B4=>?_)
   erw [hd_wd k l_wd]at B4;have k:=ok_wd k l_wd
   refine aB (s_11 (aC fun _ s_13=>aC fun _ s_14=>aA (aD aE fl44_0 U U (aK aE sc3 U B4 (hd_fi k) bI U (op_gtr aE U U U (aB (s_14 (aQ U (fun c74=>?_) (fun c74=>?_)))))))))
   ·refine c4 (d:=74) U c74 ?_
    obtain⟨t17,t18,t19,rfl⟩:=three_of (l:=r) (by simp only [List.length_cons]at hrl c74;omega)
    obtain⟨z17,z18,z19,rfl⟩:=three_of (l:=zr) (by simp only [List.length_cons,List.length_nil]at hzl;omega)
    refine aA (aH U U (aG (aG (aG (aG (aL (aG (bM (.cons U .nil) ((F64_p hp).liftB hNR) (F:= [N4,N8,N2,N1,R]) Tryz.func58 U U (.refl _) (by simp) U ?_ ?_))))))))
    ·rintro _ _ ⟨e,rfl,rfl,he2⟩
     show At _ _ _ [N4,N8,N2,N1,R] _
     refine aY ((bW (bJ (bH (cK (cP (L1:= []) (.refl _) aJ ?_))))))
     exact⟨e,rfl,rfl,hin.trans (by simp only [hdA,eb,e_pa,e_om,e_co,e_st,e_tx,e_rc,e_bl,e_df,e_nu,e_gl,e_gu,e_ti,e_ex,e_mx,e_no,hdR,hdR2,hdR3,e_bf,e_wd,he2])⟩
    rintro _ _ ⟨Nq,x_bg,rfl,rfl,e_bg,hp⟩
    show At _ _ _ [Nq,N4,N8,N2,N1,R] _
    refine aH U U (bM (.cons U .nil) ((F64_p hp).liftB hNR) (F:= [N4,N8,N2,N1,R]) Tryz.func58 U U (.refl _) (by simp) U ?_ ?_)
    ·rintro _ _ ⟨e,rfl,rfl,he2⟩
     show At _ _ _ [N4,N8,N2,N1,R] _
     refine aY ((bW (bJ (bH (cK (cP (L1:= []) (.refl _) aJ ?_))))))
     exact⟨e,rfl,rfl,hin.trans (by simp only [hdA,eb,e_pa,e_om,e_co,e_st,e_tx,e_rc,e_bl,e_df,e_nu,e_gl,e_gu,e_ti,e_ex,e_mx,e_no,hdR,hdR2,hdR3,e_bf,e_wd,e_bg,he2])⟩
    rintro _ _ ⟨Nq,x_xs,rfl,rfl,e_xs,hp⟩
    show At _ _ _ [Nq,N4,N8,N2,N1,R] _
    refine aH U U (bM (.cons U .nil) ((FHash_p hp).liftB hNR) (F:= [N4,N8,N2,N1,R]) Tryz.func106 U U (.refl _) (by simp) U ?_ ?_)
    ·rintro _ _ ⟨e,rfl,rfl,he2⟩
     show At _ _ _ [N4,N8,N2,N1,R] _
     refine aY ((bW (bJ (bH (cK (cP (L1:= []) (.refl _) aJ ?_))))))
     exact⟨e,rfl,rfl,hin.trans (by simp only [hdA,eb,e_pa,e_om,e_co,e_st,e_tx,e_rc,e_bl,e_df,e_nu,e_gl,e_gu,e_ti,e_ex,e_mx,e_no,hdR,hdR2,hdR3,e_bf,e_wd,e_bg,e_xs,he2])⟩
    rintro _ _ ⟨Nq,x_be,rfl,rfl,e_be,l_be,hp⟩
    show At _ _ _ [Nq,N4,N8,N2,N1,R] _
    refine aD aE fl44_18 U U ?_
    refine aF cL sz24 U U U U U B4 (by rw [HdM.len k];exact show 0+522+1≤556 by decide) sel1 (fun N4 B4=>?_)
    erw [hd_bg k]at B4;have k:=ok_bg (u:=x_bg) k
    refine aD aE fl44_19 U U ?_
    refine aF cL sz24 U U U U U B4 (by rw [HdM.len k];exact show 0+523+1≤556 by decide) dB (fun N4 B4=>?_)
    erw [hd_xs k]at B4;have k:=ok_xs (u:=x_xs) k
    refine aD aE fl44_20 U U ?_
    refine aF cL sz40 U U U (by rw [bL];exact l_be) (all8x2 _) B4 (by rw [HdM.len k,bL,l_be];exact show 0+524+32≤556 by decide) dB (fun N4 B4=>?_)
    erw [hd_be k l_be]at B4;have k:=ok_be k l_be
    refine aB (s_13 (aC fun _ s_15=>aA (aV (ds:=_) aE ag44 U B4 (by exact bY (HdM.len k _)) (by exact HdM.len k _) bI U ?_)))
    refine aF cL sz44 U U U (HdM.len k _) (HdM.one U) B2 (by rw [cY,HdM.len k];exact Nat.le_refl _) sel3 (fun N2 B2=>?_)
    rw [bG (by rw [cY,HdM.len k])]at B2
    refine aB (s_15 (a0 ((At.retX (dH (bW (bJ (bH (cI (L1:= []) U (.cell U (bQ (ds:=_) ag44 B2 (bY (HdM.len k _)) (HdM.len k _) bI) .nil) (.cons _ (.refl _)) aJ ?_)))))))))
    exact⟨_,_,_,rfl,rfl,hin.trans (by simp only [hdA,eb,hdR,hdR2,hdR3,e_pa,e_om,e_co,e_st,e_tx,e_rc,e_bl,e_df,e_nu,e_gl,e_gu,e_ti,e_ex,e_mx,e_no,e_bf,e_wd,e_bg,e_xs,e_be]<;>rfl),k,.inr (.inr (.inr rfl)),⟨ea,ec,rfl,r_ex,12,z12,rfl,by rw [slB,w1,w2,w3]⟩,hzs⟩
   refine cT (d:=74) U c74 ?_
   try obtain rfl:r= []:=List.length_eq_zero_iff.1 (by simp only [List.length_cons]at c74;omega)
   refine aT (aI (s_13 (aC fun _ s_16=>aA (aV (ds:=_) aE ag44 U B4 (by exact bY (HdM.len k _)) (by exact HdM.len k _) bI U ?_))))
   refine aF cL sz44 U U U (HdM.len k _) (HdM.one U) B2 (by rw [cY,HdM.len k];exact Nat.le_refl _) sel3 (fun N2 B2=>?_)
   rw [bG (by rw [cY,HdM.len k])]at B2
   refine aB (s_16 (a0 ((At.retX (dH (bW (bJ (bH (cI (L1:= []) U (.cell U (bQ (ds:=_) ag44 B2 (bY (HdM.len k _)) (HdM.len k _) bI) .nil) (.cons _ (.refl _)) aJ ?_)))))))))
   exact⟨_,_,_,rfl,rfl,hin.trans (by simp only [hdA,eb,hdR,hdR2,hdR3,e_pa,e_om,e_co,e_st,e_tx,e_rc,e_bl,e_df,e_nu,e_gl,e_gu,e_ti,e_ex,e_mx,e_no,e_bf,e_wd]<;>rfl),k,.inr (.inr (.inl rfl)),⟨ea,ec,rfl,r_ex,12,z12,rfl,by rw [slB,w1,w2,w3]⟩,hzs⟩
  refine cT (d:=68) U c68 ?_
  try obtain rfl:r= []:=List.length_eq_zero_iff.1 (by simp only [List.length_cons]at c68;omega)
  refine aT (aI (s_11 (aC fun _ s_17=>aC fun _ s_18=>aA (aD aE fl44_0 U U (aK aE sc3 U B4 (hd_fi k) bI U (op_gtr aE U U U (aB (s_18 (aQ U (fun c74=>?_) (fun c74=>?_))))))))))
  ·exact absurd c74 (by simp)
  refine cT (d:=74) U c74 ?_
  try obtain rfl:r= []:=List.length_eq_zero_iff.1 (by simp only [List.length_cons]at c74;omega)
  refine aT (aI (s_17 (aC fun _ s_19=>aA (aV (ds:=_) aE ag44 U B4 (by exact bY (HdM.len k _)) (by exact HdM.len k _) bI U ?_))))
  refine aF cL sz44 U U U (HdM.len k _) (HdM.one U) B2 (by rw [cY,HdM.len k];exact Nat.le_refl _) sel3 (fun N2 B2=>?_)
  rw [bG (by rw [cY,HdM.len k])]at B2
  refine aB (s_19 (a0 ((At.retX (dH (bW (bJ (bH (cI (L1:= []) U (.cell U (bQ (ds:=_) ag44 B2 (bY (HdM.len k _)) (HdM.len k _) bI) .nil) (.cons _ (.refl _)) aJ ?_)))))))))
  exact⟨_,_,_,rfl,rfl,hin.trans (by simp only [hdA,eb,hdR,hdR2,hdR3,e_pa,e_om,e_co,e_st,e_tx,e_rc,e_bl,e_df,e_nu,e_gl,e_gu,e_ti,e_ex,e_mx,e_no,e_bf]<;>rfl),k,.inr (.inl rfl),⟨ea,ec,rfl,r_ex,12,z12,rfl,by rw [slB,w1,w2,w3]⟩,hzs⟩
 refine cT (d:=62) U c62 ?_
 obtain rfl:r= []:=List.length_eq_zero_iff.1 (by omega)
 refine aT (aI (s_9 (aC fun _ s_20=>aC fun _ s_21=>aA (aD aE fl44_0 U U (aK aE sc3 U B4 (hd_fi k) bI U (op_gtr aE U U U (aB (s_21 (aQ U (fun c68=>?_) (fun c68=>?_))))))))))
 ·exact absurd c68 (by simp)
 refine cT (d:=68) U c68 ?_
 try obtain rfl:r= []:=List.length_eq_zero_iff.1 (by simp only [List.length_cons]at c68;omega)
 refine aT (aI (s_20 (aC fun _ s_22=>aC fun _ s_23=>aA (aD aE fl44_0 U U (aK aE sc3 U B4 (hd_fi k) bI U (op_gtr aE U U U (aB (s_23 (aQ U (fun c74=>?_) (fun c74=>?_))))))))))
 ·exact absurd c74 (by simp)
 refine cT (d:=74) U c74 ?_
 try obtain rfl:r= []:=List.length_eq_zero_iff.1 (by simp only [List.length_cons]at c74;omega)
 refine aT (aI (s_22 (aC fun _ s_24=>aA (aV (ds:=_) aE ag44 U B4 (by exact bY (HdM.len k _)) (by exact HdM.len k _) bI U ?_))))
 refine aF cL sz44 U U U (HdM.len k _) (HdM.one U) B2 (by rw [cY,HdM.len k];exact Nat.le_refl _) sel3 (fun N2 B2=>?_)
 rw [bG (by rw [cY,HdM.len k])]at B2
 refine aB (s_24 (a0 ((At.retX (dH (bW (bJ (bH (cI (L1:= []) U (.cell U (bQ (ds:=_) ag44 B2 (bY (HdM.len k _)) (HdM.len k _) bI) .nil) (.cons _ (.refl _)) aJ ?_)))))))))
 exact⟨_,_,_,rfl,rfl,hin.trans (by simp only [hdA,eb,hdR,hdR2,hdR3,e_pa,e_om,e_co,e_st,e_tx,e_rc,e_bl,e_df,e_nu,e_gl,e_gu,e_ti,e_ex,e_mx,e_no]<;>rfl),k,.inl rfl,⟨ea,ec,rfl,r_ex,12,z12,rfl,by rw [slB,w1,w2,w3]⟩,hzs⟩
end
end Go.Proofs.YtjfagifjajielaaGreat
