/- Several texts in one: see the remarks ahead of each part. No condition but those told there. -/
import Derived.Test.YtjfagifjajielaaGreatU18
import Derived.Test.YtjfagifjajielaaGreatU21
import Derived.Test.YtjfagifjajielaaGreatU13
set_option linter.unusedSimpArgs false
set_option linter.unusedVariables false
/- Layer 14, the reference: a header is read out of an item. No condition. -/
namespace Go.Proofs.YtjfagifjajielaaGreat
open Go Go.RowKit
set_option maxRecDepth 100000
/-- What a sticky reader is about to tell: T in all, R of what is left. -/
def Inv {α:Type} (E:Nat) (T R:Except Nat α):Prop:=(E=0∧T=R)∨(E≠0∧T=.error E)
theorem Inv.step {α β:Type} {E E':Nat} {T:Except Nat β} {r:Except Nat α} {f:α→Except Nat β} {x:α} (h:Inv E T (eb r f)) (s:Stp E r x E'):Inv E' T (f x):=by
 rcases h with ⟨h0,h⟩|⟨h0,h⟩
 ·rcases s with ⟨s1,s2⟩|⟨e,s1,s2,s3⟩
  ·exact .inl ⟨s2.trans h0,by rw [h,s1];rfl⟩
  ·rw [if_pos h0]at s3
   exact .inr ⟨by rw [s3];exact s2,by rw [h,s1,s3];rfl⟩
 ·have e:E'=E:=by
   rcases s with ⟨_,s2⟩|⟨e,_,_,s3⟩
   ·exact s2
   ·rw [if_neg h0]at s3;exact s3
  rw [e];exact .inr ⟨h0,h⟩
theorem Inv.ok {α:Type} {E:Nat} {T R:Except Nat α} (h:Inv E T R) (he:E=0):T=R:=by
 rcases h with ⟨_,h⟩|⟨h0,_⟩
 ·exact h
 ·exact absurd he h0
section
variable {v : Value} {i : Nat}
variable {fi : Int} {pa om co st tx rc bl ex mx no wd be : List UInt8} {df bf : Nat} {nu gl gu ti bg xs : UInt64}
end
theorem RFields (n:Int):Fn Tryz.prog 21 #[.int .i64 n] [] [] (fun v L=>v=.bool (decide (okF n))∧L= []):=by
 refine Fn.enter (vs:= [.int .i64 n]) Tryz.func21 rfl rfl rfl ?_
 intro E R hR
 change At _ _ E [R] _
 refine At.seq fun _ s_1=>At.region (aD (aC rfl) rfl rfl (aA (aB (s_1 (At.seq fun _ s_2=>At.region (aE (aC rfl) rfl rfl (op_eql (aC rfl) rfl rfl rfl (aE (aC rfl) rfl rfl (At.partP (d:=5) rfl (fun g5=>?_) (fun g5=>?_))))))))))
 ·refine aN rfl rfl rfl rfl rfl rfl rfl (aN rfl rfl rfl rfl rfl rfl rfl (bN (aC rfl) rfl rfl rfl (aE (aC rfl) rfl rfl (aN rfl rfl rfl rfl rfl rfl rfl (aN rfl rfl rfl rfl rfl rfl rfl (bN (aC rfl) rfl rfl rfl (aE (aC rfl) rfl rfl (aN rfl rfl rfl rfl rfl rfl rfl (aN rfl rfl rfl rfl rfl rfl rfl (bN (aC rfl) rfl rfl rfl (aD (aC rfl) rfl rfl (aA (aB (s_2 (At.ret ((aW (L1:= []) rfl (.tmp rfl .nil) (.refl _) (.refl _) ?_)))))))))))))))))
  exact⟨by congr 1;symm;first|(rw [decide_eq_true_iff];unfold okF;omega)|(rw [Bool.eq_iff_iff,decide_eq_true_iff,decide_eq_true_iff];unfold okF;omega),rfl⟩
 refine aE (bF rfl rfl rfl rfl) rfl rfl (op_eql (bF rfl rfl rfl rfl) rfl rfl rfl (op_pickF (aC rfl) rfl rfl rfl (aE (aC rfl) rfl rfl (At.partP (d:=9) rfl (fun g9=>?_) (fun g9=>?_)))))
 ·refine aN rfl rfl rfl rfl rfl rfl rfl (aN rfl rfl rfl rfl rfl rfl rfl (bN (aC rfl) rfl rfl rfl (aE (aC rfl) rfl rfl (aN rfl rfl rfl rfl rfl rfl rfl (aN rfl rfl rfl rfl rfl rfl rfl (bN (aC rfl) rfl rfl rfl (aD (aC rfl) rfl rfl (aA (aB (s_2 (At.ret ((aW (L1:= []) rfl (.tmp rfl .nil) (.refl _) (.refl _) ?_)))))))))))))
  exact⟨by congr 1;symm;first|(rw [decide_eq_true_iff];unfold okF;omega)|(rw [Bool.eq_iff_iff,decide_eq_true_iff,decide_eq_true_iff];unfold okF;omega),rfl⟩
 refine aE (bF rfl rfl rfl rfl) rfl rfl (op_eql (bF rfl rfl rfl rfl) rfl rfl rfl (op_pickF (aC rfl) rfl rfl rfl (aE (aC rfl) rfl rfl (At.partP (d:=13) rfl (fun g13=>?_) (fun g13=>?_)))))
 ·refine aN rfl rfl rfl rfl rfl rfl rfl (aN rfl rfl rfl rfl rfl rfl rfl (bN (aC rfl) rfl rfl rfl (aD (aC rfl) rfl rfl (aA (aB (s_2 (At.ret ((aW (L1:= []) rfl (.tmp rfl .nil) (.refl _) (.refl _) ?_)))))))))
  exact⟨by congr 1;symm;first|(rw [decide_eq_true_iff];unfold okF;omega)|(rw [Bool.eq_iff_iff,decide_eq_true_iff,decide_eq_true_iff];unfold okF;omega),rfl⟩
 refine aE (bF rfl rfl rfl rfl) rfl rfl (op_eql (bF rfl rfl rfl rfl) rfl rfl rfl (op_pickF (aC rfl) rfl rfl rfl (aD (aC rfl) rfl rfl (aA (aB (s_2 (At.ret ((aW (L1:= []) rfl (.tmp rfl .nil) (.refl _) (.refl _) ?_)))))))))
 exact⟨by congr 1;symm;first|(rw [decide_eq_true_iff];unfold okF;omega)|(rw [Bool.eq_iff_iff,decide_eq_true_iff,decide_eq_true_iff];unfold okF;omega),rfl⟩
/-- What toHeader tells. -/
def RHdP (NI:Heaplet) (t:It) (v:Value) (L:List Heaplet):Prop:=
 (∃M h v1,hdE t=.ok h∧v=.tuple #[.agg (h.cells v1).toArray,.int .i64 0]∧L= [M]∧h.Ok∧okF h.fi∧ ∃ea ec,v1=.slice ea h.ex.length ec∧ ∀J:Heaplet,M.le J→NI.le J→RSl J 1 ea h.ex.length ec (u8s h.ex))∨
 (∃e:Nat,hdE t=.error e∧v=.tuple #[.agg z44.toArray,.int .i64 (e:Int)]∧e≠0∧L= [nilH])
section
variable {NI : Heaplet} {t : It} {x : IV}
end
end Go.Proofs.YtjfagifjajielaaGreat
/- Layer 14: a header is read out of bytes. No condition but that bytes are not longer than a machine holds. -/
namespace Go.Proofs.YtjfagifjajielaaGreat
open Go Go.RowKit
set_option maxRecDepth 100000
def readHdE (b:List UInt8):Except Nat HdM:=eb (decodeF b) hdE
def ReadHdP (b:List UInt8) (v:Value) (L:List Heaplet):Prop:=
 (∃e:Nat,e≠0∧v=.tuple #[.agg z44.toArray,.int .i64 (e:Int)]∧L= []∧readHdE b=.error e)∨
 (∃NI h v1 t zs,v=.tuple #[.agg (h.cells v1).toArray,.int .i64 0]∧L= [NI]∧readHdE b=.ok h∧h.Ok∧okF h.fi∧HdS zs NI h v1∧ItemO NI t zs)
theorem hdR_ne (h:HdM) (its:List It): ∀e,hdR h its=.error e→e≠0:=by
 unfold hdR
 split
 ·exact ok_ne
 ·refine eb_ne wordE_ne fun _=>?_
  unfold hdR2
  split
  ·exact ok_ne
  ·refine eb_ne fixE_ne fun _=>?_
   unfold hdR3
   split
   ·exact ok_ne
   ·exact eb_ne n64E_ne fun _=>eb_ne n64E_ne fun _=>eb_ne fixE_ne fun _=>ok_ne
   ·exact er_ne (by decide)
theorem hdA_ne (its:List It): ∀e,hdA its=.error e→e≠0:=by
 unfold hdA
 split
 ·exact eb_ne fixE_ne fun _=>eb_ne fixE_ne fun _=>eb_ne fixE_ne fun _=>eb_ne fixE_ne fun _=>eb_ne fixE_ne fun _=>eb_ne fixE_ne fun _=>eb_ne fixE_ne fun _=>eb_ne wordE_ne fun _=>eb_ne n64E_ne fun _=>eb_ne n64E_ne fun _=>eb_ne n64E_ne fun _=>eb_ne n64E_ne fun _=>eb_ne strE_ne fun _=>eb_ne fixE_ne fun _=>eb_ne fixE_ne fun _=>hdR_ne _ _
 ·exact er_ne (by decide)
theorem hdE_ne {t:It} : ∀e,hdE t=.error e→e≠0:=eb_ne listE_ne fun _=>if_ne (fun _=>hdA_ne _) fun _=>er_ne (by decide)
section
variable {bt be : Nat} {Nt Ne : Heaplet} {cs : List Value} {x : Value} {e : Int}
end
section
variable {N : Heaplet} {ao : Option Addr} {n cap : Nat} {b : List UInt8}
end
end Go.Proofs.YtjfagifjajielaaGreat
/- Layer 14, the reference: a header is read out of bytes; a transaction's V. No condition but that bytes are not longer than a machine holds. -/
namespace Go.Proofs.YtjfagifjajielaaGreat
open Go Go.RowKit
set_option maxRecDepth 100000
/-- What ReadHeader tells. -/
def RReadHdP (b:List UInt8) (v:Value) (L:List Heaplet):Prop:=
 (∃M h v1,readHdE b=.ok h∧v=.tuple #[.agg (h.cells v1).toArray,.int .i64 0]∧L= [M]∧h.Ok∧okF h.fi∧ ∃ea ec,v1=.slice ea h.ex.length ec∧RSl M 1 ea h.ex.length ec (u8s h.ex))∨
 (∃e:Nat,readHdE b=.error e∧v=.tuple #[.agg z44.toArray,.int .i64 (e:Int)]∧e≠0∧L= [nilH])
section
variable {N : Heaplet} {ao : Option Addr} {n cap : Nat} {b : List UInt8}
end
end Go.Proofs.YtjfagifjajielaaGreat
/- Layer 14: a list is read part by part by a closure, which gives back what it keeps where it gives up; a transaction's bytes in a block. No condition but sizes. -/
namespace Go.Proofs.YtjfagifjajielaaGreat
open Go Go.RowKit
set_option maxRecDepth 100000
section
variable {α : Type} {El : It → Prop} {g : It → Except Nat α} {Inv : List IV → List α → Heaplet → Prop} {z : IV} {zs : List IV} {Np NI NO : Heaplet} {bp : Nat} {t : It} {ts : List It} {f : FuncId} {fn : Func} {caps : List Value} {PInv : Heaplet → Prop}
theorem FEach_q (h:PartsN Np NI bp (z::zs) (t::ts)) (hI:Inv [] [] NO) (hP: ∀ys l N,Inv ys l N→PInv N) {K:Nat} (hK:K≤1099511627776) (hk: ∀its,listE t=.ok its→its.length≤K) (hel: ∀its,listE t=.ok its→ ∀y∈its,El y) (hfn:Tryz.prog.funcs[f]? =some fn) (hb:fn.body.isSome=true) (hne:(fn.name== "runtime.NumGoroutine")=false)
 (hc: ∀(Nq NO:Heaplet) (bq:Nat) (z:IV) (zs ys:List IV) (t:It) (ts:List It) (l:List α),PartsN Nq NI bq (z::zs) (t::ts)→Inv ys l NO→ys.length=l.length→l.length<K→El t→FnE Tryz.prog f ([Value.pointer (some ⟨bq,0,none⟩)]++caps).toArray [Nq,NO] [NI] (fun _ L=> ∃Nq NO a,L= [Nq,NO]∧g t=.ok a∧PartsN Nq NI bq zs ts∧Inv (ys++ [z]) (l++ [a]) NO) (fun v L=> ∃(e:Nat) (NO:Heaplet),v=gaveV e∧L= [NO]∧g t=.error e∧PInv NO)):
 FnE Tryz.prog 53 #[.pointer (some ⟨bp,0,none⟩),.func (.func f) #[] caps.toArray] [Np,NO] [NI] (fun v L=> ∃Np NO l ys,v=.tuple #[]∧L= [Np,NO]∧eachE g t=.ok l∧PartsN Np NI bp zs ts∧Inv ys l NO∧RSl NI 3 z.ai z.ni z.ci (cellsI ys)) (fun v L=> ∃(e:Nat) (NO:Heaplet),v=gaveV e∧L= [NO]∧eachE g t=.error e∧PInv NO):=by
 have h1:=FNext_p h
 refine FnE.enter (vs:= [.pointer (some ⟨bp,0,none⟩),.func (.func f) #[] caps.toArray]) Tryz.func53 rfl rfl rfl ?_
 intro E R hR
 have hNR:=hR NI (by simp)
 have h1:=h1.liftB hNR
 change At _ _ E [Np,NO,R] _
 refine At.seq fun _ s_1=>At.region (aE (aC rfl) rfl rfl (op_call (nxl rfl) (.cons rfl .nil) (h1) (F:= [NO,R]) Tryz.func52 rfl rfl (.refl _) (by simp) rfl ?_))
 rintro v6 L6 ⟨Mp,rfl,rfl,hp,hx⟩
 change At _ _ _ [Mp,NO,R] _
 change At _ ((6,.agg #[.bool z.l,.slice z.ab z.nb z.cb,.slice z.ai z.ni z.ci])::_) _ _ _
 refine op_callE (.cons rfl .nil) ((FOpened_p hx).liftB hNR) (F:= [Mp,NO,R]) Tryz.func33 rfl rfl (.refl _) (by simp) rfl ?_ ?_
 ·rintro v7 L7 ⟨e,rfl,rfl,he⟩
  change At _ _ _ [Mp,NO,R] _
  refine aX ((At.sub (L':= [NO,R]) (.cons _ (.cons_cons _ (.cons_cons _ (.slnil)))) (At.pan (L1:= [NO]) (.refl _) (.refl _) ?_)))
  exact⟨e,NO,rfl,rfl,by simp only [eachE,he],hP _ _ _ hI⟩
 rintro v7 L7 ⟨Nq,bq,its,zq,rfl,rfl,he,hq,hzq⟩
 change At _ _ _ [Nq,Mp,NO,R] _
 have hkl:=hk its he
 refine aD (aC rfl) rfl rfl (aA (aB (s_1 (At.block (At.perm sel3 (At.perm sel2 (At.perm sel3 (At.perm sel3 (At.loop (fun fr_ hp_ ms_=> ∃(done:List α) (rest:List It) (ys zr:List IV) (Nr NS:Heaplet),fr_= [(0,.pointer (some ⟨bp,0,none⟩)),(1,.func (.func f) #[] caps.toArray),(4,.pointer (some ⟨bq,0,none⟩))]∧hp_= [Nr,NS,Mp,R]∧rest.length=ms_∧(PartsN Nr NI bq zr rest)∧(Inv ys done NS)∧(ys++zr=zq)∧(ys.length=done.length)∧(mapE g its=restE g done rest)∧(∀y∈rest,El y)∧(done.length+rest.length=its.length)) ?_ (.refl _) ⟨[],its,[],zq,Nq,NO,rfl,rfl,rfl,hq,hI,rfl,rfl,(restE_0 g its).symm,hel its he,by simp⟩ ?_)))))))))
 ·exact .cons (by first|exact a6 rfl (by omega)|rfl) (.cons (by first|exact a6 rfl (by omega)|rfl) (.cons (by first|exact a6 rfl (by omega)|rfl) .nil))
 rintro _ _ _ ⟨done,rest,ys,zr,Nr,NS,rfl,rfl,rfl,hr,hi,hyz,hyl,hm,hsub,hcnt⟩
 refine At.seq fun _ s_2=>At.seq fun _ s_3=>At.region ?_
 obtain⟨ar,cr,Br,hle,hcm⟩:=hr.len
 refine aE (aC rfl) rfl rfl (op_nilChk (aC rfl) rfl rfl (aF (aC rfl) fl157_0 rfl rfl (aL (aC rfl) sc89 rfl Br (by first|rfl) aP rfl ?_)))
 refine a7 (aC rfl) se89 rfl rfl (op_gtr (aC rfl) rfl rfl rfl (aA (aB (s_3 (aO rfl (fun c13=>?_) (fun c13=>?_))))))
 ·obtain⟨t',rest',rfl⟩: ∃t' rest',rest=t'::rest':=by
   cases rest with
   |nil=>exact absurd c13 (by simp)
   |cons a b=>exact⟨a,b,rfl⟩
  obtain⟨z',zr',rfl⟩:=hr.cons
  have hln:(t'::rest').length=rest'.length+1:=rfl
  refine At.skip (aB (s_2 (At.block (At.region (aE (aC rfl) rfl rfl (aE (aC rfl) rfl rfl (op_callVE rfl (.cons rfl .nil) ((hc Nr NS bq z' zr' ys t' rest' done hr hi hyl (by omega) (hsub _ (by simp))).liftB hNR) (F:= [Mp,R]) hfn hb hne (.refl _) (by simp) rfl ?_ ?_)))))))
  ·rintro v16 L16 ⟨e,NP,rfl,rfl,hy,hPI⟩
   change At _ _ _ [NP,Mp,R] _
   refine At.inPan (aX (At.inPan ((At.sub (L':= [NP,R]) (.cons_cons _ (.cons _ (.cons_cons _ (.slnil)))) (At.pan (L1:= [NP]) (.refl _) (.refl _) ?_)))))
   exact⟨e,NP,rfl,rfl,by simp only [eachE,he,hm,restE_bad hy],hPI⟩
  rintro v16 L16 ⟨M1,M2,y,rfl,hy,hr',hi'⟩
  change At _ _ _ [M1,M2,Mp,R] _
  refine aA (bC (aB ?_))
  refine At.back ?_ (.refl _) ⟨done++ [y],rest',ys++ [z'],zr',M1,M2,rfl,rfl,rfl,hr',hi',by rw [List.append_assoc];exact hyz,by simp [hyl],by rw [hm,restE_ok hy],fun z hz=>hsub z (List.mem_cons_of_mem _ hz),by rw [List.length_append,List.length_singleton];omega⟩ ?_
  ·exact .cons (by first|exact a6 rfl (by omega)|rfl) (.cons (by first|exact a6 rfl (by omega)|rfl) (.cons (by first|exact a6 rfl (by omega)|rfl) .nil))
  ·omega
 refine At.exit (aM (aM (At.inHit (At.norX (At.sub (L':= [NS,Mp,R]) (.cons _ (.cons_cons _ (.cons_cons _ (.cons_cons _ (.slnil))))) (At.perm sel2 (At.perm sel1 (At.perm sel2 (At.retNE (L1:= [Mp,NS]) rfl .nil rfl (.refl _) (.refl _) ?_)))))))))
 have h0:rest= []:=List.length_eq_zero_iff.1 (by omega)
 subst h0
 obtain rfl:zr= []:=hr.nil
 rw [List.append_nil]at hyz
 exact⟨Mp,NS,done,ys,rfl,rfl,by simp only [eachE,he,hm,restE_nil],hp,hi,hyz▸hzq⟩
end
section
variable {NI : Heaplet} {t : It} {x : IV}
theorem rawE_ne {t:It} : ∀e,rawE t=.error e→e≠0:=fun e h=>by
 obtain⟨l,bs,its⟩:=t
 cases l with
 |false=>
  simp only [rawE]at h
  split at h
  ·cases h
  ·cases h;decide
 |true=>
  simp only [rawE]at h
  split at h
  ·cases h
  ·cases h;decide
theorem rawE_f {bs:List UInt8} {its:List It} (h:0<bs.length∧1≤(bs.getD 0 0).toNat∧(bs.getD 0 0).toNat≤3):rawE (.mk false bs its)=.ok bs:=by
 simp only [rawE];rw [if_pos h]
theorem rawE_n {bs:List UInt8} {its:List It} (h: ¬(0<bs.length∧1≤(bs.getD 0 0).toNat∧(bs.getD 0 0).toNat≤3)):rawE (.mk false bs its)=.error 2:=by
 simp only [rawE];rw [if_neg h]
theorem rawE_t {bs:List UInt8} {its:List It} (h:(It.mk true bs its).depth≤1024):rawE (.mk true bs its)=.ok (It.mk true bs its).form:=by
 simp only [rawE];rw [if_pos h]
theorem rawE_d {bs:List UInt8} {its:List It} (h: ¬(It.mk true bs its).depth≤1024):rawE (.mk true bs its)=.error 7:=by
 simp only [rawE];rw [if_neg h]
/-- Where a transaction's bytes lie. -/
def RawAt (NI NE:Heaplet) (z:IV) (v:Value) (g:List UInt8):Prop:=
 (z.l=false∧v=slB z∧z.nb=g.length∧RSl NI 1 z.ab z.nb z.cb (u8s g)∧NE=nilH)∨(z.l=true∧ ∃p c,v=.slice p g.length c∧Row NE 5 1 p g.length c (u8s g))
set_option maxHeartbeats 4000000 in
theorem FRaw_p (hi:ItN NI t x) (hF:t.form.length≤1099511627776):FnE Tryz.prog 55 #[.agg #[.bool x.l,.slice x.ab x.nb x.cb,.slice x.ai x.ni x.ci]] [] [NI] (fun v L=> ∃NE b,L= [NE]∧rawE t=.ok b∧RawAt NI NE x v b) (fun v L=> ∃e:Nat,v=gaveV e∧L= []∧rawE t=.error e):=by
 obtain⟨l,bs,its⟩:=t
 have hi':=hi
 simp only [ItN]at hi
 obtain⟨rfl,hb,_⟩:=hi
 have hlen:=hb.len8
 have hcap:=hb.cap63
 cases hl:x.l with
 |false=>
  rw [hl]at hF
  refine FnE.enter (vs:= [.agg #[.bool false,.slice x.ab x.nb x.cb,.slice x.ai x.ni x.ci]]) Tryz.func55 rfl rfl rfl ?_
  intro E R hR
  have hNR:=hR NI (by simp)
  have hbR:=hb.le hNR
  change At _ _ E [R] _
  refine At.seq fun _ s_1=>At.region (op_box (aT rfl) rfl rfl rfl (fun N1 b1 B1=>aD (aC rfl) rfl rfl (aA (aB (s_1 (At.seq fun _ s_2=>At.seq fun _ s_3=>At.region (aF (aC rfl) fl91_0 rfl rfl (aL (aC rfl) sc4 rfl B1 (by first|rfl) aP rfl ?_))))))))
  refine op_not (aC rfl) rfl rfl (aA (aB (s_3 (At.condT rfl (At.seq fun _ s_4=>At.region (aF (aC rfl) fl91_1 rfl rfl (aL (aC rfl) sc22 rfl B1 (by first|rfl) aP rfl ?_)))))))
  refine a7 (aC rfl) se22 rfl rfl (op_gtr (aC rfl) rfl rfl rfl (aE (aC rfl) rfl rfl (At.partP (d:=12) rfl (fun g12=>?_) (fun g12=>?_))))
  ·refine aF (bF rfl rfl rfl rfl) fl91_1 rfl rfl (aL (bF rfl rfl rfl rfl) sc22 rfl B1 (by first|rfl) aP rfl ?_)
   refine op_idx1 (bF rfl rfl rfl rfl) se22 rfl rfl hbR (show _=((0:Nat):Int)from rfl) (by omega) rfl (bK (bF rfl rfl rfl rfl) sc5 rfl hbR (by first|exact get8 (by omega)|exact get64 (by omega)|exact get32 (by omega)) (by first|exact aP|exact bM|exact mem2|exact mem3|exact mem4|exact mem5|exact mem6|exact mem7|exact mem8|exact mem9) rfl ?_)
   refine op_geq (bF rfl rfl rfl rfl) rfl rfl rfl (bN (aC rfl) rfl rfl rfl (aE (aC rfl) rfl rfl (At.partP (d:=19) rfl (fun g19=>?_) (fun g19=>?_))))
   ·refine aF (bF rfl rfl rfl rfl) fl91_1 rfl rfl (aL (bF rfl rfl rfl rfl) sc22 rfl B1 (by first|rfl) aP rfl ?_)
    refine op_idx1 (bF rfl rfl rfl rfl) se22 rfl rfl hbR (show _=((0:Nat):Int)from rfl) (by omega) rfl (bK (bF rfl rfl rfl rfl) sc5 rfl hbR (by first|exact get8 (by omega)|exact get64 (by omega)|exact get32 (by omega)) (by first|exact aP|exact bM|exact mem2|exact mem3|exact mem4|exact mem5|exact mem6|exact mem7|exact mem8|exact mem9) rfl ?_)
    refine op_leq (bF rfl rfl rfl rfl) rfl rfl rfl (bN (aC rfl) rfl rfl rfl (op_callE (.cons rfl .nil) (FMust_any _) (F:= [N1,R]) Tryz.func31 rfl rfl (.refl _) (by simp) rfl ?_ ?_))
    ·rintro v26 L26 ⟨rfl,rfl,hm⟩
     change At _ _ _ [N1,R] _
     refine aX (aX ((At.sub (L':= [R]) (.cons _ (.cons_cons _ (.slnil))) (At.pan (L1:= []) (.refl _) (.refl _) ?_))))
     first
      |exact yes_no hm
      |exact⟨2,rfl,rfl,rawE_n (fun q=>by omega)⟩
      |exact⟨2,rfl,rfl,rawE_n (fun q=>by have:=of_decide_eq_false hm;omega)⟩
    rintro v26 L26 ⟨rfl,rfl,hm⟩
    change At _ _ _ [N1,R] _
    refine aA (aB (s_4 (At.seq fun _ s_5=>At.region (aF (aC rfl) fl91_1 rfl rfl (aL (aC rfl) sc22 rfl B1 (by first|rfl) aP rfl ?_)))))
    refine aD (aC rfl) rfl rfl (aA (aB (s_5 (At.ret (aJ ((At.retX (At.empty (At.sub (L':= [nilH,R]) (.cons_cons _ (.cons _ (.cons_cons _ (.slnil)))) (aW (L1:= [nilH]) rfl (.tmp rfl .nil) (.refl _) (.refl _) ?_))))))))))
    first
     |exact no_yes hm
     |(have hm:=of_decide_eq_true hm;exact⟨nilH,bs,rfl,rawE_f ⟨by omega,by omega,by omega⟩,.inl ⟨hl,rfl,hlen.symm,hb,rfl⟩⟩)
   refine aN rfl rfl rfl rfl rfl rfl rfl (aN rfl rfl rfl rfl rfl rfl rfl (aN rfl rfl rfl rfl rfl rfl rfl (aN rfl rfl rfl rfl rfl rfl rfl (aN rfl rfl rfl rfl rfl rfl rfl (op_pickF (aC rfl) rfl rfl rfl (op_callE (.cons rfl .nil) (FMust_any _) (F:= [N1,R]) Tryz.func31 rfl rfl (.refl _) (by simp) rfl ?_ ?_))))))
   ·rintro v26 L26 ⟨rfl,rfl,hm⟩
    change At _ _ _ [N1,R] _
    refine aX (aX ((At.sub (L':= [R]) (.cons _ (.cons_cons _ (.slnil))) (At.pan (L1:= []) (.refl _) (.refl _) ?_))))
    first
     |exact yes_no hm
     |exact⟨2,rfl,rfl,rawE_n (fun q=>by omega)⟩
     |exact⟨2,rfl,rfl,rawE_n (fun q=>by have:=of_decide_eq_false hm;omega)⟩
   rintro v26 L26 ⟨rfl,rfl,hm⟩
   change At _ _ _ [N1,R] _
   refine aA (aB (s_4 (At.seq fun _ s_6=>At.region (aF (aC rfl) fl91_1 rfl rfl (aL (aC rfl) sc22 rfl B1 (by first|rfl) aP rfl ?_)))))
   refine aD (aC rfl) rfl rfl (aA (aB (s_6 (At.ret (aJ ((At.retX (At.empty (At.sub (L':= [nilH,R]) (.cons_cons _ (.cons _ (.cons_cons _ (.slnil)))) (aW (L1:= [nilH]) rfl (.tmp rfl .nil) (.refl _) (.refl _) ?_))))))))))
   first
    |exact no_yes hm
    |(have hm:=of_decide_eq_true hm;exact⟨nilH,bs,rfl,rawE_f ⟨by omega,by omega,by omega⟩,.inl ⟨hl,rfl,hlen.symm,hb,rfl⟩⟩)
  refine aN rfl rfl rfl rfl rfl rfl rfl (aN rfl rfl rfl rfl rfl rfl rfl (aN rfl rfl rfl rfl rfl rfl rfl (aN rfl rfl rfl rfl rfl rfl rfl (aN rfl rfl rfl rfl rfl rfl rfl (op_pickF (aC rfl) rfl rfl rfl (aE (aC rfl) rfl rfl (aN rfl rfl rfl rfl rfl rfl rfl (aN rfl rfl rfl rfl rfl rfl rfl (aN rfl rfl rfl rfl rfl rfl rfl (aN rfl rfl rfl rfl rfl rfl rfl (aN rfl rfl rfl rfl rfl rfl rfl (op_pickF (aC rfl) rfl rfl rfl (op_callE (.cons rfl .nil) (FMust_any _) (F:= [N1,R]) Tryz.func31 rfl rfl (.refl _) (by simp) rfl ?_ ?_)))))))))))))
  ·rintro v26 L26 ⟨rfl,rfl,hm⟩
   change At _ _ _ [N1,R] _
   refine aX (aX ((At.sub (L':= [R]) (.cons _ (.cons_cons _ (.slnil))) (At.pan (L1:= []) (.refl _) (.refl _) ?_))))
   first
    |exact yes_no hm
    |exact⟨2,rfl,rfl,rawE_n (fun q=>by omega)⟩
    |exact⟨2,rfl,rfl,rawE_n (fun q=>by have:=of_decide_eq_false hm;omega)⟩
  rintro v26 L26 ⟨rfl,rfl,hm⟩
  change At _ _ _ [N1,R] _
  refine aA (aB (s_4 (At.seq fun _ s_7=>At.region (aF (aC rfl) fl91_1 rfl rfl (aL (aC rfl) sc22 rfl B1 (by first|rfl) aP rfl ?_)))))
  refine aD (aC rfl) rfl rfl (aA (aB (s_7 (At.ret (aJ ((At.retX (At.empty (At.sub (L':= [nilH,R]) (.cons_cons _ (.cons _ (.cons_cons _ (.slnil)))) (aW (L1:= [nilH]) rfl (.tmp rfl .nil) (.refl _) (.refl _) ?_))))))))))
  first
   |exact no_yes hm
   |(have hm:=of_decide_eq_true hm;exact⟨nilH,bs,rfl,rawE_f ⟨by omega,by omega,by omega⟩,.inl ⟨hl,rfl,hlen.symm,hb,rfl⟩⟩)
 |true=>
  rw [hl]at hF hi'
  have hE:=Encode_f hi' hF
  rw [hl]at hE
  refine FnE.enter (vs:= [.agg #[.bool true,.slice x.ab x.nb x.cb,.slice x.ai x.ni x.ci]]) Tryz.func55 rfl rfl rfl ?_
  intro E R hR
  have hNR:=hR NI (by simp)
  change At _ _ E [R] _
  refine At.seq fun _ s_1=>At.region (op_box (aT rfl) rfl rfl rfl (fun N1 b1 B1=>aD (aC rfl) rfl rfl (aA (aB (s_1 (At.seq fun _ s_2=>At.seq fun _ s_3=>At.region (aF (aC rfl) fl91_0 rfl rfl (aL (aC rfl) sc4 rfl B1 (by first|rfl) aP rfl ?_))))))))
  refine op_not (aC rfl) rfl rfl (aA (aB (s_3 (At.condF rfl (At.skip (aB (s_2 (At.seq fun _ s_4=>At.region (aQ (ds:= [_,_,_]) (aC rfl) ag91 rfl B1 rfl rfl aP rfl (aG (aT rfl) (.cons rfl .nil) (hE.liftB hNR) Tryz.func69 rfl rfl (by simp) rfl ?_))))))))))
  rintro v31 L31 (⟨M,p,c,rfl,rfl,r,hd⟩|⟨rfl,rfl,hd⟩)
  ·change At _ _ _ [M,N1,R] _
   refine aE (aC rfl) rfl rfl (aH (aC rfl) rfl rfl rfl (aH (aC rfl) rfl rfl rfl (aD (aC rfl) rfl rfl (aD (aC rfl) rfl rfl (aA (aB (s_4 (At.seq fun _ s_5=>At.region (aE (aC rfl) rfl rfl (op_callE (.cons rfl .nil) (FCheck_any 0) (F:= [M,N1,R]) Tryz.func30 rfl rfl (.refl _) (by simp) rfl ?_ ?_))))))))))
   ·rintro v35 L35 ⟨rfl,rfl,hc⟩
    change At _ _ _ [M,N1,R] _
    refine aX ((At.sub (L':= [R]) (.cons _ (.cons _ (.cons_cons _ (.slnil)))) (At.pan (L1:= []) (.refl _) (.refl _) ?_)))
    exact absurd rfl hc
   rintro v35 L35 ⟨rfl,rfl,_⟩
   change At _ _ _ [M,N1,R] _
   refine aA (aB (s_5 (At.seq fun _ s_6=>At.region (aE (aC rfl) rfl rfl (aD (aC rfl) rfl rfl (aA (aB (s_6 (At.ret ((At.retX (At.sub (L':= [M,R]) (.cons_cons _ (.cons _ (.cons_cons _ (.slnil)))) (aW (L1:= [M]) rfl (.tmp rfl .nil) (.refl _) (.refl _) ?_)))))))))))))
   exact⟨M,_,rfl,rawE_t (by omega),.inr ⟨hl,p,c,rfl,r⟩⟩
  change At _ _ _ [N1,R] _
  refine aE (aC rfl) rfl rfl (aH (aC rfl) rfl rfl rfl (aH (aC rfl) rfl rfl rfl (aD (aC rfl) rfl rfl (aD (aC rfl) rfl rfl (aA (aB (s_4 (At.seq fun _ s_7=>At.region (aE (aC rfl) rfl rfl (op_callE (.cons rfl .nil) (FCheck_e (by decide)) (F:= [N1,R]) Tryz.func30 rfl rfl (.refl _) (by simp) rfl ?_ ?_))))))))))
  ·rintro v35 L35 ⟨rfl,rfl⟩
   change At _ _ _ [N1,R] _
   refine aX ((At.sub (L':= [R]) (.cons _ (.cons_cons _ (.slnil))) (At.pan (L1:= []) (.refl _) (.refl _) ?_)))
   exact⟨7,rfl,rfl,rawE_d (by omega)⟩
  intro _ _ h_;exact h_.elim
end
end Go.Proofs.YtjfagifjajielaaGreat
