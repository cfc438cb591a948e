/- Several texts in one: see the remarks ahead of each part. No condition but those told there. -/
import Derived.Test.YtjfagifjajielaaGreatU25
import Derived.Test.YtjfagifjajielaaGreatU14
import Derived.Test.YtjfagifjajielaaGreatU24
import Derived.Test.YtjfagifjajielaaGreatU19
import Derived.Test.YtjfagifjajielaaGreatU17
import Derived.Test.YtjfagifjajielaaGreatU22
import Derived.Test.YtjfagifjajielaaGreatU10
set_option linter.unusedSimpArgs false
set_option linter.unusedVariables false
/- Layer 14: 'quarrylaw14.BookBack' answers true. No condition. -/
namespace Go.Proofs.YtjfagifjajielaaGreat
open Go Go.RowKit
set_option maxRecDepth 100000
section
variable {N : Heaplet} {m : TxM} {d a b : Value}
/-- What WriteTx gives. -/
def WTxP (m:TxM) (v:Value) (L:List Heaplet):Prop:=
 (∃M p c,fitsM m∧v=.tuple #[.slice p (txB m).length c,.int .i64 0]∧L= [M]∧Row M 5 1 p (txB m).length c (u8s (txB m)))∨
 (¬fitsM m∧v=.tuple #[.slice none 0 0,.int .i64 1]∧L= [])
theorem BlkS.len {NI NT NK NO NW:Heaplet} {m:BlkM} {cs:List Value} (h:BlkS NI NT NK NO NW m cs):cs.length=560∧cs.all (·.oneCell')=true:=by
 obtain⟨v1,ta,tc,vs,ys,oa,oc,xs,wa,wc,t,zs,zt,rfl,k1,k2,⟨zs',k3⟩,_⟩:=h
 exact⟨bJ (HdM.len k1 _),blk_one (HdM.one k3.one) rfl rfl rfl⟩
theorem TxR.one (h:TxR N m d a b):d.oneCell'=true∧a.oneCell'=true∧b.oneCell'=true:=by
 obtain⟨da,dc,aa,cc,ba,bc,axs,rfl,_,rfl,_,_,rfl,_⟩:=h
 exact⟨rfl,rfl,rfl⟩
theorem BlkS.ok {NI NT NK NO NW:Heaplet} {m:BlkM} {cs:List Value} (h:BlkS NI NT NK NO NW m cs):okF m.hd.fi∧ ∀x∈m.oms,okF x.fi:=by
 obtain⟨v1,ta,tc,vs,ys,oa,oc,xs,wa,wc,t,zs,zt,e,k1,k2,_,k5,_,k6,k7,k8,k9,_⟩:=h
 refine⟨k2,fun x hx=>?_⟩
 rw [←k9]at hx
 obtain⟨y,hy,rfl⟩:=List.mem_map.1 hx
 exact(k8 y hy).2.1
end
end Go.Proofs.YtjfagifjajielaaGreat
/- Layer 14, plain laws: a block that was written is read again. Conditions: sizes. -/
namespace Go.Proofs.YtjfagifjajielaaGreat
open Go Go.RowKit
set_option maxRecDepth 100000
theorem n64E_I (x:UInt64): ∃y,n64E (itS (bytesOf x.toNat))=.ok y:=⟨_,by simp only [n64E,eb];rw [show itS (bytesOf x.toNat)=numI x.toNat from rfl,smallE_N x.toNat_lt]⟩
theorem wordE_I {x:Nat} (h:x<WW):wordE (itS (bytesOf x))=.ok x:=wordE_N h
theorem hd_there {h:HdM} (k:h.Ok) (f:okF h.fi): ∃h',hdE h.it=.ok h':=by
 obtain⟨y1,e1⟩:=n64E_I h.nu
 obtain⟨y2,e2⟩:=n64E_I h.gl
 obtain⟨y3,e3⟩:=n64E_I h.gu
 obtain⟨y4,e4⟩:=n64E_I h.ti
 obtain⟨y5,e5⟩:=n64E_I h.bg
 obtain⟨y6,e6⟩:=n64E_I h.xs
 rcases f with f|f|f|f
 ·have e:h.items.take h.fi.toNat= [itS h.pa,itS h.om,itS h.co,itS h.st,itS h.tx,itS h.rc,itS h.bl,itS (bytesOf h.df),itS (bytesOf h.nu.toNat),itS (bytesOf h.gl.toNat),itS (bytesOf h.gu.toNat),itS (bytesOf h.ti.toNat),itS h.ex,itS h.mx,itS h.no]:=by rw [f];rfl
  rw [HdM.it,e,hdE_in (listE_L _) (by simp)]
  simp only [hdA,hdR,eb,fixE_S k.pa,fixE_S k.om,fixE_S k.co,fixE_S k.st,fixE_S k.tx,fixE_S k.rc,fixE_S k.bl,wordE_I k.df,e1,e2,e3,e4,strE_S,fixE_S k.mx,fixE_S k.no]
  exact⟨_,rfl⟩
 ·have e:h.items.take h.fi.toNat= [itS h.pa,itS h.om,itS h.co,itS h.st,itS h.tx,itS h.rc,itS h.bl,itS (bytesOf h.df),itS (bytesOf h.nu.toNat),itS (bytesOf h.gl.toNat),itS (bytesOf h.gu.toNat),itS (bytesOf h.ti.toNat),itS h.ex,itS h.mx,itS h.no,itS (bytesOf h.bf)]:=by rw [f];rfl
  rw [HdM.it,e,hdE_in (listE_L _) (by simp)]
  simp only [hdA,hdR,hdR2,eb,fixE_S k.pa,fixE_S k.om,fixE_S k.co,fixE_S k.st,fixE_S k.tx,fixE_S k.rc,fixE_S k.bl,wordE_I k.df,e1,e2,e3,e4,strE_S,fixE_S k.mx,fixE_S k.no,wordE_I k.bf]
  exact⟨_,rfl⟩
 ·have e:h.items.take h.fi.toNat= [itS h.pa,itS h.om,itS h.co,itS h.st,itS h.tx,itS h.rc,itS h.bl,itS (bytesOf h.df),itS (bytesOf h.nu.toNat),itS (bytesOf h.gl.toNat),itS (bytesOf h.gu.toNat),itS (bytesOf h.ti.toNat),itS h.ex,itS h.mx,itS h.no,itS (bytesOf h.bf),itS h.wd]:=by rw [f];rfl
  rw [HdM.it,e,hdE_in (listE_L _) (by simp)]
  simp only [hdA,hdR,hdR2,hdR3,eb,fixE_S k.pa,fixE_S k.om,fixE_S k.co,fixE_S k.st,fixE_S k.tx,fixE_S k.rc,fixE_S k.bl,wordE_I k.df,e1,e2,e3,e4,strE_S,fixE_S k.mx,fixE_S k.no,wordE_I k.bf,fixE_S k.wd]
  exact⟨_,rfl⟩
 ·have e:h.items.take h.fi.toNat=h.items:=by rw [f];rfl
  rw [HdM.it,e,hdE_in (listE_L _) (by simp [HdM.items])]
  simp only [HdM.items,hdA,hdR,hdR2,hdR3,eb,fixE_S k.pa,fixE_S k.om,fixE_S k.co,fixE_S k.st,fixE_S k.tx,fixE_S k.rc,fixE_S k.bl,wordE_I k.df,e1,e2,e3,e4,strE_S,fixE_S k.mx,fixE_S k.no,wordE_I k.bf,fixE_S k.wd,e5,e6,fixE_S k.be]
  exact⟨_,rfl⟩
theorem wd_there {w:WdM} (h:w.ad.length=20): ∃w',wdE (wdI w)=.ok w':=by
 obtain⟨y1,e1⟩:=n64E_I w.ix
 obtain⟨y2,e2⟩:=n64E_I w.va
 obtain⟨y3,e3⟩:=n64E_I w.am
 simp only [wdI,wdIt,wdE,eb,listE_L,wdA,e1,e2,e3,fixE_S h]
 exact⟨_,rfl⟩
theorem mapE_ex {α:Type} {g:It→Except Nat α} : ∀ {l:List It},(∀t∈l, ∃a,g t=.ok a)→ ∃xs,mapE g l=.ok xs
 | [],_=>⟨[],rfl⟩
 |t::l,h=>by
  obtain⟨a,ha⟩:=h t (by simp)
  obtain⟨xs,hx⟩:=mapE_ex (l:=l) fun y hy=>h y (List.mem_cons_of_mem _ hy)
  exact⟨a::xs,by simp only [mapE,ha,hx]⟩
theorem eachE_ex {α:Type} {g:It→Except Nat α} {l:List It} (h: ∀t∈l, ∃a,g t=.ok a): ∃xs,eachE g (itL l)=.ok xs:=by
 obtain⟨xs,hx⟩:=mapE_ex h
 exact⟨xs,by simp only [eachE,listE_L];exact hx⟩
/-- A text's form begins below a list's. -/
theorem first_T (bs:List UInt8) (its:List It) (h:(It.mk false bs its).form.length<2^64):first8 (It.mk false bs its).form<192:=by
 rw [form_false]at h⊢
 split
 ·rename_i hs
  have:=(small_iffI.1 hs).2
  unfold first8;omega
 ·rename_i hs
  rw [if_neg hs,List.length_append]at h
  unfold rlpHead first8
  split
  ·rename_i h55
   show(UInt8.ofNat (128+bs.length)).toNat<192
   rw [UInt8.toNat_ofNat',Nat.mod_eq_of_lt (by omega)];omega
  ·show(UInt8.ofNat (128+55+(bytesOf bs.length).length)).toNat<192
   have:=byteLen8 (n:=bs.length) (by omega)
   rw [UInt8.toNat_ofNat',Nat.mod_eq_of_lt (by omega)];omega
theorem ins_some {g:List UInt8} {t:It} (h:insE g=some t): ¬(g.length=0∨first8 g=0∨(3<first8 g∧first8 g<192))∧((first8 g≤3∧t=itS g)∨(192≤first8 g∧decodeF g=.ok t)):=by
 unfold insE at h
 split at h
 ·cases h
 ·rename_i h0
  refine⟨h0,?_⟩
  split at h
  ·rename_i h1
   exact .inl ⟨h1,(Option.some.inj h).symm⟩
  ·rename_i h1
   split at h
   ·rename_i t' hd
    cases h
    exact .inr ⟨by omega,hd⟩
   ·cases h
theorem raw_there {g:List UInt8} {t:It} (hg:g.length<2^64) (h:insE g=some t) (hd:t.depth≤1024): ∃g',rawE t=.ok g':=by
 obtain⟨h0,h1|h1⟩:=ins_some h
 ·obtain⟨h1,rfl⟩:=h1
  exact⟨g,rawE_txt (by omega) (show 1≤first8 g by omega) h1⟩
 ·obtain⟨h1,h2⟩:=h1
  obtain⟨l,bs,its⟩:=t
  cases l with
  |true=>exact⟨_,rawE_lst hd⟩
  |false=>
   have e:=(decodeF_back hg h2).1
   have:=first_T bs its (by rw [e];exact hg)
   rw [e]at this
   omega
theorem ins_plain {g:List UInt8} {t:It} (hg:g.length<2^64) (h:insE g=some t):t.plain=t:=by
 obtain⟨h0,h1|h1⟩:=ins_some h
 ·rw [h1.2];exact plain_S _
 ·exact deco_plain hg h1.2
theorem insAll_mem: ∀ {gs:List (List UInt8)} {its:List It},insAll gs=some its→ ∀t∈its, ∃g∈gs,insE g=some t
 | [],its,h,t,ht=>by
  simp only [insAll]at h;cases h;cases ht
 |a::gs,its,h,t,ht=>by
  simp only [insAll]at h
  split at h
  ·cases h
  ·rename_i u hu
   split at h
   ·cases h
   ·rename_i l hl
    cases h
    rcases List.mem_cons.1 ht with rfl|ht
    ·exact⟨a,by simp,hu⟩
    ·obtain⟨g,h1,h2⟩:=insAll_mem hl t ht
     exact⟨g,List.mem_cons_of_mem _ h1,h2⟩
theorem insAll_len: ∀ {gs:List (List UInt8)} {its:List It},insAll gs=some its→its.length=gs.length
 | [],its,h=>by simp only [insAll]at h;cases h;rfl
 |a::gs,its,h=>by
  simp only [insAll]at h
  split at h
  ·cases h
  ·split at h
   ·cases h
   ·rename_i l hl
    cases h
    rw [List.length_cons,List.length_cons,insAll_len hl]
theorem hd_plain (h:HdM):h.it.plain=h.it:=plain_L fun t ht=>by
 have:=List.mem_of_mem_take ht
 simp only [HdM.items,List.mem_cons,List.not_mem_nil,or_false]at this
 rcases this with rfl|rfl|rfl|rfl|rfl|rfl|rfl|rfl|rfl|rfl|rfl|rfl|rfl|rfl|rfl|rfl|rfl|rfl|rfl|rfl<;>exact plain_S _
theorem hd_dep (h:HdM):h.it.depth≤1:=by
 rw [HdM.it,depthL]
 have:It.depths (h.items.take h.fi.toNat)≤0:=depths_le.2 fun t ht=>by
  have:=List.mem_of_mem_take ht
  simp only [HdM.items,List.mem_cons,List.not_mem_nil,or_false]at this
  rcases this with rfl|rfl|rfl|rfl|rfl|rfl|rfl|rfl|rfl|rfl|rfl|rfl|rfl|rfl|rfl|rfl|rfl|rfl|rfl|rfl<;>exact Nat.le_refl _
 omega
theorem wd_plain (w:WdM):(wdI w).plain=wdI w:=plain_L fun t ht=>by
 simp only [List.mem_cons,List.not_mem_nil,or_false]at ht
 rcases ht with rfl|rfl|rfl|rfl<;>exact plain_S _
theorem wd_dep (w:WdM):(wdI w).depth≤1:=by
 rw [wdI,wdIt,depthL]
 have:It.depths [itS (bytesOf w.ix.toNat),itS (bytesOf w.va.toNat),itS w.ad,itS (bytesOf w.am.toNat)]≤0:=depths_le.2 fun t ht=>by
  simp only [List.mem_cons,List.not_mem_nil,or_false]at ht
  rcases ht with rfl|rfl|rfl|rfl<;>exact Nat.le_refl _
 omega
theorem blk_plain {m:BlkM} {its:List It} (h: ∀t∈its,t.plain=t):(blkIt m its).plain=blkIt m its:=plain_L fun t ht=>by
 unfold blkParts at ht
 rcases List.mem_append.1 ht with ht|ht
 ·simp only [List.mem_cons,List.not_mem_nil,or_false]at ht
  rcases ht with rfl|rfl|rfl
  ·exact hd_plain _
  ·exact plain_L h
  ·exact plain_L fun t ht=>by
    obtain⟨x,_,rfl⟩:=List.mem_map.1 ht
    exact hd_plain x
 ·split at ht
  ·rw [List.mem_singleton.1 ht]
   exact plain_L fun t ht=>by
    obtain⟨x,_,rfl⟩:=List.mem_map.1 ht
    exact wd_plain x
  ·cases ht
/-- A block's depth is that of its transactions. -/
theorem blk_depth {m:BlkM} {its:List It} :(blkIt m its).depth≤1024↔ ∀t∈its,t.depth≤1022:=by
 have e:(blkIt m its).depth=It.depths (blkParts m its)+1:=by rw [blkIt,depthL]
 rw [e]
 constructor
 ·intro h t ht
  have h2:It.depths (blkParts m its)≤1023:=by omega
  have h3:=depths_le.1 h2 (itL its) (by simp [blkParts])
  rw [depthL]at h3
  exact depths_le.1 (show It.depths its≤1022 by omega) t ht
 ·intro h
  have h2:It.depths (blkParts m its)≤1023:=depths_le.2 fun t ht=>by
   unfold blkParts at ht
   rcases List.mem_append.1 ht with ht|ht
   ·simp only [List.mem_cons,List.not_mem_nil,or_false]at ht
    rcases ht with rfl|rfl|rfl
    ·have:=hd_dep m.hd;omega
    ·rw [depthL]
     have:=depths_le.2 h
     omega
    ·rw [depthL]
     have:It.depths (m.oms.map HdM.it)≤1:=depths_le.2 fun t ht=>by
      obtain⟨x,_,rfl⟩:=List.mem_map.1 ht
      exact hd_dep x
     omega
   ·split at ht
    ·rw [List.mem_singleton.1 ht,depthL]
     have:It.depths (m.wds.map wdI)≤1:=depths_le.2 fun t ht=>by
      obtain⟨x,_,rfl⟩:=List.mem_map.1 ht
      exact wd_dep x
     omega
    ·cases ht
  omega
/-- A block that is written is read again. -/
theorem blk_there {m:BlkM} {bs:List UInt8} (hb:bs.length<2^64) (hg: ∀g∈m.txs,g.length<2^64) (hk:m.hd.Ok) (ho: ∀x∈m.oms,x.Ok) (hw: ∀x∈m.wds,x.ad.length=20) (h:wBlk m=some bs): ∃m',readBlkE bs=.ok m':=by
 unfold wBlk at h
 split at h
 ·rename_i hf
  split at h
  ·cases h
  ·rename_i its hi
   split at h
   ·rename_i hd
    obtain rfl:=Option.some.inj h
    have hp:(blkIt m its).plain=blkIt m its:=blk_plain fun t ht=>by
     obtain⟨g,h1,h2⟩:=insAll_mem hi t ht
     exact ins_plain (hg g h1) h2
    have hdec:=decodeF_form hb hd
    rw [hp]at hdec
    have hdp:=blk_depth.1 hd
    obtain⟨h',e1⟩:=hd_there hk hf.1
    obtain⟨ts,e2⟩:=eachE_ex (g:=rawE) (l:=its) fun t ht=>by
     obtain⟨g,h1,h2⟩:=insAll_mem hi t ht
     exact raw_there (hg g h1) h2 (by have:=hdp t ht;omega)
    obtain⟨os,e3⟩:=eachE_ex (g:=hdE) (l:=m.oms.map HdM.it) fun t ht=>by
     obtain⟨x,hx,rfl⟩:=List.mem_map.1 ht
     exact hd_there (ho x hx) (hf.2 x hx)
    obtain⟨ws,e4⟩:=eachE_ex (g:=wdE) (l:=m.wds.map wdI) fun t ht=>by
     obtain⟨x,hx,rfl⟩:=List.mem_map.1 ht
     exact wd_there (hw x hx)
    rw [readB_2 hdec]
    cases hpd:m.paid with
    |true=>
     refine⟨⟨h',ts,os,true,ws⟩,?_⟩
     rw [blockE_in (t:=blkIt m its) (its:=blkParts m its) rfl (by simp [blkParts,hpd])]
     simp only [blkParts,hpd,if_true,List.cons_append,List.nil_append,blockA,eb,e1,e2,e3,blockR,e4]
    |false=>
     refine⟨⟨h',ts,os,false,[]⟩,?_⟩
     rw [blockE_in (t:=blkIt m its) (its:=blkParts m its) rfl (by simp [blkParts,hpd])]
     simp only [blkParts,hpd,Bool.false_eq_true,if_false,List.append_nil,blockA,eb,e1,e2,e3,blockR]
   ·cases h
 ·cases h
end Go.Proofs.YtjfagifjajielaaGreat
/- Layer 14, the reference: a header's item and its bytes. Condition: sizes. -/
namespace Go.Proofs.YtjfagifjajielaaGreat
open Go Go.RowKit
set_option maxRecDepth 100000
section
variable {N : Heaplet} {h : HdM} {ao : Option Addr} {n cap : Nat}
set_option maxHeartbeats 8000000 in
theorem rHeader (k:h.Ok) (hr:RSl N 1 ao n cap (u8s h.ex)) (hx:h.ex.length≤1099511627776) (hv:okF h.fi):Fn Tryz.prog 70 #[.agg (h.cells (.slice ao n cap)).toArray] [] [N] (fun v L=> ∃J x,v=.agg #[.bool x.l,.slice x.ab x.nb x.cb,.slice x.ai x.ni x.ci]∧L= [J]∧ ∀K:Heaplet,J.le K→ItN K h.it x):=by
 have hcl:=HdM.len k (.slice ao n cap)
 have hls:=HdM.lens k (.slice ao n cap)
 have hwd:(u64s (wl h.df)).length=4:=by rw [u64s_len,length_wl]
 have hwb:(u64s (wl h.bf)).length=4:=by rw [u64s_len,length_wl]
 have hfi:h.fi=15∨h.fi=16∨h.fi=17∨h.fi=20:=hv
 have hexn:=hr.len8
 refine Fn.enter (vs:= [.agg (h.cells (.slice ao n cap)).toArray]) Tryz.func70 rfl rfl rfl ?_
 intro E R hR
 have hrR:=hr.le (hR N (by simp))
 change At _ _ E [R] _
 refine At.seq fun _ s_1=>At.region (op_box (aT rfl) rfl rfl rfl (fun N1 b1 B1=>aS (aT rfl) ze91 rfl (fun N2 b2 B2=>?_)))
 change Blk N2 b2 _ [.bool false,.slice none 0 0,.slice none 0 0]at B2
 refine aA (aB (s_1 (At.seq fun _ s_2=>?_)))
 have s5:=sub8 B1.rng (part_get hls (j:=1) (o:=1) rfl rfl (aY _▸k.pa)) k.pa (by decide)
 have s8:=sub8 B1.rng (part_get hls (j:=2) (o:=33) rfl rfl (aY _▸k.om)) k.om (by decide)
 have s11:=sub8 B1.rng (part_get hls (j:=3) (o:=65) rfl rfl (aY _▸k.co)) k.co (by decide)
 have s14:=sub8 B1.rng (part_get hls (j:=4) (o:=85) rfl rfl (aY _▸k.st)) k.st (by decide)
 have s17:=sub8 B1.rng (part_get hls (j:=5) (o:=117) rfl rfl (aY _▸k.tx)) k.tx (by decide)
 have s20:=sub8 B1.rng (part_get hls (j:=6) (o:=149) rfl rfl (aY _▸k.rc)) k.rc (by decide)
 have s23:=sub8 B1.rng (part_get hls (j:=7) (o:=181) rfl rfl (aY _▸k.bl)) k.bl (by decide)
 have s44:=sub8 B1.rng (part_get hls (j:=14) (o:=446) rfl rfl (aY _▸k.mx)) k.mx (by decide)
 have s47:=sub8 B1.rng (part_get hls (j:=15) (o:=478) rfl rfl (aY _▸k.no)) k.no (by decide)
 have s53:=sub8 B1.rng (part_get hls (j:=17) (o:=490) rfl rfl (aY _▸k.wd)) k.wd (by decide)
 have s62:=sub8 B1.rng (part_get hls (j:=20) (o:=524) rfl rfl (aY _▸k.be)) k.be (by decide)
 refine At.drawnS [N1,R] [59,60] [] [0,1,3,4,6,7,9,10,12,13,15,16,18,19,21,22,24,25,27,28,30,31,33,34,36,37,39,40,42,43,45,46,48,49,51,52,54,55,57,58,2,5,8,11,14,17,20,23,26,29,32,35,38,41,44,47,50,53,56,59,60,61] (by kernel_rfl) (by kernel_rfl) (.cons _ (.refl _)) (aF (nxsf rfl rfl rfl) fl44_1 rfl rfl (op_sliceA (nxsf rfl rfl rfl) ae40 rfl .none .none .none (by omega) (by omega) (by omega) (by simp) rfl (aF (nxsf rfl rfl rfl) fl44_2 rfl rfl (op_sliceA (nxsf rfl rfl rfl) ae40 rfl .none .none .none (by omega) (by omega) (by omega) (by simp) rfl (aF (nxsf rfl rfl rfl) fl44_3 rfl rfl (op_sliceA (nxsf rfl rfl rfl) ae28 rfl .none .none .none (by omega) (by omega) (by omega) (by simp) rfl (aF (nxsf rfl rfl rfl) fl44_4 rfl rfl (op_sliceA (nxsf rfl rfl rfl) ae40 rfl .none .none .none (by omega) (by omega) (by omega) (by simp) rfl (aF (nxsf rfl rfl rfl) fl44_5 rfl rfl (op_sliceA (nxsf rfl rfl rfl) ae40 rfl .none .none .none (by omega) (by omega) (by omega) (by simp) rfl (aF (nxsf rfl rfl rfl) fl44_6 rfl rfl (op_sliceA (nxsf rfl rfl rfl) ae40 rfl .none .none .none (by omega) (by omega) (by omega) (by simp) rfl (aF (nxsf rfl rfl rfl) fl44_7 rfl rfl (op_sliceA (nxsf rfl rfl rfl) ae41 rfl .none .none .none (by omega) (by omega) (by omega) (by simp) rfl (aF (nxsf rfl rfl rfl) fl44_8 rfl rfl (aQ (ds:=u64s (wl h.df)) (nxsf rfl rfl rfl) ag26 rfl B1 (by exact part_get hls (j:=8) rfl rfl hwd) (by exact hwd) aP rfl ?_))))))))))))))))
 refine aF (nxsf rfl rfl rfl) fl44_9 rfl rfl (aL (nxsf rfl rfl rfl) sc24 rfl B1 (by first|rfl|exact aK hls (j:=9) rfl rfl|exact aK hls (j:=10) rfl rfl|exact aK hls (j:=11) rfl rfl|exact aK hls (j:=12) rfl rfl|exact aK hls (j:=13) rfl rfl|exact aK hls (j:=18) rfl rfl|exact aK hls (j:=19) rfl rfl|exact aK hls (j:=0) rfl rfl) aP rfl ?_)
 refine aF (nxsf rfl rfl rfl) fl44_10 rfl rfl (aL (nxsf rfl rfl rfl) sc24 rfl B1 (by first|rfl|exact aK hls (j:=9) rfl rfl|exact aK hls (j:=10) rfl rfl|exact aK hls (j:=11) rfl rfl|exact aK hls (j:=12) rfl rfl|exact aK hls (j:=13) rfl rfl|exact aK hls (j:=18) rfl rfl|exact aK hls (j:=19) rfl rfl|exact aK hls (j:=0) rfl rfl) aP rfl ?_)
 refine aF (nxsf rfl rfl rfl) fl44_11 rfl rfl (aL (nxsf rfl rfl rfl) sc24 rfl B1 (by first|rfl|exact aK hls (j:=9) rfl rfl|exact aK hls (j:=10) rfl rfl|exact aK hls (j:=11) rfl rfl|exact aK hls (j:=12) rfl rfl|exact aK hls (j:=13) rfl rfl|exact aK hls (j:=18) rfl rfl|exact aK hls (j:=19) rfl rfl|exact aK hls (j:=0) rfl rfl) aP rfl ?_)
 refine aF (nxsf rfl rfl rfl) fl44_12 rfl rfl (aL (nxsf rfl rfl rfl) sc24 rfl B1 (by first|rfl|exact aK hls (j:=9) rfl rfl|exact aK hls (j:=10) rfl rfl|exact aK hls (j:=11) rfl rfl|exact aK hls (j:=12) rfl rfl|exact aK hls (j:=13) rfl rfl|exact aK hls (j:=18) rfl rfl|exact aK hls (j:=19) rfl rfl|exact aK hls (j:=0) rfl rfl) aP rfl ?_)
 refine aF (nxsf rfl rfl rfl) fl44_13 rfl rfl (aL (nxsf rfl rfl rfl) sc22 rfl B1 (by first|rfl|exact aK hls (j:=9) rfl rfl|exact aK hls (j:=10) rfl rfl|exact aK hls (j:=11) rfl rfl|exact aK hls (j:=12) rfl rfl|exact aK hls (j:=13) rfl rfl|exact aK hls (j:=18) rfl rfl|exact aK hls (j:=19) rfl rfl|exact aK hls (j:=0) rfl rfl) aP rfl ?_)
 refine aF (nxsf rfl rfl rfl) fl44_14 rfl rfl (op_sliceA (nxsf rfl rfl rfl) ae40 rfl .none .none .none (by omega) (by omega) (by omega) (by simp) rfl (aF (nxsf rfl rfl rfl) fl44_15 rfl rfl (op_sliceA (nxsf rfl rfl rfl) ae42 rfl .none .none .none (by omega) (by omega) (by omega) (by simp) rfl (aF (nxsf rfl rfl rfl) fl44_16 rfl rfl (aQ (ds:=u64s (wl h.bf)) (nxsf rfl rfl rfl) ag26 rfl B1 (by exact part_get hls (j:=16) rfl rfl hwb) (by exact hwb) aP rfl ?_)))))
 refine aF (nxsf rfl rfl rfl) fl44_17 rfl rfl (op_sliceA (nxsf rfl rfl rfl) ae40 rfl .none .none .none (by omega) (by omega) (by omega) (by simp) rfl (aF (nxsf rfl rfl rfl) fl44_18 rfl rfl (aL (nxsf rfl rfl rfl) sc24 rfl B1 (by first|rfl|exact aK hls (j:=9) rfl rfl|exact aK hls (j:=10) rfl rfl|exact aK hls (j:=11) rfl rfl|exact aK hls (j:=12) rfl rfl|exact aK hls (j:=13) rfl rfl|exact aK hls (j:=18) rfl rfl|exact aK hls (j:=19) rfl rfl|exact aK hls (j:=0) rfl rfl) aP rfl ?_)))
 refine aF (nxsf rfl rfl rfl) fl44_19 rfl rfl (aL (nxsf rfl rfl rfl) sc24 rfl B1 (by first|rfl|exact aK hls (j:=9) rfl rfl|exact aK hls (j:=10) rfl rfl|exact aK hls (j:=11) rfl rfl|exact aK hls (j:=12) rfl rfl|exact aK hls (j:=13) rfl rfl|exact aK hls (j:=18) rfl rfl|exact aK hls (j:=19) rfl rfl|exact aK hls (j:=0) rfl rfl) aP rfl ?_)
 refine aF (nxsf rfl rfl rfl) fl44_20 rfl rfl (op_sliceA (nxsf rfl rfl rfl) ae40 rfl .none .none .none (by omega) (by omega) (by omega) (by simp) rfl (aG (Nx.agree (nxsm rfl rfl rfl)) (.cons rfl .nil) (rBytes_b s5 (by decide)) Tryz.func71 rfl rfl (by simp) rfl ?_))
 rintro v6 L6 ⟨M6,p6,k6,rfl,rfl,t6⟩
 change At _ _ _ [M6,N2,N1,R] _
 refine At.perm sel3 (At.perm sel3 (At.perm sel2 (At.perm sel3 (bL (Lst:= [N1,R]) (Lst':= [M6,N1,R]) (.cons _ (.refl _)) (.cons _ (.refl _)) (aG (Nx.agree (nxsm rfl rfl rfl)) (.cons rfl .nil) (rBytes_b s8 (by decide)) Tryz.func71 rfl rfl (by simp) rfl ?_)))))
 rintro v9 L9 ⟨M9,p9,k9,rfl,rfl,t9⟩
 change At _ _ _ [M9,N2,M6,N1,R] _
 refine At.perm sel4 (At.perm sel4 (At.perm sel4 (At.perm sel3 (At.perm sel4 (bL (Lst:= [M6,N1,R]) (Lst':= [M9,M6,N1,R]) (.cons _ (.refl _)) (.cons _ (.refl _)) (aG (Nx.agree (nxsm rfl rfl rfl)) (.cons rfl .nil) (rBytes_b s11 (by decide)) Tryz.func71 rfl rfl (by simp) rfl ?_))))))
 rintro v12 L12 ⟨M12,p12,k12,rfl,rfl,t12⟩
 change At _ _ _ [M12,N2,M9,M6,N1,R] _
 refine At.perm bE (At.perm bE (At.perm bE (At.perm bE (At.perm sel4 (At.perm bE (bL (Lst:= [M9,M6,N1,R]) (Lst':= [M12,M9,M6,N1,R]) (.cons _ (.refl _)) (.cons _ (.refl _)) (aG (Nx.agree (nxsm rfl rfl rfl)) (.cons rfl .nil) (rBytes_b s14 (by decide)) Tryz.func71 rfl rfl (by simp) rfl ?_)))))))
 rintro v15 L15 ⟨M15,p15,k15,rfl,rfl,t15⟩
 change At _ _ _ [M15,N2,M12,M9,M6,N1,R] _
 refine At.perm bO (At.perm bO (At.perm bO (At.perm bO (At.perm bO (At.perm bE (At.perm bO (bL (Lst:= [M12,M9,M6,N1,R]) (Lst':= [M15,M12,M9,M6,N1,R]) (.cons _ (.refl _)) (.cons _ (.refl _)) (aG (Nx.agree (nxsm rfl rfl rfl)) (.cons rfl .nil) (rBytes_b s17 (by decide)) Tryz.func71 rfl rfl (by simp) rfl ?_))))))))
 rintro v18 L18 ⟨M18,p18,k18,rfl,rfl,t18⟩
 change At _ _ _ [M18,N2,M15,M12,M9,M6,N1,R] _
 refine At.perm sel7 (At.perm sel7 (At.perm sel7 (At.perm sel7 (At.perm sel7 (At.perm sel7 (At.perm bO (At.perm sel7 (bL (Lst:= [M15,M12,M9,M6,N1,R]) (Lst':= [M18,M15,M12,M9,M6,N1,R]) (.cons _ (.refl _)) (.cons _ (.refl _)) (aG (Nx.agree (nxsm rfl rfl rfl)) (.cons rfl .nil) (rBytes_b s20 (by decide)) Tryz.func71 rfl rfl (by simp) rfl ?_)))))))))
 rintro v21 L21 ⟨M21,p21,k21,rfl,rfl,t21⟩
 change At _ _ _ [M21,N2,M18,M15,M12,M9,M6,N1,R] _
 refine At.perm sel8 (At.perm sel8 (At.perm sel8 (At.perm sel8 (At.perm sel8 (At.perm sel8 (At.perm sel8 (At.perm sel7 (At.perm sel8 (bL (Lst:= [M18,M15,M12,M9,M6,N1,R]) (Lst':= [M21,M18,M15,M12,M9,M6,N1,R]) (.cons _ (.refl _)) (.cons _ (.refl _)) (aG (Nx.agree (nxsm rfl rfl rfl)) (.cons rfl .nil) (rBytes_b s23 (by decide)) Tryz.func71 rfl rfl (by simp) rfl ?_))))))))))
 rintro v24 L24 ⟨M24,p24,k24,rfl,rfl,t24⟩
 change At _ _ _ [M24,N2,M21,M18,M15,M12,M9,M6,N1,R] _
 refine At.perm bH (At.perm bH (At.perm bH (At.perm bH (At.perm bH (At.perm bH (At.perm bH (At.perm bH (At.perm sel8 (At.perm bH (bL (Lst:= [M21,M18,M15,M12,M9,M6,N1,R]) (Lst':= [M24,M21,M18,M15,M12,M9,M6,N1,R]) (.cons _ (.refl _)) (.cons _ (.refl _)) (aG (Nx.agree (nxsm rfl rfl rfl)) (.cons rfl .nil) (rOf_b k.df) Tryz.func115 rfl rfl (by simp) rfl ?_)))))))))))
 rintro v27 L27 ⟨M27,p27,k27,rfl,rfl,t27⟩
 change At _ _ _ [M27,N2,M24,M21,M18,M15,M12,M9,M6,N1,R] _
 refine At.perm bD (At.perm bD (At.perm bD (At.perm bD (At.perm bD (At.perm bD (At.perm bD (At.perm bD (At.perm bD (At.perm bH (At.perm bD (bL (Lst:= [M24,M21,M18,M15,M12,M9,M6,N1,R]) (Lst':= [M27,M24,M21,M18,M15,M12,M9,M6,N1,R]) (.cons _ (.refl _)) (.cons _ (.refl _)) (aG (Nx.agree (nxsm rfl rfl rfl)) (.cons rfl .nil) (rNum_b h.nu) Tryz.func116 rfl rfl (by simp) rfl ?_))))))))))))
 rintro v30 L30 ⟨M30,p30,k30,rfl,rfl,t30⟩
 change At _ _ _ [M30,N2,M27,M24,M21,M18,M15,M12,M9,M6,N1,R] _
 refine At.perm sel11 (At.perm sel11 (At.perm sel11 (At.perm sel11 (At.perm sel11 (At.perm sel11 (At.perm sel11 (At.perm sel11 (At.perm sel11 (At.perm sel11 (At.perm bD (At.perm sel11 (bL (Lst:= [M27,M24,M21,M18,M15,M12,M9,M6,N1,R]) (Lst':= [M30,M27,M24,M21,M18,M15,M12,M9,M6,N1,R]) (.cons _ (.refl _)) (.cons _ (.refl _)) (aG (Nx.agree (nxsm rfl rfl rfl)) (.cons rfl .nil) (rNum_b h.gl) Tryz.func116 rfl rfl (by simp) rfl ?_)))))))))))))
 rintro v33 L33 ⟨M33,p33,k33,rfl,rfl,t33⟩
 change At _ _ _ [M33,N2,M30,M27,M24,M21,M18,M15,M12,M9,M6,N1,R] _
 refine At.perm sel12 (At.perm sel12 (At.perm sel12 (At.perm sel12 (At.perm sel12 (At.perm sel12 (At.perm sel12 (At.perm sel12 (At.perm sel12 (At.perm sel12 (At.perm sel12 (At.perm sel11 (At.perm sel12 (bL (Lst:= [M30,M27,M24,M21,M18,M15,M12,M9,M6,N1,R]) (Lst':= [M33,M30,M27,M24,M21,M18,M15,M12,M9,M6,N1,R]) (.cons _ (.refl _)) (.cons _ (.refl _)) (aG (Nx.agree (nxsm rfl rfl rfl)) (.cons rfl .nil) (rNum_b h.gu) Tryz.func116 rfl rfl (by simp) rfl ?_))))))))))))))
 rintro v36 L36 ⟨M36,p36,k36,rfl,rfl,t36⟩
 change At _ _ _ [M36,N2,M33,M30,M27,M24,M21,M18,M15,M12,M9,M6,N1,R] _
 refine At.perm sel13 (At.perm sel13 (At.perm sel13 (At.perm sel13 (At.perm sel13 (At.perm sel13 (At.perm sel13 (At.perm sel13 (At.perm sel13 (At.perm sel13 (At.perm sel13 (At.perm sel13 (At.perm sel12 (At.perm sel13 (bL (Lst:= [M33,M30,M27,M24,M21,M18,M15,M12,M9,M6,N1,R]) (Lst':= [M36,M33,M30,M27,M24,M21,M18,M15,M12,M9,M6,N1,R]) (.cons _ (.refl _)) (.cons _ (.refl _)) (aG (Nx.agree (nxsm rfl rfl rfl)) (.cons rfl .nil) (rNum_b h.ti) Tryz.func116 rfl rfl (by simp) rfl ?_)))))))))))))))
 rintro v39 L39 ⟨M39,p39,k39,rfl,rfl,t39⟩
 change At _ _ _ [M39,N2,M36,M33,M30,M27,M24,M21,M18,M15,M12,M9,M6,N1,R] _
 refine At.perm sel14 (At.perm sel14 (At.perm sel14 (At.perm sel14 (At.perm sel14 (At.perm sel14 (At.perm sel14 (At.perm sel14 (At.perm sel14 (At.perm sel14 (At.perm sel14 (At.perm sel14 (At.perm sel14 (At.perm sel13 (At.perm sel14 (bL (Lst:= [M36,M33,M30,M27,M24,M21,M18,M15,M12,M9,M6,N1,R]) (Lst':= [M39,M36,M33,M30,M27,M24,M21,M18,M15,M12,M9,M6,N1,R]) (.cons _ (.refl _)) (.cons _ (.refl _)) (aG (Nx.agree (nxsm rfl rfl rfl)) (.cons rfl .nil) (rBytes_b hrR (by omega)) Tryz.func71 rfl rfl (by simp) rfl ?_))))))))))))))))
 rintro v42 L42 ⟨M42,p42,k42,rfl,rfl,t42⟩
 change At _ _ _ [M42,N2,M39,M36,M33,M30,M27,M24,M21,M18,M15,M12,M9,M6,N1,R] _
 refine At.perm sel15 (At.perm sel15 (At.perm sel15 (At.perm sel15 (At.perm sel15 (At.perm sel15 (At.perm sel15 (At.perm sel15 (At.perm sel15 (At.perm sel15 (At.perm sel15 (At.perm sel15 (At.perm sel15 (At.perm sel15 (At.perm sel14 (At.perm sel15 (bL (Lst:= [M39,M36,M33,M30,M27,M24,M21,M18,M15,M12,M9,M6,N1,R]) (Lst':= [M42,M39,M36,M33,M30,M27,M24,M21,M18,M15,M12,M9,M6,N1,R]) (.cons _ (.refl _)) (.cons _ (.refl _)) (aG (Nx.agree (nxsm rfl rfl rfl)) (.cons rfl .nil) (rBytes_b s44 (by decide)) Tryz.func71 rfl rfl (by simp) rfl ?_)))))))))))))))))
 rintro v45 L45 ⟨M45,p45,k45,rfl,rfl,t45⟩
 change At _ _ _ [M45,N2,M42,M39,M36,M33,M30,M27,M24,M21,M18,M15,M12,M9,M6,N1,R] _
 refine At.perm sel16 (At.perm sel16 (At.perm sel16 (At.perm sel16 (At.perm sel16 (At.perm sel16 (At.perm sel16 (At.perm sel16 (At.perm sel16 (At.perm sel16 (At.perm sel16 (At.perm sel16 (At.perm sel16 (At.perm sel16 (At.perm sel16 (At.perm sel15 (At.perm sel16 (bL (Lst:= [M42,M39,M36,M33,M30,M27,M24,M21,M18,M15,M12,M9,M6,N1,R]) (Lst':= [M45,M42,M39,M36,M33,M30,M27,M24,M21,M18,M15,M12,M9,M6,N1,R]) (.cons _ (.refl _)) (.cons _ (.refl _)) (aG (Nx.agree (nxsm rfl rfl rfl)) (.cons rfl .nil) (rBytes_b s47 (by decide)) Tryz.func71 rfl rfl (by simp) rfl ?_))))))))))))))))))
 rintro v48 L48 ⟨M48,p48,k48,rfl,rfl,t48⟩
 change At _ _ _ [M48,N2,M45,M42,M39,M36,M33,M30,M27,M24,M21,M18,M15,M12,M9,M6,N1,R] _
 refine At.perm sel17 (At.perm sel17 (At.perm sel17 (At.perm sel17 (At.perm sel17 (At.perm sel17 (At.perm sel17 (At.perm sel17 (At.perm sel17 (At.perm sel17 (At.perm sel17 (At.perm sel17 (At.perm sel17 (At.perm sel17 (At.perm sel17 (At.perm sel17 (At.perm sel16 (At.perm sel17 (bL (Lst:= [M45,M42,M39,M36,M33,M30,M27,M24,M21,M18,M15,M12,M9,M6,N1,R]) (Lst':= [M48,M45,M42,M39,M36,M33,M30,M27,M24,M21,M18,M15,M12,M9,M6,N1,R]) (.cons _ (.refl _)) (.cons _ (.refl _)) (aG (Nx.agree (nxsm rfl rfl rfl)) (.cons rfl .nil) (rOf_b k.bf) Tryz.func115 rfl rfl (by simp) rfl ?_)))))))))))))))))))
 rintro v51 L51 ⟨M51,p51,k51,rfl,rfl,t51⟩
 change At _ _ _ [M51,N2,M48,M45,M42,M39,M36,M33,M30,M27,M24,M21,M18,M15,M12,M9,M6,N1,R] _
 refine At.perm sel18 (At.perm sel18 (At.perm sel18 (At.perm sel18 (At.perm sel18 (At.perm sel18 (At.perm sel18 (At.perm sel18 (At.perm sel18 (At.perm sel18 (At.perm sel18 (At.perm sel18 (At.perm sel18 (At.perm sel18 (At.perm sel18 (At.perm sel18 (At.perm sel18 (At.perm sel17 (At.perm sel18 (bL (Lst:= [M48,M45,M42,M39,M36,M33,M30,M27,M24,M21,M18,M15,M12,M9,M6,N1,R]) (Lst':= [M51,M48,M45,M42,M39,M36,M33,M30,M27,M24,M21,M18,M15,M12,M9,M6,N1,R]) (.cons _ (.refl _)) (.cons _ (.refl _)) (aG (Nx.agree (nxsm rfl rfl rfl)) (.cons rfl .nil) (rBytes_b s53 (by decide)) Tryz.func71 rfl rfl (by simp) rfl ?_))))))))))))))))))))
 rintro v54 L54 ⟨M54,p54,k54,rfl,rfl,t54⟩
 change At _ _ _ [M54,N2,M51,M48,M45,M42,M39,M36,M33,M30,M27,M24,M21,M18,M15,M12,M9,M6,N1,R] _
 refine At.perm sel19 (At.perm sel19 (At.perm sel19 (At.perm sel19 (At.perm sel19 (At.perm sel19 (At.perm sel19 (At.perm sel19 (At.perm sel19 (At.perm sel19 (At.perm sel19 (At.perm sel19 (At.perm sel19 (At.perm sel19 (At.perm sel19 (At.perm sel19 (At.perm sel19 (At.perm sel19 (At.perm sel18 (At.perm sel19 (bL (Lst:= [M51,M48,M45,M42,M39,M36,M33,M30,M27,M24,M21,M18,M15,M12,M9,M6,N1,R]) (Lst':= [M54,M51,M48,M45,M42,M39,M36,M33,M30,M27,M24,M21,M18,M15,M12,M9,M6,N1,R]) (.cons _ (.refl _)) (.cons _ (.refl _)) ?_))))))))))))))))))))
 refine aG (Nx.agree (nxsm rfl rfl rfl)) (.cons rfl .nil) (rNum_b h.bg) Tryz.func116 rfl rfl (by simp) rfl ?_
 rintro v57 L57 ⟨M57,p57,k57,rfl,rfl,t57⟩
 change At _ _ _ [M57,N2,M54,M51,M48,M45,M42,M39,M36,M33,M30,M27,M24,M21,M18,M15,M12,M9,M6,N1,R] _
 refine At.perm sel20 (At.perm sel20 (At.perm sel20 (At.perm sel20 (At.perm sel20 (At.perm sel20 (At.perm sel20 (At.perm sel20 (At.perm sel20 (At.perm sel20 (At.perm sel20 (At.perm sel20 (At.perm sel20 (At.perm sel20 (At.perm sel20 (At.perm sel20 (At.perm sel20 (At.perm sel20 (At.perm sel20 (At.perm sel19 (At.perm sel20 ?_))))))))))))))))))))
 refine bL (Lst:= [M54,M51,M48,M45,M42,M39,M36,M33,M30,M27,M24,M21,M18,M15,M12,M9,M6,N1,R]) (Lst':= [M57,M54,M51,M48,M45,M42,M39,M36,M33,M30,M27,M24,M21,M18,M15,M12,M9,M6,N1,R]) (.cons _ (.refl _)) (.cons _ (.refl _)) (aG (Nx.agree (nxsm rfl rfl rfl)) (.cons rfl .nil) (rNum_b h.xs) Tryz.func116 rfl rfl (by simp) rfl ?_)
 rintro v60 L60 ⟨M60,p60,k60,rfl,rfl,t60⟩
 change At _ _ _ [M60,N2,M57,M54,M51,M48,M45,M42,M39,M36,M33,M30,M27,M24,M21,M18,M15,M12,M9,M6,N1,R] _
 refine At.perm sel21 (At.perm sel21 (At.perm sel21 (At.perm sel21 (At.perm sel21 (At.perm sel21 (At.perm sel21 (At.perm sel21 (At.perm sel21 (At.perm sel21 (At.perm sel21 (At.perm sel21 (At.perm sel21 (At.perm sel21 (At.perm sel21 (At.perm sel21 (At.perm sel21 (At.perm sel21 (At.perm sel21 (At.perm sel21 (At.perm sel20 ?_))))))))))))))))))))
 refine At.perm sel21 (bL (Lst:= [M57,M54,M51,M48,M45,M42,M39,M36,M33,M30,M27,M24,M21,M18,M15,M12,M9,M6,N1,R]) (Lst':= [M60,M57,M54,M51,M48,M45,M42,M39,M36,M33,M30,M27,M24,M21,M18,M15,M12,M9,M6,N1,R]) (.cons _ (.refl _)) (.cons _ (.refl _)) (aG (Nx.agree (nxss rfl rfl rfl rfl)) (.cons rfl .nil) (rBytes_b s62 (by decide)) Tryz.func71 rfl rfl (by simp) rfl ?_))
 rintro v63 L63 ⟨M63,p63,k63,rfl,rfl,t63⟩
 change At _ _ _ [M63,N2,M60,M57,M54,M51,M48,M45,M42,M39,M36,M33,M30,M27,M24,M21,M18,M15,M12,M9,M6,N1,R] _
 refine At.anyS (.refl _) (op_lit (Nx.agree (nxss rfl rfl rfl rfl)) Tryz.underlying89 ze91 sz91 (.cons rfl (.cons rfl (.cons rfl (.cons rfl (.cons rfl (.cons rfl (.cons rfl (.cons rfl (.cons rfl (.cons rfl (.cons rfl (.cons rfl (.cons rfl (.cons rfl (.cons rfl (.cons rfl (.cons rfl (.cons rfl (.cons rfl (.cons rfl .nil)))))))))))))))))))) rfl rfl (by simp [Value.cells]) rfl rfl rfl (fun N64 a64 r64=>?_))
 simp only [flatV,List.flatMap_cons,List.flatMap_nil,Value.cells,List.append_nil,List.cons_append,List.nil_append]at r64
 have s64:=r64.rsl
 refine At.anyS (.refl _) ?_
 obtain⟨xs,hxs⟩: ∃xs:List IV,xs= [ivS p6 h.pa.length k6,ivS p9 h.om.length k9,ivS p12 h.co.length k12,ivS p15 h.st.length k15,ivS p18 h.tx.length k18,ivS p21 h.rc.length k21,ivS p24 h.bl.length k24,ivS p27 (bytesOf h.df).length k27,ivS p30 (bytesOf h.nu.toNat).length k30,ivS p33 (bytesOf h.gl.toNat).length k33,ivS p36 (bytesOf h.gu.toNat).length k36,ivS p39 (bytesOf h.ti.toNat).length k39,ivS p42 h.ex.length k42,ivS p45 h.mx.length k45,ivS p48 h.no.length k48,ivS p51 (bytesOf h.bf).length k51,ivS p54 h.wd.length k54,ivS p57 (bytesOf h.bg.toNat).length k57,ivS p60 (bytesOf h.xs.toNat).length k60,ivS p63 h.be.length k63]:=⟨_,rfl⟩
 change Row N64 _ 3 a64 20 20 (cellsI [ivS p6 h.pa.length k6,ivS p9 h.om.length k9,ivS p12 h.co.length k12,ivS p15 h.st.length k15,ivS p18 h.tx.length k18,ivS p21 h.rc.length k21,ivS p24 h.bl.length k24,ivS p27 (bytesOf h.df).length k27,ivS p30 (bytesOf h.nu.toNat).length k30,ivS p33 (bytesOf h.gl.toNat).length k33,ivS p36 (bytesOf h.gu.toNat).length k36,ivS p39 (bytesOf h.ti.toNat).length k39,ivS p42 h.ex.length k42,ivS p45 h.mx.length k45,ivS p48 h.no.length k48,ivS p51 (bytesOf h.bf).length k51,ivS p54 h.wd.length k54,ivS p57 (bytesOf h.bg.toNat).length k57,ivS p60 (bytesOf h.xs.toNat).length k60,ivS p63 h.be.length k63])at r64
 rw [←hxs]at r64
 have s64:=r64.rsl
 have i64: ∀K:Heaplet,(∀N∈ [M6,M9,M12,M15,M18,M21,M24,M27,M30,M33,M36,M39,M42,M45,M48,M51,M54,M57,M60,M63],N.le K)→ItsN K h.items xs:=fun K hK=>by
  rw [hxs]
  have hle: ∀ {M:Heaplet},M∈ [M6,M9,M12,M15,M18,M21,M24,M27,M30,M33,M36,M39,M42,M45,M48,M51,M54,M57,M60,M63]→M.le K:=fun hM=>hK _ hM
  exact aV (ItN_S (t6.le (hle (by simp)))) (aV (ItN_S (t9.le (hle (by simp)))) (aV (ItN_S (t12.le (hle (by simp)))) (aV (ItN_S (t15.le (hle (by simp)))) (aV (ItN_S (t18.le (hle (by simp)))) (aV (ItN_S (t21.le (hle (by simp)))) (aV (ItN_S (t24.le (hle (by simp)))) (aV (ItN_S (t27.le (hle (by simp)))) (aV (ItN_S (t30.le (hle (by simp)))) (aV (ItN_S (t33.le (hle (by simp)))) (aV (ItN_S (t36.le (hle (by simp)))) (aV (ItN_S (t39.le (hle (by simp)))) (aV (ItN_S (t42.le (hle (by simp)))) (aV (ItN_S (t45.le (hle (by simp)))) (aV (ItN_S (t48.le (hle (by simp)))) (aV (ItN_S (t51.le (hle (by simp)))) (aV (ItN_S (t54.le (hle (by simp)))) (aV (ItN_S (t57.le (hle (by simp)))) (aV (ItN_S (t60.le (hle (by simp)))) (aV (ItN_S (t63.le (hle (by simp)))) (ItsN_nil))))))))))))))))))))
 clear hxs
 refine aD (nxsf rfl rfl rfl) rfl rfl (At.sNil (aB (s_2 (At.seq fun _ s_3=>At.region (aE (aC rfl) rfl rfl (aF (aC rfl) fl44_0 rfl rfl (aL (aC rfl) sc3 rfl B1 (by first|rfl|exact aK hls (j:=9) rfl rfl|exact aK hls (j:=10) rfl rfl|exact aK hls (j:=11) rfl rfl|exact aK hls (j:=12) rfl rfl|exact aK hls (j:=13) rfl rfl|exact aK hls (j:=18) rfl rfl|exact aK hls (j:=19) rfl rfl|exact aK hls (j:=0) rfl rfl) mem22 rfl ?_)))))))
 refine op_slice0 (aC rfl) se89 rfl (.some rfl (show _=(((h.fi.toNat:Nat)):Int)from by omega)) .none (by omega) (by omega) (by simp) rfl ?_
 refine At.perm sel23 (At.perm sel23 (At.perm sel4 (At.perm sel4 (At.perm bE (At.perm bO (At.perm sel7 (At.perm sel8 (At.perm bH (At.perm bD (At.perm sel11 (At.perm sel12 (At.perm sel13 (At.perm sel14 (At.perm sel15 (At.perm sel16 (At.perm sel17 (At.perm sel18 (At.perm sel19 (At.perm sel20 (At.perm sel21 ?_))))))))))))))))))))
 refine At.perm sel22 (At.perm sel23 (At.perm sel23 (At.pack (As:= [N64,M6,M9,M12,M15,M18,M21,M24,M27,M30,M33,M36,M39,M42,M45,M48,M51,M54,M57,M60,M63]) (fun hAZ=>?_))))
 obtain⟨Z,eZ⟩: ∃N,N=joinL [N64,M6,M9,M12,M15,M18,M21,M24,M27,M30,M33,M36,M39,M42,M45,M48,M51,M54,M57,M60,M63]:=⟨_,rfl⟩
 rw [←eZ]
 refine aG (aT rfl) (.cons rfl .nil) (rList_b) Tryz.func73 rfl rfl (by simp) rfl ?_
 rintro v69 L69 ⟨rfl,rfl⟩
 change At _ _ _ [Z,N2,N1,R] _
 refine aI (nxl rfl) sz91 rfl rfl rfl rfl rfl B2 (by simp) sel1 (fun N2 B2=>?_)
 simp only [setL,List.set]at B2
 refine aA (aB (s_3 (At.ret ((At.sub (L':= [N2,Z,R]) (.cons_cons _ (.cons_cons _ (.cons _ (.cons_cons _ (.slnil))))) (aW (L1:= [Z]) rfl (.cell rfl (aZ (ds:= [_,_,_]) ag91 B2 rfl rfl aP) .nil) (.cons _ (.refl _)) (.refl _) ?_))))))
 have q:=s64.take (hi:=h.fi.toNat) (m:=20) (by omega) (Nat.le_refl _) (by omega)
 rw [cellsI_take]at q
 exact⟨Z,ivL a64 h.fi.toNat 20,rfl,rfl,fun K hK=>ItN_L (q.le (Heaplet.le_trans (by rw [eZ];exact le_joinL hAZ (by simp)) hK)) (ItsN.take _ (i64 K fun N hN=>Heaplet.le_trans (by rw [eZ];exact le_joinL hAZ (List.mem_cons_of_mem _ hN)) hK))⟩
end
end Go.Proofs.YtjfagifjajielaaGreat
/- Layer 14, the reference: a block and a header are written. No condition but sizes. -/
namespace Go.Proofs.YtjfagifjajielaaGreat
open Go Go.RowKit
set_option maxRecDepth 100000
theorem insAll_at {gs:List (List UInt8)} {its:List It} {g:List UInt8} {t:It} (h:insAll gs=some its) (hg:g∈gs) (k:insE g=some t):t∈its:=by
 induction gs generalizing its with
 |nil=>cases hg
 |cons a r ih=>
  simp only [insAll]at h
  split at h
  ·cases h
  ·rename_i t0 ht0
   split at h
   ·cases h
   ·rename_i l0 hl0
    cases h
    rcases List.mem_cons.1 hg with rfl|hg
    ·rw [k]at ht0
     cases ht0
     exact List.mem_cons_self
    ·exact List.mem_cons_of_mem _ (ih hl0 hg)
theorem wBlk_deep {m:BlkM} {g:List UInt8} {t:It} (hg:g∈m.txs) (k:insE g=some t) (h:1022<t.depth):wBlk m=none:=by
 cases hi:insAll m.txs with
 |none=>exact wBlk_tx hi
 |some its=>exact wBlk_dp hi fun hd=>absurd (blk_depth.1 hd t (insAll_at hi hg k)) (by omega)
/-- What the reference's WriteBlock gives. -/
def RWBlkP (m:BlkM) (v:Value) (L:List Heaplet):Prop:=
 (∃bs M p c,wBlk m=some bs∧v=.tuple #[.slice p bs.length c,.bool true]∧L= [M]∧Row M 5 1 p bs.length c (u8s bs))∨
 (wBlk m=none∧v=.tuple #[.slice none 0 0,.bool false]∧L= [])
theorem RFields_or (n:Int):Fn Tryz.prog 21 #[.int .i64 n] [] [] (fun v L=>(okF n∧v=.bool true∧L= [])∨(¬okF n∧v=.bool false∧L= [])):=(RFields n).mono fun v L ⟨h1,h2⟩=>by
 by_cases h:okF n
 ·rw [decide_eq_true h]at h1;exact .inl ⟨h,h1,h2⟩
 ·rw [decide_eq_false h]at h1;exact .inr ⟨h,h1,h2⟩
theorem hd_f0 {h:HdM} {v:Value} :(h.cells v)[0]? =some (.int .i64 h.fi):=rfl
theorem om_fi {xs:List (HdM×Value)} {i:Nat} {x:HdM×Value} (hc: ∀y∈xs,(y.1.cells y.2).length=556) (hx:xs[i]? =some x):(omC xs)[i*556+0]? =some (.int .i64 x.1.fi):=by
 have h:=flat_at (fun x:HdM×Value=>x.1.cells x.2) hc hx
 have:=congrArg (fun l=>l[0]?) h
 simp only [List.getElem?_take,List.getElem?_drop]at this
 rw [if_pos (by decide)]at this
 rw [omC,this,hd_f0]
section
variable {N : Heaplet} {m : BlkM} {cs : List Value}
set_option maxHeartbeats 8000000 in
theorem RWriteBlock (hR':BlkR N m cs) (hz:m.Sz) (hx2:m.hd.ex.length≤1099511627776∧ ∀h∈m.oms,h.ex.length≤1099511627776) (hl: ∀its,insAll m.txs=some its→(blkIt m its).form.length≤1099511627776):Fn Tryz.prog 19 #[.agg cs.toArray] [] [N] (RWBlkP m):=by
 obtain⟨v1,ta,tc,vs,oa,oc,xs,wa,wc,rfl,⟨hk,ea,ec,rfl,hex⟩,hT,hBg,hO,hxs,hxm,hW,hwd⟩:=hR'
 have hH:=HdM.len hk (.slice ea m.hd.ex.length ec)
 have hH1:(m.hd.cells (.slice ea m.hd.ex.length ec)).all (·.oneCell')=true:=HdM.one rfl
 have hxl:xs.length=m.oms.length:=by rw [←hxm,List.length_map]
 have z1:=hz.tx
 have z2:=hz.om
 have z3:=hz.wd
 have hfi:(m.hd.cells (.slice ea m.hd.ex.length ec))[0]? =some (.int .i64 m.hd.fi):=hd_f0
 have hhd:=rHeader hk hex hx2.1
 obtain⟨H,hHe⟩: ∃H,m.hd.cells (.slice ea m.hd.ex.length ec)=H:=⟨_,rfl⟩
 rw [hHe]at hH hH1 hfi hhd⊢
 have hln:=bJ (t:=.slice ta m.txs.length tc) (o:=.slice oa m.oms.length oc) (p:=m.paid) (w:=.slice wa m.wds.length wc) hH
 have hone:=blk_one (p:=m.paid) hH1 (t:=.slice ta m.txs.length tc) (o:=.slice oa m.oms.length oc) (w:=.slice wa m.wds.length wc) rfl rfl rfl
 have gh:((blkP H (.slice ta m.txs.length tc) (.slice oa m.oms.length oc) m.paid (.slice wa m.wds.length wc)).flatten.drop (0+0)).take 556=H:=part_get (blk_lens hH) (j:=0) rfl rfl hH
 have gf:(blkP H (.slice ta m.txs.length tc) (.slice oa m.oms.length oc) m.paid (.slice wa m.wds.length wc)).flatten[0+0+0]? =some (.int .i64 m.hd.fi):=by
  rw [←hfi]
  show(H++_)[0]? =_
  rw [List.getElem?_append_left (by omega)]
 refine Fn.enter (vs:= [.agg (blkP H (.slice ta m.txs.length tc) (.slice oa m.oms.length oc) m.paid (.slice wa m.wds.length wc)).flatten.toArray]) Tryz.func19 rfl rfl rfl ?_
 intro E R hR
 have hNR:=hR N (by simp)
 have hO':=hO.le hNR
 have hT':=hT.le hNR
 have hW':=hW.le hNR
 change At _ _ E [R] _
 refine At.seq fun _ s_1=>At.region (op_box (aT rfl) rfl rfl rfl (fun N1 b1 B1=>aD (aC rfl) rfl rfl (aD (aC rfl) rfl rfl (aA (aB (s_1 (At.seq fun _ s_2=>At.seq fun _ s_3=>At.region (aF (aC rfl) fl54_0 rfl rfl (aF (aC rfl) fl44_0 rfl rfl (aL (aC rfl) sc3 rfl B1 (gf) aP rfl (aG (aT rfl) (.cons rfl .nil) (RFields_or _) Tryz.func21 rfl rfl (by simp) rfl ?_)))))))))))
 rintro v17 L17 (⟨hok,rfl,rfl⟩|⟨hbad,rfl,rfl⟩)
 ·change At _ _ _ [N1,R] _
  refine op_not (aC rfl) rfl rfl (aA (aB (s_3 (At.condF rfl (At.skip (aB (s_2 (At.seq fun _ s_4=>At.region (aD (aC rfl) rfl rfl (aD (aC rfl) rfl rfl (aD (aC rfl) rfl rfl (aA (aB (s_4 (At.seq fun _ s_5=>At.seq fun _ s_6=>At.region (aD (aC rfl) rfl rfl (aA (aB (s_6 (At.block (At.empty ?_)))))))))))))))))))))
  refine At.empty (At.perm sel3 (At.perm sel3 (At.perm sel2 (At.perm sel3 (At.loop (fun fr_ hp_ ms_=> ∃(i:Nat) (a:Option Addr) (c:Nat) (ys:List IV) (Na NJ:Heaplet),fr_= [(1,.pointer (some ⟨b1,0,none⟩)),(4,.slice none 0 0),(5,.slice a i c),(6,.slice none 0 0),(7,.int .i64 (i:Int))]∧hp_= [Na,NJ,N1,R]∧m.oms.length- i=ms_∧(i≤m.oms.length)∧(Row Na 91 3 a i c (cellsI ys))∧(∀K:Heaplet,NJ.le K→ItsN K ((m.oms.take i).map HdM.it) ys)∧(∀h∈m.oms.take i,okF h.fi)) ?_ (.refl _) ⟨0,none,0,[],nilH,nilH,rfl,rfl,rfl,Nat.zero_le _,Row.nil _ _ _,fun K _=>ItsN_nil,fun h hh=>by simp at hh⟩ ?_)))))
  ·exact .cons (by first|exact a6 rfl (by omega)|rfl) (.cons (by first|exact a6 rfl (by omega)|rfl) (.cons (by first|exact a6 rfl (by omega)|rfl) (.cons (by first|exact a6 rfl (by omega)|rfl) (.cons (by first|exact a6 rfl (by omega)|rfl) .nil))))
  rintro _ _ _ ⟨i,a,c,ys,Na,NJ,rfl,rfl,rfl,hi,ra,hy,hfo⟩
  refine At.seq fun _ s_7=>At.seq fun _ s_8=>At.region (aE (aC rfl) rfl rfl (aF (aC rfl) fl54_2 rfl rfl (aL (aC rfl) sc51 rfl B1 (gk_o hH) mem2 rfl (a7 (aC rfl) se51 rfl rfl (op_lss (aC rfl) rfl rfl rfl (aA (aB (s_8 (aO rfl (fun c23=>?_) (fun c23=>?_))))))))))
  ·refine At.knowT (d:=23) rfl c23 ?_
   have hlt:i<xs.length:=by omega
   obtain⟨⟨xh,xv⟩,hxi⟩: ∃x,xs[i]? =some x:=⟨_,List.getElem?_eq_getElem hlt⟩
   obtain⟨hxk,xa,xc,hxv,hxe⟩:=hxs _ (List.mem_of_getElem? hxi)
   simp only at hxv hxk hxe
   subst hxv
   have hgi:m.oms[i]? =some xh:=by rw [←hxm,List.getElem?_map,hxi];rfl
   have hxl2:=HdM.len hxk (.slice xa xh.ex.length xc)
   have hxe2:=hx2.2 xh (List.mem_of_getElem? hgi)
   have hxf:=om_fi (omC_cells hxs) hxi
   have hsome:oa.isSome=true:=by
    obtain⟨bA,oA,hao,_⟩:=hO.2.2.2 (by omega)
    rw [hao];rfl
   refine At.skip (aB (s_7 (At.seq fun _ s_9=>At.block (At.seq fun _ s_10=>At.seq fun _ s_11=>At.region (aF (aC rfl) fl54_2 rfl rfl (aL (aC rfl) sc51 rfl B1 (gk_o hH) mem2 rfl (aE (aC rfl) rfl rfl (op_idxE (aC rfl) se51 rfl rfl hO' (show _=(((i:Nat)):Int)from by omega) (by omega) rfl ?_))))))))
   refine op_fieldAddrE (aC rfl) fl44_0 rfl (by first|rfl|assumption) rfl ?_
   refine bK (aC rfl) sc3 rfl hO' (by first|exact get8 (by omega)|exact get64 (by omega)|exact get32 (by omega)|exact hxf) (by first|exact aP|exact bM|exact mem2|exact mem3|exact mem4|exact mem5|exact mem6|exact mem7|exact mem8|exact mem9) rfl ?_
   refine aG (aT rfl) (.cons rfl .nil) (RFields_or _) Tryz.func21 rfl rfl (by simp) rfl ?_
   rintro v32 L32 (⟨hok2,rfl,rfl⟩|⟨hbad,rfl,rfl⟩)
   ·change At _ _ _ [Na,NJ,N1,R] _
    refine op_not (aC rfl) rfl rfl (aA (aB (s_11 (At.condF rfl (At.skip (aB (s_10 (At.region (aE (aC rfl) rfl rfl (aF (aC rfl) fl54_2 rfl rfl (aL (aC rfl) sc51 rfl B1 (gk_o hH) mem2 rfl (aE (aC rfl) rfl rfl (op_idxE (aC rfl) se51 rfl rfl hO' (show _=(((i:Nat)):Int)from by omega) (by omega) rfl ?_)))))))))))))
    refine op_loadAggE (ds:=xh.cells (.slice xa xh.ex.length xc)) (aC rfl) ag44 rfl hO' (by exact flat_at (fun x:HdM×Value=>x.1.cells x.2) (omC_cells hxs) hxi) (by exact hxl2) (by omega) (by first|exact aP|exact bM|exact mem2|exact mem3|exact mem4|exact mem5|exact mem6|exact mem7|exact mem8|exact mem9) rfl ?_
    refine aG (aT rfl) (.cons rfl .nil) ((rHeader hxk hxe hxe2 hok2).liftB hNR) Tryz.func70 rfl rfl (by simp) rfl ?_
    rintro v40 L40 ⟨J40,x40,rfl,rfl,j40⟩
    change At _ _ _ [J40,Na,NJ,N1,R] _
    refine op_lit (aT rfl) Tryz.underlying89 ze91 sz91 (.cons rfl .nil) rfl rfl (by simp [Value.cells]) rfl rfl rfl (fun N41 a41 r41=>?_)
    simp only [flatV,List.flatMap_cons,List.flatMap_nil,Value.cells,List.append_nil,List.cons_append,List.nil_append]at r41
    have s41:=r41.rsl
    change Row N41 _ 3 a41 1 1 (cellsI [x40])at r41
    refine op_append (nxl rfl) Tryz.underlying89 Tryz.underlying89 te91 rfl rfl ra r41.rsl (by first|exact aP|exact bM|exact mem2|exact mem3|exact mem4|exact mem5|exact mem6|exact mem7|exact mem8|exact mem9) (cellsI_oneB _) (by omega) (by omega) sel2 rfl (fun N42 a42 p42 r42=>?_)
    have s42:=r42.rsl
    rw [←cellsI_app]at r42
    refine aD (aC rfl) rfl rfl (aA (bC (aB (s_9 (At.region (aE (aC rfl) rfl rfl (bI (aC rfl) rfl rfl (by omega) (by omega) rfl (aD (aC rfl) rfl rfl (aA (aB (At.perm bE (At.perm bE (At.perm sel3 (At.perm sel3 (At.perm sel4 (At.perm bE (bB (fun W W1 W2=>At.sub (L':= [W,N42,N1,R]) (.cons_cons _ (.cons_cons _ (.cons _ (.cons_cons _ (.cons_cons _ (.slnil)))))) (At.perm sel3 (At.perm sel3 (At.perm sel2 ?_)))))))))))))))))))))
    refine At.perm sel3 ?_
    refine At.back ?_ (.refl _) ⟨i+1,a42,p42,ys++ [x40],N42,W,rfl,rfl,rfl,by omega,r42,by rw [take_next2 hgi,List.map_append];exact fun Q hJ=>(hy Q (Heaplet.le_trans W1 hJ)).snoc (j40 Q (Heaplet.le_trans W2 hJ)),by rw [take_next2 hgi];exact fun h hh=>(List.mem_append.1 hh).elim (hfo h) fun h2=>by rw [List.mem_singleton.1 h2];exact hok2⟩ ?_
    ·exact .cons (by first|exact a6 rfl (by omega)|rfl) (.cons (by first|exact a6 rfl (by omega)|rfl) (.cons (by first|exact a6 rfl (by omega)|rfl) (.cons (by first|exact a6 rfl (by omega)|rfl) (.cons (by first|exact a6 rfl (by omega)|rfl) .nil))))
    ·omega
   change At _ _ _ [Na,NJ,N1,R] _
   refine op_not (aC rfl) rfl rfl (aA (aB (s_11 (At.condT rfl (At.seq fun _ s_12=>At.region (aD (aC rfl) rfl rfl (aD (aC rfl) rfl rfl (aA (aB (s_12 (At.ret (aJ (bP (aJ (aJ (bP (aJ ((At.sub (L':= [R]) (.cons _ (.cons _ (.cons _ (.cons_cons _ (.slnil))))) (aU (L1:= []) rfl (.tmp rfl (.tmp rfl .nil)) rfl (.refl _) (.refl _) ?_))))))))))))))))))))
   exact .inr ⟨wBlk_om (List.mem_of_getElem? hgi) hbad,rfl,rfl⟩
  refine At.knowF (d:=23) rfl c23 ?_
  obtain rfl:i=m.oms.length:=by omega
  rw [List.take_of_length_le (Nat.le_refl _)]at hy hfo
  refine At.exit (aM (aM (At.inHit (aB (s_5 (At.seq fun _ s_13=>At.seq fun _ s_14=>At.region (aD (aC rfl) rfl rfl (aA (aB (s_14 (At.block (At.empty (At.empty (At.perm bE (At.perm bE (At.perm bE (At.perm bE (At.perm sel4 (At.perm bE (At.loop (fun fr_ hp_ ms_=> ∃(i:Nat) (a2:Option Addr) (c2:Nat) (ys2:List IV) (its:List It) (Nb NK:Heaplet),fr_= [(1,.pointer (some ⟨b1,0,none⟩)),(4,.slice a2 i c2),(5,.slice a m.oms.length c),(6,.slice none 0 0),(8,.int .i64 (i:Int))]∧hp_= [Nb,NK,Na,NJ,N1,R]∧m.txs.length- i=ms_∧(i≤m.txs.length)∧(Row Nb 91 3 a2 i c2 (cellsI ys2))∧(∀K:Heaplet,NK.le K→ItsN K its ys2)∧(insAll (m.txs.take i)=some its)∧(∀t∈its,t.depth≤1022)) ?_ (.refl _) ⟨0,none,0,[],[],nilH,nilH,rfl,rfl,rfl,Nat.zero_le _,Row.nil _ _ _,fun K _=>ItsN_nil,rfl,fun t ht=>absurd ht List.not_mem_nil⟩ ?_))))))))))))))))))))
  ·exact .cons (by first|exact a6 rfl (by omega)|rfl) (.cons (by first|exact a6 rfl (by omega)|rfl) (.cons (by first|exact a6 rfl (by omega)|rfl) (.cons (by first|exact a6 rfl (by omega)|rfl) (.cons (by first|exact a6 rfl (by omega)|rfl) .nil))))
  rintro _ _ _ ⟨i,a2,c2,ys2,its,Nb,NK,rfl,rfl,rfl,hi,rb,hy2,hin,hdp⟩
  refine At.seq fun _ s_15=>At.seq fun _ s_16=>At.region (aE (aC rfl) rfl rfl (aF (aC rfl) fl54_1 rfl rfl (aL (aC rfl) sc50 rfl B1 (gk_t hH) mem4 rfl (a7 (aC rfl) se50 rfl rfl (op_lss (aC rfl) rfl rfl rfl (aA (aB (s_16 (aO rfl (fun c47=>?_) (fun c47=>?_))))))))))
  ·refine At.knowT (d:=47) rfl c47 ?_
   have hlt:i<m.txs.length:=by omega
   obtain⟨g,hgi⟩: ∃g,m.txs[i]? =some g:=⟨_,List.getElem?_eq_getElem hlt⟩
   have hgm:=List.mem_of_getElem? hgi
   obtain⟨pg,cg,hvi,hg⟩:=hBg.rsl i g hgi
   have hgl:=hz.tl g hgm
   have hg:=hg.le hNR
   have hf8:((g.getD 0 0).toNat:Int)=(first8 g:Int):=rfl
   refine At.skip (aB (s_15 (At.seq fun _ s_17=>At.block (At.seq fun _ s_18=>At.region (aF (aC rfl) fl54_1 rfl rfl (aL (aC rfl) sc50 rfl B1 (gk_t hH) mem4 rfl (aE (aC rfl) rfl rfl (op_idx1 (aC rfl) se50 rfl rfl hT' (show _=(((i:Nat)):Int)from by omega) (by omega) rfl ?_))))))))
   refine bK (aC rfl) sc22 rfl hT' (by first|exact get8 (by omega)|exact get64 (by omega)|exact get32 (by omega)|exact hvi) (by first|exact aP|exact bM|exact mem2|exact mem3|exact mem4|exact mem5|exact mem6|exact mem7|exact mem8|exact mem9) rfl ?_
   refine aD (aC rfl) rfl rfl (aA (aB (s_18 (At.block (At.seq fun _ s_19=>At.region (aE (aC rfl) rfl rfl (a7 (aC rfl) se22 rfl rfl (op_eql (aC rfl) rfl rfl rfl (aE (aC rfl) rfl rfl (At.partP (d:=75) rfl (fun g75=>?_) (fun g75=>?_)))))))))))
   ·refine aN rfl rfl rfl rfl rfl rfl rfl (aN rfl rfl rfl rfl rfl rfl rfl (aN rfl rfl rfl rfl rfl rfl rfl (aN rfl rfl rfl rfl rfl rfl rfl (bN (aC rfl) rfl rfl rfl (aE (aC rfl) rfl rfl (aN rfl rfl rfl rfl rfl rfl rfl (aN rfl rfl rfl rfl rfl rfl rfl (aN rfl rfl rfl rfl rfl rfl rfl (aN rfl rfl rfl rfl rfl rfl rfl (aN rfl rfl rfl rfl rfl rfl rfl (op_skipU rfl rfl rfl rfl rfl rfl (op_skipU rfl rfl rfl rfl rfl rfl (op_skipU rfl rfl rfl rfl rfl rfl (op_skipU rfl rfl rfl rfl rfl rfl (aN rfl rfl rfl rfl rfl rfl rfl (bN (aC rfl) rfl rfl rfl (aD (aC rfl) rfl rfl (aA (aB (s_19 (At.condT rfl ?_)))))))))))))))))))))
    refine At.seq fun _ s_20=>At.region (aD (aC rfl) rfl rfl (aD (aC rfl) rfl rfl (aA (aB (s_20 (At.ret (bP (bP (aJ (aJ (bP (aJ ((At.sub (L':= [R]) (.cons _ (.cons _ (.cons _ (.cons _ (.cons _ (.cons_cons _ (.slnil))))))) (aU (L1:= []) rfl (.tmp rfl (.tmp rfl .nil)) rfl (.refl _) (.refl _) ?_)))))))))))))))
    exact .inr ⟨wBlk_tx (insAll_none hgm (ins_0 (by omega))),rfl,rfl⟩
   refine aE (bF rfl rfl rfl rfl) rfl rfl (op_idx1 (bF rfl rfl rfl rfl) se22 rfl rfl hg (show _=(((0:Nat)):Int)from by omega) (by omega) rfl ?_)
   refine bK (bF rfl rfl rfl rfl) sc5 rfl hg (by first|exact get8 (by omega)|exact get64 (by omega)|exact get32 (by omega)) (by first|exact aP|exact bM|exact mem2|exact mem3|exact mem4|exact mem5|exact mem6|exact mem7|exact mem8|exact mem9) rfl ?_
   refine op_eql (bF rfl rfl rfl rfl) rfl rfl rfl (op_pickF (aC rfl) rfl rfl rfl (aE (aC rfl) rfl rfl (At.partP (d:=81) rfl (fun g81=>?_) (fun g81=>?_))))
   ·refine aN rfl rfl rfl rfl rfl rfl rfl (aN rfl rfl rfl rfl rfl rfl rfl (aN rfl rfl rfl rfl rfl rfl rfl (aN rfl rfl rfl rfl rfl rfl rfl (aN rfl rfl rfl rfl rfl rfl rfl (op_skipU rfl rfl rfl rfl rfl rfl (op_skipU rfl rfl rfl rfl rfl rfl (op_skipU rfl rfl rfl rfl rfl rfl (op_skipU rfl rfl rfl rfl rfl rfl (aN rfl rfl rfl rfl rfl rfl rfl (bN (aC rfl) rfl rfl rfl (aD (aC rfl) rfl rfl (aA (aB (s_19 (At.condT rfl (At.seq fun _ s_21=>At.region (aD (aC rfl) rfl rfl (aD (aC rfl) rfl rfl (aA (aB (s_21 ?_)))))))))))))))))))))
    refine At.ret (bP (bP (aJ (aJ (bP (aJ ((At.sub (L':= [R]) (.cons _ (.cons _ (.cons _ (.cons _ (.cons _ (.cons_cons _ (.slnil))))))) (aU (L1:= []) rfl (.tmp rfl (.tmp rfl .nil)) rfl (.refl _) (.refl _) ?_)))))))))
    exact .inr ⟨wBlk_tx (insAll_none hgm (ins_0 (by omega))),rfl,rfl⟩
   refine aE (bF rfl rfl rfl rfl) rfl rfl (op_idx1 (bF rfl rfl rfl rfl) se22 rfl rfl hg (show _=(((0:Nat)):Int)from by omega) (by omega) rfl ?_)
   refine bK (bF rfl rfl rfl rfl) sc5 rfl hg (by first|exact get8 (by omega)|exact get64 (by omega)|exact get32 (by omega)) (by first|exact aP|exact bM|exact mem2|exact mem3|exact mem4|exact mem5|exact mem6|exact mem7|exact mem8|exact mem9) rfl ?_
   refine op_geq (bF rfl rfl rfl rfl) rfl rfl rfl (aE (bF rfl rfl rfl rfl) rfl rfl (At.partP (d:=86) rfl (fun g86=>?_) (fun g86=>?_)))
   ·refine aE (bF rfl rfl rfl rfl) rfl rfl (op_idx1 (bF rfl rfl rfl rfl) se22 rfl rfl hg (show _=(((0:Nat)):Int)from by omega) (by omega) rfl ?_)
    refine bK (bF rfl rfl rfl rfl) sc5 rfl hg (by first|exact get8 (by omega)|exact get64 (by omega)|exact get32 (by omega)) (by first|exact aP|exact bM|exact mem2|exact mem3|exact mem4|exact mem5|exact mem6|exact mem7|exact mem8|exact mem9) rfl ?_
    refine op_lss (bF rfl rfl rfl rfl) rfl rfl rfl (bN (bF rfl rfl rfl rfl) rfl rfl rfl (op_pickF (aC rfl) rfl rfl rfl (aD (aC rfl) rfl rfl (aA (aB (s_19 (aO rfl (fun c71=>?_) (fun c71=>?_))))))))
    ·refine At.knowT (d:=71) rfl c71 (At.seq fun _ s_22=>At.region (aD (aC rfl) rfl rfl (aD (aC rfl) rfl rfl (aA (aB (s_22 (At.ret (bP (bP (aJ (aJ (bP (aJ ((At.sub (L':= [R]) (.cons _ (.cons _ (.cons _ (.cons _ (.cons _ (.cons_cons _ (.slnil))))))) (aU (L1:= []) rfl (.tmp rfl (.tmp rfl .nil)) rfl (.refl _) (.refl _) ?_))))))))))))))))
     exact .inr ⟨wBlk_tx (insAll_none hgm (ins_0 (by omega))),rfl,rfl⟩
    refine At.knowF (d:=71) rfl c71 (At.seq fun _ s_23=>At.region (aE (aC rfl) rfl rfl (op_idx1 (aC rfl) se22 rfl rfl hg (show _=(((0:Nat)):Int)from by omega) (by omega) rfl ?_)))
    refine bK (aC rfl) sc5 rfl hg (by first|exact get8 (by omega)|exact get64 (by omega)|exact get32 (by omega)) (by first|exact aP|exact bM|exact mem2|exact mem3|exact mem4|exact mem5|exact mem6|exact mem7|exact mem8|exact mem9) rfl ?_
    refine op_lss (aC rfl) rfl rfl rfl (aD (aC rfl) rfl rfl (aA (aB (s_23 (aO rfl (fun c93=>?_) (fun c93=>?_))))))
    ·exfalso;omega
    refine At.knowF (d:=93) rfl c93 (At.seq fun _ s_24=>At.region (aE (aC rfl) rfl rfl (aG (aT rfl) (.cons rfl .nil) (rDecode_f hg (by omega)) Tryz.func36 rfl rfl (by simp) rfl ?_)))
    rintro v57 L57 (⟨t57,N57,x57,hd57,rfl,rfl,j57⟩|⟨e57,hd57,rfl,rfl,hne⟩)
    ·change At _ _ _ [N57,Nb,NK,Na,NJ,N1,R] _
     refine aE (aC rfl) rfl rfl (aH (aC rfl) rfl rfl rfl (aH (aC rfl) rfl rfl rfl (aS (aT rfl) ze91 rfl (fun N10 b10 B10=>?_))))
     change Blk N10 b10 _ [.bool false,.slice none 0 0,.slice none 0 0]at B10
     refine aI (nxl rfl) sz91 rfl rfl rfl rfl rfl B10 (by simp) sel0 (fun N10 B10=>?_)
     simp only [setL,List.set]at B10
     refine aD (aC rfl) rfl rfl (aA (aB (s_24 (At.seq fun _ s_25=>At.seq fun _ s_26=>At.region (aE (aC rfl) rfl rfl (op_neq (aC rfl) rfl rfl rfl (aE (aC rfl) rfl rfl (At.partP (d:=62) rfl (fun g62=>?_) (fun g62=>?_)))))))))
     ·exact absurd rfl g62
     refine aQ (ds:= [.bool x57.l,.slice x57.ab x57.nb x57.cb,.slice x57.ai x57.ni x57.ci]) (bF rfl rfl rfl rfl) ag91 rfl B10 (by first|(rw [List.drop_zero,List.take_of_length_le (by first|(simp;done)|(simp;omega))];done)|rfl) (by first|(simp;done)|(simp;omega)) aP rfl ?_
     refine aG (nxga rfl rfl rfl rfl) (.cons rfl (.cons rfl .nil)) (Depth_f t57 N57 x57 1024 1024 j57 rfl (by decide)) Tryz.func72 rfl rfl (by simp) rfl ?_
     rintro v64 L64 ⟨rfl,rfl⟩
     change At _ _ _ [N10,N57,Nb,NK,Na,NJ,N1,R] _
     refine op_gtr (bF rfl rfl rfl rfl) rfl rfl rfl (op_pickF (aC rfl) rfl rfl rfl (aA (aB (s_26 (aO rfl (fun c66=>?_) (fun c66=>?_))))))
     ·refine At.knowT (d:=66) rfl c66 (At.seq fun _ s_27=>At.region (aD (aC rfl) rfl rfl (aD (aC rfl) rfl rfl (aA (aB (s_27 (At.ret (aJ (bP (bP (aJ (aJ (bP (aJ ((At.sub (L':= [R]) (.cons _ (.cons _ (.cons _ (.cons _ (.cons _ (.cons _ (.cons _ (.cons_cons _ (.slnil))))))))) (aU (L1:= []) rfl (.tmp rfl (.tmp rfl .nil)) rfl (.refl _) (.refl _) ?_)))))))))))))))))
      exact .inr ⟨wBlk_deep hgm (ins_2 (by omega) (by omega) hd57) (by omega),rfl,rfl⟩
     refine At.knowF (d:=66) rfl c66 (At.skip (aB (s_25 (At.region (aE (aC rfl) rfl rfl ?_)))))
     refine aQ (ds:= [.bool x57.l,.slice x57.ab x57.nb x57.cb,.slice x57.ai x57.ni x57.ci]) (aC rfl) ag91 rfl B10 (by first|(rw [List.drop_zero,List.take_of_length_le (by first|(simp;done)|(simp;omega))];done)|rfl) (by first|(simp;done)|(simp;omega)) aP rfl ?_
     refine op_lit (aT rfl) Tryz.underlying89 ze91 sz91 (.cons rfl .nil) rfl rfl (by simp [Value.cells]) rfl rfl rfl (fun N69 a69 r69=>?_)
     simp only [flatV,List.flatMap_cons,List.flatMap_nil,Value.cells,List.append_nil,List.cons_append,List.nil_append]at r69
     have s69:=r69.rsl
     change Row N69 _ 3 a69 1 1 (cellsI [x57])at r69
     refine op_append (nxl rfl) Tryz.underlying89 Tryz.underlying89 te91 rfl rfl rb r69.rsl (by first|exact aP|exact bM|exact mem2|exact mem3|exact mem4|exact mem5|exact mem6|exact mem7|exact mem8|exact mem9) (cellsI_oneB _) (by omega) (by omega) sel3 rfl (fun N70 a70 p70 r70=>?_)
     have s70:=r70.rsl
     rw [←cellsI_app]at r70
     refine aD (aC rfl) rfl rfl (aA (bC (bC (aB (s_17 (At.region (aE (aC rfl) rfl rfl (bI (aC rfl) rfl rfl (by omega) (by omega) rfl (aD (aC rfl) rfl rfl (aA (aB (At.perm sel8 (At.perm sel8 (At.perm sel8 (At.perm sel8 (At.perm bO (At.perm bO (At.perm bO (At.perm sel7 (At.perm sel8 (bB (fun W W1 W2=>?_))))))))))))))))))))))
     refine At.sub (L':= [W,N70,Na,NJ,N1,R]) (.cons_cons _ (.cons_cons _ (.cons _ (.cons _ (.cons_cons _ (.cons_cons _ (.cons_cons _ (.cons_cons _ (.slnil))))))))) (At.perm bE (At.perm bE (At.perm bE (At.perm bE (At.perm sel4 (At.perm bE ?_))))))
     refine At.back ?_ (.refl _) ⟨i+1,a70,p70,ys2++ [x57],its++ [t57],N70,W,rfl,rfl,rfl,by omega,r70,fun Q hJ=>(hy2 Q (Heaplet.le_trans W1 hJ)).snoc (j57.le (Heaplet.le_trans W2 hJ)),by rw [take_next2 hgi];exact insAll_snoc hin (ins_2 (by omega) (by omega) hd57),fun t ht=>(List.mem_append.1 ht).elim (hdp t) fun h2=>by rw [List.mem_singleton.1 h2];omega⟩ ?_
     ·exact .cons (by first|exact a6 rfl (by omega)|rfl) (.cons (by first|exact a6 rfl (by omega)|rfl) (.cons (by first|exact a6 rfl (by omega)|rfl) (.cons (by first|exact a6 rfl (by omega)|rfl) (.cons (by first|exact a6 rfl (by omega)|rfl) .nil))))
     ·omega
    change At _ _ _ [Nb,NK,Na,NJ,N1,R] _
    refine aE (aC rfl) rfl rfl (aH (aC rfl) rfl rfl rfl (aH (aC rfl) rfl rfl rfl (aS (aT rfl) ze91 rfl (fun N10 b10 B10=>?_))))
    change Blk N10 b10 _ [.bool false,.slice none 0 0,.slice none 0 0]at B10
    refine aI (nxl rfl) sz91 rfl rfl rfl rfl rfl B10 (by simp) sel0 (fun N10 B10=>?_)
    simp only [setL,List.set]at B10
    refine aD (aC rfl) rfl rfl (aA (aB (s_24 (At.seq fun _ s_28=>At.seq fun _ s_29=>At.region (aE (aC rfl) rfl rfl (op_neq (aC rfl) rfl rfl rfl (aE (aC rfl) rfl rfl (At.partP (d:=62) rfl (fun g62=>?_) (fun g62=>?_)))))))))
    rotate_left
    ·exfalso;omega
    refine aN rfl rfl rfl rfl rfl rfl rfl (aN rfl rfl rfl rfl rfl rfl rfl (aN rfl rfl rfl rfl rfl rfl rfl (bN (aC rfl) rfl rfl rfl (aA (aB (s_29 (At.condT rfl (At.seq fun _ s_30=>At.region (aD (aC rfl) rfl rfl (aD (aC rfl) rfl rfl (aA (aB (s_30 (At.ret (aJ (bP (bP (aJ (aJ (bP (aJ ((At.sub (L':= [R]) (.cons _ (.cons _ (.cons _ (.cons _ (.cons _ (.cons _ (.cons_cons _ (.slnil)))))))) (aU (L1:= []) rfl (.tmp rfl (.tmp rfl .nil)) rfl (.refl _) (.refl _) ?_))))))))))))))))))))))))
    exact .inr ⟨wBlk_tx (insAll_none hgm (ins_3 (by omega) (by omega) hd57)),rfl,rfl⟩
   refine aN rfl rfl rfl rfl rfl rfl rfl (aN rfl rfl rfl rfl rfl rfl rfl (aN rfl rfl rfl rfl rfl rfl rfl (aN rfl rfl rfl rfl rfl rfl rfl (op_pickF (bF rfl rfl rfl rfl) rfl rfl rfl (op_pickF (aC rfl) rfl rfl rfl (aD (aC rfl) rfl rfl (aA (aB (s_19 (At.condF rfl (At.seq fun _ s_31=>At.region (aE (aC rfl) rfl rfl (op_idx1 (aC rfl) se22 rfl rfl hg (show _=(((0:Nat)):Int)from by omega) (by omega) rfl ?_)))))))))))))
   refine bK (aC rfl) sc5 rfl hg (by first|exact get8 (by omega)|exact get64 (by omega)|exact get32 (by omega)) (by first|exact aP|exact bM|exact mem2|exact mem3|exact mem4|exact mem5|exact mem6|exact mem7|exact mem8|exact mem9) rfl ?_
   refine op_lss (aC rfl) rfl rfl rfl (aD (aC rfl) rfl rfl (aA (aB (s_31 (aO rfl (fun c93=>?_) (fun c93=>?_))))))
   rotate_left
   ·exfalso;omega
   refine At.knowT (d:=93) rfl c93 (At.region (aE (aC rfl) rfl rfl (aE (aC rfl) rfl rfl (aG (aT rfl) (.cons rfl .nil) (rBytes_b hg (by omega)) Tryz.func71 rfl rfl (by simp) rfl ?_))))
   rintro v100 L100 ⟨M100,p100,k100,rfl,rfl,s100⟩
   change At _ _ _ [M100,Nb,NK,Na,NJ,N1,R] _
   refine op_lit (aT rfl) Tryz.underlying89 ze91 sz91 (.cons rfl .nil) rfl rfl (by simp [Value.cells]) rfl rfl rfl (fun N101 a101 r101=>?_)
   simp only [flatV,List.flatMap_cons,List.flatMap_nil,Value.cells,List.append_nil,List.cons_append,List.nil_append]at r101
   have s101:=r101.rsl
   change Row N101 _ 3 a101 1 1 (cellsI [ivS p100 g.length k100])at r101
   refine op_append (nxl rfl) Tryz.underlying89 Tryz.underlying89 te91 rfl rfl rb r101.rsl (by first|exact aP|exact bM|exact mem2|exact mem3|exact mem4|exact mem5|exact mem6|exact mem7|exact mem8|exact mem9) (cellsI_oneB _) (by omega) (by omega) sel2 rfl (fun N102 a102 p102 r102=>?_)
   have s102:=r102.rsl
   rw [←cellsI_app]at r102
   refine aD (aC rfl) rfl rfl (aA (bC (bC (aB (s_17 (At.region (aE (aC rfl) rfl rfl (bI (aC rfl) rfl rfl (by omega) (by omega) rfl (aD (aC rfl) rfl rfl (aA (aB (At.perm sel7 (At.perm sel7 (At.perm sel7 (At.perm sel7 (At.perm bE (At.perm bE (At.perm bO (At.perm sel7 (bB (fun W W1 W2=>At.sub (L':= [W,N102,Na,NJ,N1,R]) (.cons_cons _ (.cons_cons _ (.cons _ (.cons_cons _ (.cons_cons _ (.cons_cons _ (.cons_cons _ (.slnil)))))))) ?_)))))))))))))))))))))
   refine At.perm bE (At.perm bE (At.perm bE (At.perm bE (At.perm sel4 (At.perm bE ?_)))))
   refine At.back ?_ (.refl _) ⟨i+1,a102,p102,ys2++ [ivS p100 g.length k100],its++ [itS g],N102,W,rfl,rfl,rfl,by omega,r102,fun Q hJ=>(hy2 Q (Heaplet.le_trans W1 hJ)).snoc (ItN_S (s100.le (Heaplet.le_trans W2 hJ))),by rw [take_next2 hgi];exact insAll_snoc hin (ins_1 (by omega) (by omega)),fun t ht=>(List.mem_append.1 ht).elim (hdp t) fun h2=>by rw [List.mem_singleton.1 h2,depthS];decide⟩ ?_
   ·exact .cons (by first|exact a6 rfl (by omega)|rfl) (.cons (by first|exact a6 rfl (by omega)|rfl) (.cons (by first|exact a6 rfl (by omega)|rfl) (.cons (by first|exact a6 rfl (by omega)|rfl) (.cons (by first|exact a6 rfl (by omega)|rfl) .nil))))
   ·omega
  refine At.knowF (d:=47) rfl c47 ?_
  obtain rfl:i=m.txs.length:=by omega
  rw [List.take_of_length_le (Nat.le_refl _)]at hin
  refine At.exit (aM (aM (At.inHit (aB (s_13 (At.seq fun _ s_32=>At.region (aF (aC rfl) fl54_0 rfl rfl (aQ (ds:=H) (aC rfl) ag44 rfl B1 (by exact gh) (by exact hH) mem4 rfl ?_))))))))
  refine aG (aT rfl) (.cons rfl .nil) ((hhd hok).liftB hNR) Tryz.func70 rfl rfl (by simp) rfl ?_
  rintro v105 L105 ⟨J105,x105,rfl,rfl,j105⟩
  change At _ _ _ [J105,Nb,NK,Na,NJ,N1,R] _
  refine aE (aC rfl) rfl rfl (aG (aT rfl) (.cons rfl .nil) (rList_b) Tryz.func73 rfl rfl (by simp) rfl ?_)
  rintro v107 L107 ⟨rfl,rfl⟩
  change At _ _ _ [J105,Nb,NK,Na,NJ,N1,R] _
  refine aE (aC rfl) rfl rfl (aG (aT rfl) (.cons rfl .nil) (rList_b) Tryz.func73 rfl rfl (by simp) rfl ?_)
  rintro v109 L109 ⟨rfl,rfl⟩
  change At _ _ _ [J105,Nb,NK,Na,NJ,N1,R] _
  refine op_lit (aT rfl) Tryz.underlying89 ze91 sz91 (.cons rfl (.cons rfl (.cons rfl .nil))) rfl rfl (by simp [Value.cells]) rfl rfl rfl (fun N110 a110 r110=>?_)
  simp only [flatV,List.flatMap_cons,List.flatMap_nil,Value.cells,List.append_nil,List.cons_append,List.nil_append]at r110
  have s110:=r110.rsl
  change Row N110 _ 3 a110 3 3 (cellsI [x105,ivL a2 m.txs.length c2,ivL a m.oms.length c])at r110
  refine aD (aC rfl) rfl rfl (aA (aB (s_32 (At.seq fun _ s_33=>At.meet (fun fr_ hp_=> ∃(q:Option Addr) (qn qc:Nat) (zs:List IV) (NZ Nc NL:Heaplet),fr_= [(12,.slice q qn qc)]∧hp_= [NZ,Nc,NL,Nb,NK,Na,NJ,J105,R]∧(Row NZ 91 3 q qn qc (cellsI zs))∧(∀K:Heaplet,Nc.le K→NL.le K→Nb.le K→NK.le K→Na.le K→NJ.le K→J105.le K→ItsN K (blkParts m its) zs)) ?_ (fun K33_ jk_33=>?_)))))
  rotate_left
  ·skip
   refine At.seq fun _ s_34=>At.region (aF (aC rfl) fl54_3 rfl rfl (aL (aC rfl) sc4 rfl B1 (gk_p hH) mem6 rfl (aA (aB (s_34 (At.condB rfl (fun c112=>?_) (fun c112=>?_)))))))
   ·refine At.knowBT (d:=112) rfl c112 (At.seq fun _ s_35=>At.seq fun _ s_36=>At.region (aD (aC rfl) rfl rfl (aA (aB (s_36 (At.block (At.empty (At.empty (At.perm bH (At.perm bH (At.perm bE (At.perm bH (At.perm bH (At.perm bH (At.perm bH (At.perm bH (At.perm sel8 (At.perm bH (At.loop (fun fr_ hp_ ms_=> ∃(i:Nat) (a3:Option Addr) (c3:Nat) (ys3:List IV) (Nc NL:Heaplet),fr_= [(1,.pointer (some ⟨b1,0,none⟩)),(12,.slice a110 3 3),(6,.slice a3 i c3),(13,.int .i64 (i:Int))]∧hp_= [Nc,NL,N110,Nb,NK,Na,NJ,J105,N1,R]∧m.wds.length- i=ms_∧(i≤m.wds.length)∧(Row Nc 91 3 a3 i c3 (cellsI ys3))∧(∀K:Heaplet,NL.le K→ItsN K ((m.wds.take i).map wdI) ys3)) ?_ (.refl _) ⟨0,none,0,[],nilH,nilH,rfl,rfl,rfl,Nat.zero_le _,Row.nil _ _ _,fun K _=>ItsN_nil⟩ ?_)))))))))))))))))))
    ·exact .cons (by first|exact a6 rfl (by omega)|rfl) (.cons (by first|exact a6 rfl (by omega)|rfl) (.cons (by first|exact a6 rfl (by omega)|rfl) (.cons (by first|exact a6 rfl (by omega)|rfl) .nil)))
    rintro _ _ _ ⟨i,a3,c3,ys3,Nc,NL,rfl,rfl,rfl,hi,rc,hy3⟩
    refine At.seq fun _ s_37=>At.seq fun _ s_38=>At.region (aE (aC rfl) rfl rfl (aF (aC rfl) fl54_4 rfl rfl (aL (aC rfl) sc52 rfl B1 (gk_w hH) mem8 rfl (a7 (aC rfl) se52 rfl rfl (op_lss (aC rfl) rfl rfl rfl (aA (aB (s_38 (aO rfl (fun c117=>?_) (fun c117=>?_))))))))))
    ·refine At.knowT (d:=117) rfl c117 ?_
     have hlt:i<m.wds.length:=by omega
     obtain⟨w,hgi⟩: ∃w,m.wds[i]? =some w:=⟨_,List.getElem?_eq_getElem hlt⟩
     have hwa:=hwd w (List.mem_of_getElem? hgi)
     have hwl:=wdC_len (i:=w.ix) (v:=w.va) (m:=w.am) hwa
     have hwc: ∀x∈m.wds,(WdM.cells x).length=23:=fun x hx=>wdC_len (hwd x hx)
     refine At.skip (aB (s_37 (At.seq fun _ s_39=>At.block (At.region (aE (aC rfl) rfl rfl (aF (aC rfl) fl54_4 rfl rfl (aL (aC rfl) sc52 rfl B1 (gk_w hH) mem8 rfl (aE (aC rfl) rfl rfl (op_idxE (aC rfl) se52 rfl rfl hW' (show _=(((i:Nat)):Int)from by omega) (by omega) rfl ?_)))))))))
     refine op_loadAggE (ds:=wdC w.ix w.va w.ad w.am) (aC rfl) ag125 rfl hW' (by exact flat_at WdM.cells hwc hgi) (by exact hwl) (by omega) (by first|exact aP|exact bM|exact mem2|exact mem3|exact mem4|exact mem5|exact mem6|exact mem7|exact mem8|exact mem9) rfl ?_
     refine aG (aT rfl) (.cons rfl .nil) (rPaid_b hwa) Tryz.func74 rfl rfl (by simp) rfl ?_
     rintro v126 L126 ⟨J126,x126,rfl,rfl,j126⟩
     change At _ _ _ [J126,Nc,NL,N110,Nb,NK,Na,NJ,J105,N1,R] _
     change At _ ((126,.agg #[.bool x126.l,.slice x126.ab x126.nb x126.cb,.slice x126.ai x126.ni x126.ci])::_) _ _ _
     refine op_lit (aT rfl) Tryz.underlying89 ze91 sz91 (.cons rfl .nil) rfl rfl (by simp [Value.cells]) rfl rfl rfl (fun N127 a127 r127=>?_)
     simp only [flatV,List.flatMap_cons,List.flatMap_nil,Value.cells,List.append_nil,List.cons_append,List.nil_append]at r127
     have s127:=r127.rsl
     change Row N127 _ 3 a127 1 1 (cellsI [x126])at r127
     refine op_append (nxl rfl) Tryz.underlying89 Tryz.underlying89 te91 rfl rfl rc r127.rsl (by first|exact aP|exact bM|exact mem2|exact mem3|exact mem4|exact mem5|exact mem6|exact mem7|exact mem8|exact mem9|exact mem10|exact mem11) (cellsI_oneB _) (by omega) (by omega) sel2 rfl (fun N128 a128 p128 r128=>?_)
     have s128:=r128.rsl
     rw [←cellsI_app]at r128
     refine aD (aC rfl) rfl rfl (aA (bC (aB (s_39 (At.region (aE (aC rfl) rfl rfl (bI (aC rfl) rfl rfl (by omega) (by omega) rfl (aD (aC rfl) rfl rfl (aA (aB (At.perm sel11 (At.perm sel11 (At.perm sel11 (At.perm sel11 (At.perm sel11 (At.perm sel11 (At.perm sel11 (At.perm sel11 (At.perm bH (At.perm bH (At.perm bD ?_)))))))))))))))))))))
     refine At.perm sel11 (bB (fun W W1 W2=>At.sub (L':= [W,N128,N110,Nb,NK,Na,NJ,J105,N1,R]) (.cons_cons _ (.cons_cons _ (.cons _ (.cons_cons _ (.cons_cons _ (.cons_cons _ (.cons_cons _ (.cons_cons _ (.cons_cons _ (.cons_cons _ (.cons_cons _ (.slnil)))))))))))) (At.perm bH (At.perm bH (At.perm bH (At.perm bH (At.perm bH (At.perm bH (At.perm bH (At.perm bH (At.perm sel8 (At.perm bH ?_))))))))))))
     refine At.back ?_ (.refl _) ⟨i+1,a128,p128,ys3++ [x126],N128,W,rfl,rfl,rfl,by omega,r128,by rw [take_next2 hgi,List.map_append];exact fun Q hJ=>(hy3 Q (Heaplet.le_trans W1 hJ)).snoc (j126.le (Heaplet.le_trans W2 hJ))⟩ ?_
     ·exact .cons (by first|exact a6 rfl (by omega)|rfl) (.cons (by first|exact a6 rfl (by omega)|rfl) (.cons (by first|exact a6 rfl (by omega)|rfl) (.cons (by first|exact a6 rfl (by omega)|rfl) .nil)))
     ·omega
    refine At.knowF (d:=117) rfl c117 ?_
    obtain rfl:i=m.wds.length:=by omega
    rw [List.take_of_length_le (Nat.le_refl _)]at hy3
    refine At.exit (aM (aM (At.inHit (aB (s_35 (At.region (aE (aC rfl) rfl rfl (aE (aC rfl) rfl rfl (aG (aT rfl) (.cons rfl .nil) (rList_b) Tryz.func73 rfl rfl (by simp) rfl ?_)))))))))
    rintro v131 L131 ⟨rfl,rfl⟩
    change At _ _ _ [Nc,NL,N110,Nb,NK,Na,NJ,J105,N1,R] _
    refine op_lit (aT rfl) Tryz.underlying89 ze91 sz91 (.cons rfl .nil) rfl rfl (by simp [Value.cells]) rfl rfl rfl (fun N132 a132 r132=>?_)
    simp only [flatV,List.flatMap_cons,List.flatMap_nil,Value.cells,List.append_nil,List.cons_append,List.nil_append]at r132
    have s132:=r132.rsl
    change Row N132 _ 3 a132 1 1 (cellsI [ivL a3 m.wds.length c3])at r132
    refine op_append (nxl rfl) Tryz.underlying89 Tryz.underlying89 te91 rfl rfl r110 r132.rsl (by first|exact aP|exact bM|exact mem2|exact mem3|exact mem4|exact mem5|exact mem6|exact mem7|exact mem8|exact mem9|exact mem10) (cellsI_oneB _) (by omega) (by omega) sel3 rfl (fun N133 a133 p133 r133=>?_)
    have s133:=r133.rsl
    rw [←cellsI_app]at r133
    refine aD (aC rfl) rfl rfl (aA (At.sub (L':= [N133,Nc,NL,Nb,NK,Na,NJ,J105,R]) (.cons_cons _ (.cons _ (.cons_cons _ (.cons_cons _ (.cons_cons _ (.cons_cons _ (.cons_cons _ (.cons_cons _ (.cons_cons _ (.cons _ (.cons_cons _ (.slnil)))))))))))) ?_))
    refine aB (jk_33 ?_ (.refl _) ⟨a133,3+1,p133,_,N133,Nc,NL,rfl,rfl,r133,fun K h1 h2 h3 h4 h5 h6 h7=>by rw [blkParts,if_pos c112];exact aV (j105 K h7) (aV (ItN_L (rb.rsl.le h3) (hy2 K h4)) (aV (ItN_L (ra.rsl.le h5) (hy K h6)) (aV (ItN_L (rc.rsl.le h1) (hy3 K h2)) ItsN_nil)))⟩)
    exact .cons (by first|exact a6 rfl (by omega)|rfl) .nil
   refine At.knowBF (d:=112) rfl c112 (At.skip (At.empty (At.empty (At.sub (L':= [nilH,nilH,N110,J105,Nb,NK,Na,NJ,R]) (.cons_cons _ (.cons_cons _ (.cons_cons _ (.cons_cons _ (.cons_cons _ (.cons_cons _ (.cons_cons _ (.cons_cons _ (.cons _ (.cons_cons _ (.slnil))))))))))) (At.perm sel8 (At.perm sel4 (At.perm sel8 (At.perm sel8 (At.perm sel8 (At.perm sel8 (At.perm bO (At.perm sel7 (At.perm sel8 ?_)))))))))))))
   refine aB (jk_33 ?_ (.refl _) ⟨a110,3,3,_,N110,nilH,nilH,rfl,rfl,r110,fun K h1 h2 h3 h4 h5 h6 h7=>by rw [blkParts,if_neg (by rw [c112];decide)];exact aV (j105 K h7) (aV (ItN_L (rb.rsl.le h3) (hy2 K h4)) (aV (ItN_L (ra.rsl.le h5) (hy K h6)) ItsN_nil))⟩)
   exact .cons (by first|exact a6 rfl (by omega)|rfl) .nil
  rintro _ _ ⟨q,qn,qc,zs,NZ,Nc,NL,rfl,rfl,rz,hZ⟩
  refine s_33 (At.seq fun _ s_40=>At.region (aE (aC rfl) rfl rfl (aG (aT rfl) (.cons rfl .nil) (rList_b) Tryz.func73 rfl rfl (by simp) rfl ?_)))
  rintro v135 L135 ⟨rfl,rfl⟩
  change At _ _ _ [NZ,Nc,NL,Nb,NK,Na,NJ,J105,R] _
  refine aG (aT rfl) (.cons rfl .nil) (Fn.overJ (Ns:= [NZ,Nc,NL,Nb,NK,Na,NJ,J105,R]) fun K hK=>rForm_b (t:=blkIt m its) (x:=ivL q qn qc) (ItN_L (rz.rsl.le (hK _ (by simp))) (hZ K (hK _ (by simp)) (hK _ (by simp)) (hK _ (by simp)) (hK _ (by simp)) (hK _ (by simp)) (hK _ (by simp)) (hK _ (by simp)))) (hl its hin)) Tryz.func60 rfl rfl (by simp) rfl ?_
  rintro v136 L136 ⟨M136,p136,c136,rfl,rfl,r136⟩
  change At _ _ _ [M136,NZ,Nc,NL,Nb,NK,Na,NJ,J105,R] _
  refine aD (aC rfl) rfl rfl (aD (aC rfl) rfl rfl (aA (aB (s_40 (At.ret ((At.sub (L':= [M136,R]) (.cons_cons _ (.cons _ (.cons _ (.cons _ (.cons _ (.cons _ (.cons _ (.cons _ (.cons _ (.cons_cons _ (.slnil))))))))))) (aU (L1:= [M136]) rfl (.tmp rfl (.tmp rfl .nil)) rfl (.refl _) (.refl _) ?_))))))))
  exact .inl ⟨_,M136,p136,c136,wBlk_ok hok hfo hin (blk_depth.2 hdp),rfl,rfl,r136⟩
 change At _ _ _ [N1,R] _
 refine op_not (aC rfl) rfl rfl (aA (aB (s_3 (At.condT rfl (At.seq fun _ s_41=>At.region (aD (aC rfl) rfl rfl (aD (aC rfl) rfl rfl (aA (aB (s_41 (At.ret (aJ ((At.sub (L':= [R]) (.cons _ (.cons_cons _ (.slnil))) (aU (L1:= []) rfl (.tmp rfl (.tmp rfl .nil)) rfl (.refl _) (.refl _) ?_)))))))))))))))
 exact .inr ⟨wBlk_hd hbad,rfl,rfl⟩
end
end Go.Proofs.YtjfagifjajielaaGreat
