/- Several texts in one: see the remarks ahead of each part. No condition but those told there. -/
import Derived.Test.YtljacjjeinmfnaaU21
set_option linter.unusedSimpArgs false
set_option linter.unusedVariables false
/- Layer 14, in plain words: a header, a block that is read is written again, byte for byte. Condition: sizes. -/
namespace Go.Proofs.Ytljacjjeinmfnaa
open Go Go.RowKit
set_option maxRecDepth 100000
theorem hdR_inv {h h':HdM} {r:List It} (hp: ∀y∈r,y.plain=y) (k:hdR h r=.ok h'):h'.fi=h.fi∧h'.items.take (15+r.length)=h.items.take 15++r:=by
 unfold hdR at k
 split at k
 ·obtain rfl:=Except.ok.inj k
  exact⟨rfl,(List.append_nil _).symm⟩
 ·rename_i t_bf r
  obtain⟨x_bf,e_bf,kB⟩:=bX k
  have i_bf:=wordE_inv (hp t_bf (by simp)) e_bf
  unfold hdR2 at kB
  split at kB
  ·obtain rfl:=Except.ok.inj kB
   rw [i_bf]
   exact⟨rfl,rfl⟩
  ·rename_i t_wd r
   obtain⟨x_wd,e_wd,kC⟩:=bX kB
   have i_wd:=(fixE_inv (hp t_wd (by simp)) e_wd).1
   unfold hdR3 at kC
   split at kC
   ·obtain rfl:=Except.ok.inj kC
    rw [i_bf,i_wd]
    exact⟨rfl,rfl⟩
   ·rename_i t_bg t_xs t_be
    obtain⟨x_bg,e_bg,kD⟩:=bX kC
    obtain⟨x_xs,e_xs,kE⟩:=bX kD
    obtain⟨x_be,e_be,kF⟩:=bX kE
    have i_bg:=n64E_inv (hp t_bg (by simp)) e_bg
    have i_xs:=n64E_inv (hp t_xs (by simp)) e_xs
    have i_be:=(fixE_inv (hp t_be (by simp)) e_be).1
    obtain rfl:=Except.ok.inj kF
    rw [i_bf,i_wd,i_bg,i_xs,i_be]
    exact⟨rfl,rfl⟩
   ·cases kC
theorem hdA_inv {its:List It} {h:HdM} (hp: ∀y∈its,y.plain=y) (k:hdA its=.ok h):its=h.items.take h.fi.toNat∧h.fi=(its.length:Int):=by
 unfold hdA at k
 split at k
 ·rename_i t_pa t_om t_co t_st t_tx t_rc t_bl t_df t_nu t_gl t_gu t_ti t_ex t_mx t_no r
  obtain⟨x_pa,e_pa,k⟩:=bX k
  obtain⟨x_om,e_om,k⟩:=bX k
  obtain⟨x_co,e_co,k⟩:=bX k
  obtain⟨x_st,e_st,k⟩:=bX k
  obtain⟨x_tx,e_tx,k⟩:=bX k
  obtain⟨x_rc,e_rc,k⟩:=bX k
  obtain⟨x_bl,e_bl,k⟩:=bX k
  obtain⟨x_df,e_df,k⟩:=bX k
  obtain⟨x_nu,e_nu,k⟩:=bX k
  obtain⟨x_gl,e_gl,k⟩:=bX k
  obtain⟨x_gu,e_gu,k⟩:=bX k
  obtain⟨x_ti,e_ti,k⟩:=bX k
  obtain⟨x_ex,e_ex,k⟩:=bX k
  obtain⟨x_mx,e_mx,k⟩:=bX k
  obtain⟨x_no,e_no,k⟩:=bX k
  have i_pa:=(fixE_inv (hp t_pa (by simp)) e_pa).1
  have i_om:=(fixE_inv (hp t_om (by simp)) e_om).1
  have i_co:=(fixE_inv (hp t_co (by simp)) e_co).1
  have i_st:=(fixE_inv (hp t_st (by simp)) e_st).1
  have i_tx:=(fixE_inv (hp t_tx (by simp)) e_tx).1
  have i_rc:=(fixE_inv (hp t_rc (by simp)) e_rc).1
  have i_bl:=(fixE_inv (hp t_bl (by simp)) e_bl).1
  have i_df:=wordE_inv (hp t_df (by simp)) e_df
  have i_nu:=n64E_inv (hp t_nu (by simp)) e_nu
  have i_gl:=n64E_inv (hp t_gl (by simp)) e_gl
  have i_gu:=n64E_inv (hp t_gu (by simp)) e_gu
  have i_ti:=n64E_inv (hp t_ti (by simp)) e_ti
  have i_ex:=strE_inv (hp t_ex (by simp)) e_ex
  have i_mx:=(fixE_inv (hp t_mx (by simp)) e_mx).1
  have i_no:=(fixE_inv (hp t_no (by simp)) e_no).1
  have kk:=hdR_inv (fun y hy=>hp y (by simp [hy])) k
  obtain⟨k1,k2⟩:=kk
  refine⟨?_,by rw [k1];simp only [List.length_cons];omega⟩
  rw [k1,show(((15+r.length:Nat):Int)).toNat=15+r.length from rfl,k2,i_pa,i_om,i_co,i_st,i_tx,i_rc,i_bl,i_df,i_nu,i_gl,i_gu,i_ti,i_ex,i_mx,i_no]
  rfl
 ·cases k
theorem hdE_inv {t:It} {h:HdM} (hp:t.plain=t) (k:hdE t=.ok h):t=h.it:=by
 obtain⟨its,hi,k2⟩:=bX k
 obtain⟨rfl,hy⟩:=listE_inv hp hi
 split at k2
 ·have:=(hdA_inv hy k2).1
  rw [HdM.it, ←this]
 ·cases k2
/-- What is read is written again: a header. -/
theorem hd_back {b:List UInt8} {h:HdM} (hb:b.length<2^64) (k:readHdE b=.ok h):h.it.form=b:=by
 obtain⟨t,ht,k⟩:=bX k
 rw [←hdE_inv (deco_plain hb ht) k]
 exact(decodeF_back hb ht).1
end Go.Proofs.Ytljacjjeinmfnaa
/- Layer 14: sizes of what was read; what was read can be written. No condition. -/
namespace Go.Proofs.Ytljacjjeinmfnaa
open Go Go.RowKit
set_option maxRecDepth 100000
theorem form_S (b:List UInt8):b.length≤(itS b).form.length:=by
 rw [itS,form_false]
 split
 ·rename_i h
  exact Nat.le_refl _
 ·rw [List.length_append];omega
theorem mem_L {l:List It} {t:It} (h:t∈l):t.form.length≤(itL l).form.length:=Nat.le_trans (mem_le h) (listE_le (listE_L l))
theorem len_L (l:List It):l.length≤(itL l).form.length:=Nat.le_trans (list_le l) (listE_le (listE_L l))
theorem sz_of {m:TxM} {B:Nat} (hB:B≤1048576) (hf:fitsM m) (h:(itL (wIts m)).form.length≤B):m.Sz:=by
 have up: ∀t∈uIts m,t.form.length≤B:=fun t ht=>Nat.le_trans (mem_L (List.mem_append_left _ ht)) h
 have hda:itS m.da∈uIts m:=by
  unfold uIts uE uD
  exact List.mem_append_left _ (List.mem_append_left _ (List.mem_append_right _ (by simp)))
 have hac:0<m.ki→itL (m.ac.map accIt)∈uIts m:=fun q=>by
  unfold uIts uE
  exact List.mem_append_left _ (List.mem_append_right _ (by rw [if_pos q];simp))
 have hbb:m.ki=3→itL (m.bb.map itS)∈uIts m:=fun q=>by
  unfold uIts
  exact List.mem_append_right _ (by rw [if_pos q];simp)
 obtain⟨f1,f2,f3,f4,f5,f6⟩:=hf
 refine⟨?_,?_,?_,?_⟩
 ·have:=up _ hda
  have:=form_S m.da
  omega
 ·rcases Int.lt_or_le 0 m.ki with q|q
  ·have h1:=up _ (hac q)
   have h2:=len_L (m.ac.map accIt)
   rw [List.length_map]at h2
   omega
  ·have:=f6 (by omega);omega
 ·intro g hg
  rcases Int.lt_or_le 0 m.ki with q|q
  ·have h1:=up _ (hac q)
   have h2:=mem_L (List.mem_map_of_mem (f:=accIt) hg)
   have h3:(itL (g.keys.map itS)).form.length≤(accIt g).form.length:=mem_L (l:= [itS g.addr,itL (g.keys.map itS)]) (by simp)
   have h4:=len_L (g.keys.map itS)
   rw [List.length_map]at h4
   omega
  ·have:=List.length_eq_zero_iff.1 (f6 (by omega))
   rw [this]at hg;cases hg
 ·by_cases q:m.ki=3
  ·have h1:=up _ (hbb q)
   have h2:=len_L (m.bb.map itS)
   rw [List.length_map]at h2
   omega
  ·have:=(f5 (by omega)).2;omega
theorem TxS.r {zs:List IV} {NI J K:Heaplet} {m:TxM} {d a b:Value} (h:TxS zs NI J m d a b) (h1:NI.le K) (h2:J.le K):TxR K m d a b:=by
 obtain⟨da,dc,aa,cc,ba,bc,axs,e1,e2,_,e3,e4,e5,e6,e7⟩:=h
 exact⟨da,dc,aa,cc,ba,bc,axs,e1,e2.le h1,e3,e4.le h2,e5.le h2,e6,e7.le h2⟩
theorem TxR.le {N M:Heaplet} {m:TxM} {d a b:Value} (h:TxR N m d a b) (hl:N.le M):TxR M m d a b:=by
 obtain⟨da,dc,aa,cc,ba,bc,axs,e1,e2,e3,e4,e5,e6,e7⟩:=h
 exact⟨da,dc,aa,cc,ba,bc,axs,e1,e2.le hl,e3,e4.le hl,e5.le hl,e6,e7.le hl⟩
theorem TxR.ac {N:Heaplet} {m:TxM} {d a b:Value} (h:TxR N m d a b):AcOk m:=fun g hg=>by
 obtain⟨da,dc,aa,cc,ba,bc,axs,e1,e2,e3,e4,e5,e6,e7⟩:=h
 obtain⟨i,hi,rfl⟩:=List.mem_iff_getElem.1 hg
 obtain⟨g',x,h1,h2,h3⟩:=e5.at hi
 rw [List.getElem?_eq_getElem hi]at h1
 obtain rfl:=Option.some.inj h1
 exact⟨h3.2.1,h3.2.2.2.2⟩
theorem cut_cut (m:TxM):cutM (cutM m)=cutM m:=by
 have h: ∀g:AccM,g.cut.cut=g.cut:=fun g=>by simp [AccM.cut,List.take_take]
 have e:cutA (cutA m.ac)=cutA m.ac:=by
  rw [cutA,cutA, ←List.map_take,List.take_take,List.map_map]
  exact List.map_congr_left fun g _=>h g
 simp only [cutM,e,List.take_take,Nat.min_self]
theorem forms_bound {its:List It} {B:Nat} (h: ∀t∈its,t.form.length≤B):(It.forms its).length≤its.length*B:=by
 induction its with
 |nil=>rw [forms_nil];exact Nat.zero_le _
 |cons t ts ih=>
  rw [forms_cons,List.length_append,List.length_cons,Nat.succ_mul]
  have h1:=h t (by simp)
  have h2:=ih fun y hy=>h y (List.mem_cons_of_mem _ hy)
  omega
theorem hash_form {x:List UInt8} (h:x.length=32):(itS x).form.length≤41:=by
 have:=formS_len x (by omega);omega
theorem keys_form {l:List (List UInt8)} (h: ∀x∈l,x.length=32) (hl:l.length≤12):(itL (l.map itS)).form.length≤600:=by
 have h1:=forms_bound (its:=l.map itS) (B:=41) fun t ht=>by
  obtain⟨x,hx,rfl⟩:=List.mem_map.1 ht
  exact hash_form (h x hx)
 rw [List.length_map]at h1
 have h2:l.length*41≤12*41:=Nat.mul_le_mul_right _ hl
 have:=formL_len (l.map itS) (by omega)
 omega
theorem num_form {x:Nat} (h:x<WW):(numI x).form.length≤50:=by
 have:=byteLenW h
 have:=formS_len (bytesOf x) (by omega)
 exact Nat.le_trans this (by omega)
theorem acc_form {g:AccM} (h:g.addr.length=20) (hk: ∀k∈g.keys,k.length=32) (hl:g.keys.length≤12):(accIt g).form.length≤1300:=by
 have h1:=keys_form hk hl
 have h2:=formS_len g.addr (by omega)
 have h3:=forms_bound (its:= [itS g.addr,itL (g.keys.map itS)]) (B:=600) fun t ht=>by
  simp only [List.mem_cons,List.not_mem_nil,or_false]at ht
  rcases ht with rfl|rfl
  ·omega
  ·exact h1
 have:=formL_len [itS g.addr,itL (g.keys.map itS)] (by simp only [List.length_cons,List.length_nil]at h3;omega)
 simp only [List.length_cons,List.length_nil]at h3
 rw [accIt];omega
theorem accs_form {l:List AccM} (h: ∀g∈l,g.addr.length=20∧ ∀k∈g.keys,k.length=32) (hk: ∀g∈l,g.keys.length≤12) (hl:l.length≤12):(itL (l.map accIt)).form.length≤16000:=by
 have h1:=forms_bound (its:=l.map accIt) (B:=1300) fun t ht=>by
  obtain⟨x,hx,rfl⟩:=List.mem_map.1 ht
  exact acc_form (h x hx).1 (h x hx).2 (hk x hx)
 rw [List.length_map]at h1
 have h2:l.length*1300≤12*1300:=Nat.mul_le_mul_right _ hl
 have:=formL_len (l.map accIt) (by omega)
 omega
theorem wIts_form {m:TxM} (h:m.Ok) (ha:AcOk m) (hd:m.da.length≤800) (hl:m.ac.length≤12) (hk: ∀g∈m.ac,g.keys.length≤12) (hb:m.bb.length≤12):(itL (wIts m)).form.length≤300000:=by
 have hN: ∀ {x:Nat},x<WW→(numI x).form.length≤16000:=fun q=>Nat.le_trans (num_form q) (by decide)
 have hW:2^64≤WW:=by decide
 have hsm: ∀ {x:Nat},x<2^64→(numI x).form.length≤16000:=fun q=>hN (Nat.lt_of_lt_of_le q hW)
 have hto:(itS (toM m)).form.length≤16000:=by
  have:(toM m).length≤20:=by
   unfold toM
   split
   ·exact Nat.zero_le _
   ·rw [h.to];exact Nat.le_refl _
  have:=formS_len (toM m) (by omega)
  omega
 have hda:(itS m.da).form.length≤16000:=by
  have:=formS_len m.da (by omega);omega
 have hA: ∀t∈uA m,t.form.length≤16000:=fun t ht=>by
  unfold uA at ht
  split at ht
  ·rw [List.mem_singleton.1 ht];exact hsm h.ch
  ·cases ht
 have hC: ∀t∈uC m,t.form.length≤16000:=fun t ht=>by
  unfold uC uB at ht
  rcases List.mem_append.1 ht with ht|ht
  ·rcases List.mem_append.1 ht with ht|ht
   ·exact hA t ht
   ·rw [List.mem_singleton.1 ht];exact hsm h.nn
  ·split at ht
   ·rw [List.mem_singleton.1 ht];exact hN h.tp
   ·cases ht
 have hE: ∀t∈uE m,t.form.length≤16000:=fun t ht=>by
  unfold uE uD at ht
  rcases List.mem_append.1 ht with ht|ht
  ·rcases List.mem_append.1 ht with ht|ht
   ·exact hC t ht
   ·simp only [List.mem_cons,List.not_mem_nil,or_false]at ht
    rcases ht with rfl|rfl|rfl|rfl|rfl
    ·exact hN h.pr
    ·exact hsm h.ga
    ·exact hto
    ·exact hN h.va
    ·exact hda
  ·split at ht
   ·rw [List.mem_singleton.1 ht];exact accs_form ha hk hl
   ·cases ht
 have hall: ∀t∈wIts m,t.form.length≤16000:=fun t ht=>by
  rcases List.mem_append.1 ht with ht|ht
  ·unfold uIts at ht
   rcases List.mem_append.1 ht with ht|ht
   ·exact hE t ht
   ·split at ht
    ·simp only [List.mem_cons,List.not_mem_nil,or_false]at ht
     rcases ht with rfl|rfl
     ·exact hN h.bf
     ·exact Nat.le_trans (keys_form h.bb hb) (by decide)
    ·cases ht
  ·simp only [List.mem_cons,List.not_mem_nil,or_false]at ht
   rcases ht with rfl|rfl|rfl
   ·exact hN (vM_lt h)
   ·exact hN h.r
   ·exact hN h.s
 have h1:=forms_bound hall
 have h2:(wIts m).length≤14:=by
  have:=uIts_len m
  rw [wIts,List.length_append]
  simp only [List.length_cons,List.length_nil];omega
 have h3:(wIts m).length*16000≤14*16000:=Nat.mul_le_mul_right _ h2
 have:=formL_len (wIts m) (by omega)
 omega
theorem mapE_len {α:Type} {g:It→Except Nat α} : ∀ {its:List It} {l:List α},mapE g its=.ok l→l.length=its.length∧ ∀a∈l, ∃t∈its,g t=.ok a
 | [],l,h=>by
  obtain rfl:=Except.ok.inj h
  exact⟨rfl,fun a ha=>absurd ha List.not_mem_nil⟩
 |t::ts,l,h=>by
  unfold mapE at h
  split at h
  ·cases h
  ·rename_i a ha
   split at h
   ·cases h
   ·rename_i l' hl
    obtain rfl:=Except.ok.inj h
    obtain⟨h1,h2⟩:=mapE_len hl
    refine⟨by rw [List.length_cons,List.length_cons,h1],fun b hb=>?_⟩
    rcases List.mem_cons.1 hb with rfl|hb
    ·exact⟨t,by simp,ha⟩
    ·obtain⟨u,hu,e⟩:=h2 b hb
     exact⟨u,List.mem_cons_of_mem _ hu,e⟩
theorem eachE_len {α:Type} {g:It→Except Nat α} {t:It} {l:List α} {B:Nat} (hb:t.form.length≤B) (h:eachE g t=.ok l):l.length≤B∧ ∀a∈l, ∃y,y.form.length≤B∧g y=.ok a:=by
 unfold eachE at h
 split at h
 ·cases h
 ·rename_i its hi
  obtain⟨h1,h2⟩:=mapE_len h
  refine⟨by rw [h1];exact len_le hb hi,fun a ha=>?_⟩
  obtain⟨y,hy,e⟩:=h2 a ha
  exact⟨y,el_le hb hi hy,e⟩
theorem rawE_len {t:It} {g:List UInt8} (h:rawE t=.ok g):g.length≤t.form.length:=by
 obtain⟨l,bs,its⟩:=t
 cases l with
 |false=>
  simp only [rawE]at h
  split at h
  ·obtain rfl:=Except.ok.inj h
   have e:(It.mk false bs its).form=(itS bs).form:=by rw [itS,form_false,form_false]
   rw [e];exact form_S bs
  ·cases h
 |true=>
  simp only [rawE]at h
  split at h
  ·obtain rfl:=Except.ok.inj h
   exact Nat.le_refl _
  ·cases h
theorem blkSz {t:It} {m:BlkM} {B:Nat} (hB:B≤1048576) (hb:t.form.length≤B) (h:blockE t=.ok m):m.Sz:=by
 obtain⟨all,hi,h0⟩:=bX h
 split at h0
 ·rename_i hn
  unfold blockA at h0
  split at h0
  ·rename_i a b c r
   have hel: ∀y∈a::b::c::r,y.form.length≤B:=fun y hy=>el_le hb hi hy
   obtain⟨x1,e1,hA⟩:=bX h0
   obtain⟨x2,e2,hB'⟩:=bX hA
   obtain⟨x3,e3,hC⟩:=bX hB'
   have k2:=eachE_len (hel b (by simp)) e2
   have k3:=eachE_len (hel c (by simp)) e3
   have k2': ∀g∈x2,g.length≤1099511627776:=fun g hg=>by
    obtain⟨y,hy,e⟩:=k2.2 g hg
    have:=rawE_len e
    omega
   have l2:=k2.1
   have l3:=k3.1
   unfold blockR at hC
   split at hC
   ·obtain rfl:=Except.ok.inj hC
    exact⟨by simp only;omega,k2',by simp only;omega,Nat.zero_le _⟩
   ·rename_i w r'
    obtain⟨x4,e4,hD⟩:=bX hC
    obtain rfl:=Except.ok.inj hD
    have k4:=(eachE_len (hel w (by simp)) e4).1
    exact⟨by simp only;omega,k2',by simp only;omega,by simp only;omega⟩
  ·cases h0
 ·cases h0
theorem BlkS.r {NI NT NK NO NW K:Heaplet} {m:BlkM} {cs:List Value} (h:BlkS NI NT NK NO NW m cs) (h1:NI.le K) (h2:NT.le K) (h3:NK.le K) (h4:NO.le K) (h5:NW.le K):BlkR K m cs∧okF m.hd.fi∧ ∀x∈m.oms,okF x.fi:=by
 obtain⟨v1,ta,tc,vs,ys,oa,oc,xs,wa,wc,t,zs,zt,e,k1,k2,⟨zs',ea,ec,k3,k4,_⟩,k5,_,k6,k7,k8,k9,k10,k11,_⟩:=h
 refine⟨⟨v1,ta,tc,vs,oa,oc,xs,wa,wc,e,⟨k1,ea,ec,k3,k4.le h1⟩,k5.rsl.le h2,⟨k6.lv,fun i g hg=>?_⟩,k7.rsl.le h4,fun x hx=>?_,k9,k10.rsl.le h5,k11⟩,k2,fun x hx=>?_⟩
 ·obtain⟨p,c,q1,q2⟩:=k6.at hg
  exact⟨p,c,q1,q2.elim (fun q=>q.le h1) (fun q=>q.le h3)⟩
 ·obtain⟨q1,_,zs,ea,ec,q3,q4,_⟩:=k8 x hx
  exact⟨q1,ea,ec,q3,q4.le h1⟩
 ·rw [←k9]at hx
  obtain⟨y,hy,rfl⟩:=List.mem_map.1 hx
  exact(k8 y hy).2.1
theorem hd_ex_len {h:HdM} (k:okF h.fi):h.ex.length≤h.it.form.length:=by
 have:itS h.ex∈h.items.take h.fi.toNat:=by
  rcases k with k|k|k|k<;>rw [k]<;>simp [HdM.items]
 exact Nat.le_trans (form_S _) (mem_L this)
end Go.Proofs.Ytljacjjeinmfnaa
