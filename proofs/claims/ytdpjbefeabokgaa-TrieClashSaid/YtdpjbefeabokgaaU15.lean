/- Several texts in one: see the remarks ahead of each part. No condition but those told there. -/
import Derived.Test.YtdpjbefeabokgaaU14
import Derived.Test.YtdpjbefeabokgaaU10
import Derived.Test.YtdpjbefeabokgaaU12
set_option linter.unusedSimpArgs false
set_option linter.unusedVariables false
/- Layer 12: two lists of pairs of one root that tell two forms of one hash. No condition but bounds. -/
namespace Go.Proofs.Ytdpjbefeabokgaa
open Go Go.RowKit
set_option maxRecDepth 100000
theorem find_first {α:Type} {f:Nat→Option α} {i n:Nat} (hi:i<n) (h0: ∀c,c<i→f c=none) {z:α} (h1:f i=some z):(List.range n).findSome? f=some z:=by
 induction n with
 |zero=>omega
 |succ n ih=>
  rw [List.range_succ,List.findSome?_append]
  rcases Nat.lt_or_ge i n with q|q
  ·rw [ih q];rfl
  ·obtain rfl:i=n:=by omega
   rw [List.findSome?_eq_none_iff.2 fun c hc=>h0 c (List.mem_range.1 hc)]
   simp [h1]
def ClashP (r:Option (List UInt8×List UInt8)) (v:Value) (L:List Heaplet):Prop:=
 (∃x y M1 M2 a c b d,r=some (x,y)∧v=.tuple #[.slice a x.length c,.slice b y.length d,.bool true]∧L= [M1,M2]∧Row M1 5 1 a x.length c (u8s x)∧Row M2 5 1 b y.length d (u8s y))∨(r=none∧v=.tuple #[.slice none 0 0,.slice none 0 0,.bool false]∧L= [])
def ClashF (f:Nat):Prop:= ∀(Ns:List Heaplet) (la lb:List PR) (xs ys:List PV) (a b:Option Addr) (na ca nb cb:Nat),PsL Ns f la xs a na ca→PsL Ns f lb ys b nb cb→Fn Try.prog 39 #[.slice a na ca,.slice b nb cb] [] Ns (ClashP (clashF f la lb))
theorem FEqual {N M:Heaplet} {a b:Option Addr} {n c m d:Nat} {x y:List UInt8} (h:RSl N 1 a n c (u8s x)) (h2:RSl M 1 b m d (u8s y)):Fn Try.prog 52 #[.slice a n c,.slice b m d] [] [N,M] (fun v L=>v=.bool (decide (x=y))∧L= []):=by
 refine Fn.enter (vs:= [.slice a n c,.slice b m d]) Try.func52 rfl rfl rfl ?_
 intro E R hR
 have h:=h.le (hR N (by simp))
 have h2:=h2.le (hR M (by simp))
 change At _ _ E [R] _
 refine At.seq fun _ s_1=>At.region (aE (aD rfl) rfl rfl (aA (aB (s_1 (At.seq fun _ s_2=>At.region (aC (aD rfl) rfl rfl (op_str (aD rfl) Try.underlying33 Try.underlying5 Try.underlying9 rfl (by assumption) (by first|exact aM|exact aX|exact bB|exact mem3|exact mem4|exact mem5|exact mem6|exact mem7|exact mem8|exact mem9) rfl ?_)))))))
 refine aC (aD rfl) rfl rfl (op_str (aD rfl) Try.underlying33 Try.underlying5 Try.underlying9 rfl (by assumption) (by first|exact aM|exact aX|exact bB|exact mem3|exact mem4|exact mem5|exact mem6|exact mem7|exact mem8|exact mem9) rfl ?_)
 refine op_eqS (aD rfl) rfl rfl rfl (aE (aD rfl) rfl rfl (aA (aB (s_2 (At.ret ((aQ (L1:= []) rfl (.tmp rfl .nil) (.refl _) (.refl _) ?_)))))))
 exact⟨rfl,rfl⟩
theorem clash_small {f:Nat} {la lb:List PR} {x y:List UInt8} (hx:(nodeF f la).form=x) (hy:(nodeF f lb).form=y) (hxy:x=y) (h:la.length<2∨lb.length<2):clashF f la lb=none:=by
 cases f with
 |zero=>rfl
 |succ g=>rw [clashF,hx,hy,if_neg (fun k=>k hxy),if_pos h]
theorem cut_PsL {Ns Ms:List Heaplet} {f k:Nat} {l:List PR} {xs:List PV} {ao:Option Addr} {n cap:Nat} (h:PsL Ns (f+1) l xs ao n cap) (hs: ∀M,M∈Ns→M∈Ms) (hk:shar l=k) (h0:0<k) (hkl: ∀y∈l,k≤y.1.length) {M:Heaplet} (hM:M∈Ms) {a:Option Addr} {c:Nat} (hr:Row M 101 2 a (xs.map (PV.cut k)).length c (cellsP (xs.map (PV.cut k)))):PsL Ms f (cutR k l) (xs.map (PV.cut k)) a (xs.map (PV.cut k)).length c:=fun J hJ=>by
 have h3:=h J fun N hN=>hJ N (hs N hN)
 have h4:=h3.small
 have h5:=h3.xn
 exact⟨hr.rsl.le (hJ M hM),h3.ps.take_cut hkl,hk▸h3.ris.cuts,h3.fit.cut (Nat.le_of_eq hk.symm) h0,by rw [List.length_map,h5.1];exact h4⟩
theorem und_PsL {Ns Ms:List Heaplet} {f:Nat} {l:List PR} {xs ys:List PV} {ao:Option Addr} {n cap:Nat} (h:PsL Ns (f+1) l xs ao n cap) (hs: ∀M,M∈Ns→M∈Ms) (c:UInt8) {M:Heaplet} (hM:M∈Ms) {a:Option Addr} {cp:Nat} (hr:Row M 101 2 a ys.length cp (cellsP ys)) (hp: ∀J:Heaplet,PsN J l xs→PsN J (cutR 1 (undR c l)) ys):PsL Ms f (cutR 1 (undR c l)) ys a ys.length cp:=fun J hJ=>by
 have h3:=h J fun N hN=>hJ N (hs N hN)
 have h4:=h3.small
 have h5:=h3.xn
 have h6:=hp J h3.ps
 have hle:ys.length≤n:=by
  rw [h6.len,cutR,List.length_map, ←h5.2];exact List.length_filter_le _ _
 exact⟨hr.rsl.le (hJ M hM),h6,h3.ris.und c,h3.fit.und c,by omega⟩
set_option maxHeartbeats 4000000 in
theorem FClash_at (f:Nat) (hrec: ∀g,f=g+1→ClashF g) (Ns:List Heaplet) (la lb:List PR) (xs ys:List PV) (a b:Option Addr) (na ca nb cb:Nat) (hA:PsL Ns f la xs a na ca) (hB:PsL Ns f lb ys b nb cb):Fn Try.prog 39 #[.slice a na ca,.slice b nb cb] [] Ns (ClashP (clashF f la lb)):=by
 obtain⟨x,hx⟩: ∃x,(nodeF f la).form=x:=⟨_,rfl⟩
 obtain⟨y,hy⟩: ∃x,(nodeF f lb).form=x:=⟨_,rfl⟩
 have hfa:=FForm hA
 have hfb:=FForm hB
 rw [hx]at hfa
 rw [hy]at hfb
 refine Fn.enter (vs:= [.slice a na ca,.slice b nb cb]) Try.func39 rfl rfl rfl ?_
 intro E R hR
 have hPa:=hA R hR
 have hPb:=hB R hR
 have ha:=hPa.row
 have hb:=hPb.row
 have hxa:=hPa.xn
 have hxb:=hPb.xn
 have hsa:=hPa.small
 have hsb:=hPb.small
 change At _ _ E [R] _
 refine At.seq fun _ s_1=>At.region (aE (aD rfl) rfl rfl (aE (aD rfl) rfl rfl (aE (aD rfl) rfl rfl (aA (aB (s_1 (At.seq fun _ s_2=>At.region (aC (aD rfl) rfl rfl (aH (aV rfl) (.cons rfl .nil) (hfa.liftN hR) Try.func33 rfl rfl (by simp) rfl ?_)))))))))
 rintro v12 L12 ⟨N12,a12,c12,rfl,rfl,r12⟩
 change At _ _ _ [N12,R] _
 have s12:=r12.rsl
 refine aC (aD rfl) rfl rfl (aH (aV rfl) (.cons rfl .nil) (hfb.liftN hR) Try.func33 rfl rfl (by simp) rfl ?_)
 rintro v14 L14 ⟨N14,a14,c14,rfl,rfl,r14⟩
 change At _ _ _ [N14,N12,R] _
 have s14:=r14.rsl
 refine aE (aD rfl) rfl rfl (aE (aD rfl) rfl rfl (aA (aB (s_2 (At.seq fun _ s_3=>At.seq fun _ s_4=>At.region (aC (aD rfl) rfl rfl (aC (aD rfl) rfl rfl (aH (aV rfl) (.cons rfl (.cons rfl .nil)) (FEqual s12 s14) Try.func52 rfl rfl (by simp) rfl ?_))))))))
 rintro v17 L17 ⟨rfl,rfl⟩
 change At _ _ _ [N14,N12,R] _
 refine op_notP (aD rfl) rfl rfl (aA (aB (s_4 (aK rfl (fun c18=>?_) (fun c18=>?_)))))
 ·refine At.seq fun _ s_5=>At.region (aC (aD rfl) rfl rfl (aC (aD rfl) rfl rfl (aE (aD rfl) rfl rfl (aE (aD rfl) rfl rfl (aE (aD rfl) rfl rfl (aA (aB (s_5 (At.ret (aU ((At.perm sel2 (At.perm sel1 (At.perm sel2 (At.retN (L1:= [N12,N14]) rfl (.tmp rfl (.tmp rfl (.tmp rfl .nil))) rfl (.refl _) (.refl _) ?_)))))))))))))))
  have hxy: ¬x=y:=by simpa using c18
  have hcf:clashF f la lb=some (x,y):=by
   cases f with
   |zero=>
    have ea:la= []:=by
     cases la with
     |nil=>rfl
     |cons p l=>exact absurd (hPa.fit.len p (by simp)) (by omega)
    have eb:lb= []:=by
     cases lb with
     |nil=>rfl
     |cons p l=>exact absurd (hPb.fit.len p (by simp)) (by omega)
    rw [ea]at hx
    rw [eb]at hy
    exact absurd (hx.symm.trans hy) hxy
   |succ g=>rw [clashF,hx,hy,if_pos hxy]
  exact .inl ⟨x,y,N12,N14,a12,c12,a14,c14,hcf,rfl,rfl,r12,r14⟩
 refine At.skip (aB (s_3 (At.seq fun _ s_6=>At.seq fun _ s_7=>At.region (aC (aD rfl) rfl rfl (aS (aD rfl) se70 rfl rfl (op_lss (aD rfl) rfl rfl rfl (aC (aD rfl) rfl rfl (At.partP (d:=24) rfl (fun g24=>?_) (fun g24=>?_)))))))))
 ·refine bD rfl rfl rfl rfl rfl rfl rfl (bD rfl rfl rfl rfl rfl rfl rfl (bD rfl rfl rfl rfl rfl rfl rfl (op_pickT (aD rfl) rfl rfl rfl (aA (aB (s_7 (At.condT rfl (At.seq fun _ s_8=>At.region (aE (aD rfl) rfl rfl (aE (aD rfl) rfl rfl (aE (aD rfl) rfl rfl (aA (aB (s_8 (At.ret (aU ((At.sub (L':= [R]) (.cons _ (.cons _ (.cons_cons _ (.slnil)))) (At.retN (L1:= []) rfl (.tmp rfl (.tmp rfl (.tmp rfl .nil))) rfl (.refl _) (.refl _) ?_)))))))))))))))))))
  exact .inr ⟨clash_small hx hy (by simpa using c18) (by omega),rfl,rfl⟩
 refine aC (nxgf rfl rfl rfl rfl) rfl rfl (aS (nxgf rfl rfl rfl rfl) se70 rfl rfl (op_lss (nxgf rfl rfl rfl rfl) rfl rfl rfl (op_pickF (aD rfl) rfl rfl rfl (aA (aB (s_7 (aK rfl (fun c28=>?_) (fun c28=>?_))))))))
 ·refine At.seq fun _ s_9=>At.region (aE (aD rfl) rfl rfl (aE (aD rfl) rfl rfl (aE (aD rfl) rfl rfl (aA (aB (s_9 (At.ret (aU ((At.sub (L':= [R]) (.cons _ (.cons _ (.cons_cons _ (.slnil)))) (At.retN (L1:= []) rfl (.tmp rfl (.tmp rfl (.tmp rfl .nil))) rfl (.refl _) (.refl _) ?_)))))))))))
  exact .inr ⟨clash_small hx hy (by simpa using c18) (by omega),rfl,rfl⟩
 obtain⟨g,rfl⟩: ∃g,f=g+1:=by
  cases f with
  |zero=>
   have h0:0<la.length:=by omega
   exact absurd (hPa.fit.len _ (List.getElem_mem h0)) (by omega)
  |succ g=>exact⟨g,rfl⟩
 have hF:=hrec g rfl
 have h2:2≤la.length:=by omega
 have h2b:2≤lb.length:=by omega
 have hxy:x=y:=by simpa using c18
 have e:=form_inj (hPa.fit.form _) (hPb.fit.form _) (hx.trans (hxy.trans hy.symm))
 obtain⟨p,q,hp,hq,hh,hl⟩:=head_last h2
 have hpm:p∈la:=List.mem_of_getElem? hp
 have hsml:=hPa.fit.sml p hpm
 obtain⟨k,hk⟩: ∃k,shar la=k:=⟨_,rfl⟩
 have hfs:=FShared ha hPa.ps hsa hp hq (by omega)
 rw [show lcp p.1 q.1=k from by rw [←hk,shar_ends hPa.ris p q hh hl]]at hfs
 have hcl:clashF (g+1) la lb=if 0<k then clashF g (cutR k la) (cutR k lb)else (List.range 16).findSome? fun c=>clashF g (cutR 1 (undR (UInt8.ofNat c) la)) (cutR 1 (undR (UInt8.ofNat c) lb)):=by
  rw [clashF,hx,hy,if_neg (fun k=>k hxy),if_neg (by omega),hk]
 refine At.skip (aB (s_6 (At.seq fun _ s_10=>At.seq fun _ s_11=>At.region (aC (aD rfl) rfl rfl (aH (aV rfl) (.cons rfl .nil) (hfs) Try.func53 rfl rfl (by simp) rfl ?_)))))
 rintro v30 L30 ⟨rfl,rfl⟩
 change At _ _ _ [N14,N12,R] _
 refine aE (aD rfl) rfl rfl (aA (aB (s_11 (At.seq fun _ s_12=>At.region (aC (aD rfl) rfl rfl (op_gtr (aD rfl) rfl rfl rfl (aA (aB (s_12 (aK rfl (fun c32=>?_) (fun c32=>?_)))))))))))
 ·have hk0:0<k:=by omega
  rw [if_pos hk0]at hcl
  have hkl: ∀y∈la,k≤y.1.length:=fun y hy=>(shar_take hy hy (Nat.le_of_eq hk.symm)).2
  obtain⟨_,_,_,_,_,hkb,_,_⟩:=same_ext hPa.fit hPb.fit e h2 (by rw [hk];exact hk0)
  rw [hk]at hkb
  have hklb: ∀y∈lb,k≤y.1.length:=fun y hy=>(shar_take hy hy (Nat.le_of_eq hkb.symm)).2
  have hca:=FCut ha hxa.1 (hPa.ps.rows hkl) hsa
  have hcb:=FCut hb hxb.1 (hPb.ps.rows hklb) hsb
  refine At.seq fun _ s_13=>At.region (aC (aD rfl) rfl rfl (aC (aD rfl) rfl rfl (aH (aV rfl) (.cons rfl (.cons rfl .nil)) (hca) Try.func54 rfl rfl (by simp) rfl ?_)))
  rintro v35 L35 ⟨N35,a35,c35,rfl,rfl,r35⟩
  change At _ _ _ [N35,N14,N12,R] _
  refine aC (aD rfl) rfl rfl (aC (aD rfl) rfl rfl (aH (aV rfl) (.cons rfl (.cons rfl .nil)) (hcb) Try.func54 rfl rfl (by simp) rfl ?_))
  rintro v38 L38 ⟨N38,a38,c38,rfl,rfl,r38⟩
  change At _ _ _ [N38,N35,N14,N12,R] _
  refine aH (aV rfl) (.cons rfl (.cons rfl .nil)) (Fn.liftL (Ms:= [N35,N38]) (Ns:=Ns) (hF _ _ _ _ _ _ _ _ _ _ _ (cut_PsL hA (by simp+contextual) hk hk0 hkl (by simp) r35) (cut_PsL hB (by simp+contextual) hkb hk0 hklb (by simp) r38)) hR) Try.func39 rfl rfl (by simp) rfl ?_
  rintro v39 L39 (⟨x1,y1,M1,M2,e1,d1,e2,d2,hr,rfl,rfl,t1,t2⟩|⟨hr,rfl,rfl⟩)
  ·change At _ _ _ [M1,M2,N38,N35,N14,N12,R] _
   refine aO (aD rfl) rfl rfl rfl (aO (aD rfl) rfl rfl rfl (aO (aD rfl) rfl rfl rfl (aE (aD rfl) rfl rfl (aE (aD rfl) rfl rfl (aE (aD rfl) rfl rfl (aA (aB (s_13 (At.ret (aU ((At.sub (L':= [M1,M2,R]) (.cons_cons _ (.cons_cons _ (.cons _ (.cons _ (.cons _ (.cons _ (.cons_cons _ (.slnil)))))))) (At.retN (L1:= [M1,M2]) rfl (.tmp rfl (.tmp rfl (.tmp rfl .nil))) rfl (.refl _) (.refl _) ?_)))))))))))))
   exact .inl ⟨x1,y1,M1,M2,e1,d1,e2,d2,hcl.trans hr,rfl,rfl,t1,t2⟩
  change At _ _ _ [N38,N35,N14,N12,R] _
  refine aO (aD rfl) rfl rfl rfl (aO (aD rfl) rfl rfl rfl (aO (aD rfl) rfl rfl rfl (aE (aD rfl) rfl rfl (aE (aD rfl) rfl rfl (aE (aD rfl) rfl rfl (aA (aB (s_13 (At.ret (aU ((At.sub (L':= [R]) (.cons _ (.cons _ (.cons _ (.cons _ (.cons_cons _ (.slnil)))))) (At.retN (L1:= []) rfl (.tmp rfl (.tmp rfl (.tmp rfl .nil))) rfl (.refl _) (.refl _) ?_)))))))))))))
  exact .inr ⟨hcl.trans hr,rfl,rfl⟩
 have hk0: ¬0<k:=by omega
 rw [if_neg hk0]at hcl
 refine At.skip (aB (s_10 (At.seq fun _ s_14=>At.seq fun _ s_15=>At.region (aC (aD rfl) rfl rfl (aA (aB (s_15 (At.block (At.sub (L':= [R]) (.cons _ (.cons _ (.cons_cons _ (.slnil)))) (At.loop (fun fr_ hp_ ms_=> ∃(i:Nat),fr_= [(0,.slice a na ca),(1,.slice b nb cb),(43,.int .i64 (i:Int))]∧hp_= [R]∧16- i=ms_∧(i≤16)∧(∀c,c<i→clashF g (cutR 1 (undR (UInt8.ofNat c) la)) (cutR 1 (undR (UInt8.ofNat c) lb))=none)) ?_ (.refl _) ⟨0,rfl,rfl,rfl,Nat.zero_le _,fun c hc=>absurd hc (Nat.not_lt_zero c)⟩ ?_))))))))))
 ·exact .cons (by first|exact aL rfl (by omega)|rfl) (.cons (by first|exact aL rfl (by omega)|rfl) (.cons (by first|exact aL rfl (by omega)|rfl) .nil))
 rintro _ _ _ ⟨i,rfl,rfl,rfl,hi,hno⟩
 refine At.seq fun _ s_16=>At.region (op_lss (aD rfl) rfl rfl rfl (aA (aB (s_16 (At.seq fun _ s_17=>aK rfl (fun c44=>?_) (fun c44=>?_))))))
 ·refine At.skip (aB (s_17 (At.seq fun _ s_18=>At.block (At.seq fun _ s_19=>At.region (aC (aD rfl) rfl rfl (aE (aD rfl) rfl rfl (aA (aB (s_19 (At.seq fun _ s_20=>At.region (aC (aD rfl) rfl rfl (aC (aD rfl) rfl rfl (op_conv8 (aD rfl) (und_some Try.underlying3) Try.underlying5 rfl (by first|rfl|exact(Int.toNat_of_nonneg (by omega)).symm) rfl ?_)))))))))))))
  refine aH (aV rfl) (.cons rfl (.cons rfl .nil)) (FUnder ha hPa.ps hsa (UInt8.ofNat i)) Try.func55 rfl rfl (by simp) rfl ?_
  rintro v50 L50 ⟨ys50,⟨N50,a50,c50,rfl,rfl,r50⟩,hp50⟩
  change At _ _ _ [N50,R] _
  refine aC (aD rfl) rfl rfl (aC (aD rfl) rfl rfl (op_conv8 (aD rfl) (und_some Try.underlying3) Try.underlying5 rfl (by first|rfl|exact(Int.toNat_of_nonneg (by omega)).symm) rfl ?_))
  refine aH (aV rfl) (.cons rfl (.cons rfl .nil)) (FUnder hb hPb.ps hsb (UInt8.ofNat i)) Try.func55 rfl rfl (by simp) rfl ?_
  rintro v54 L54 ⟨ys54,⟨N54,a54,c54,rfl,rfl,r54⟩,hp54⟩
  change At _ _ _ [N54,N50,R] _
  refine aH (aV rfl) (.cons rfl (.cons rfl .nil)) (Fn.liftL (Ms:= [N50,N54]) (Ns:=Ns) (hF _ _ _ _ _ _ _ _ _ _ _ (und_PsL hA (by simp+contextual) (UInt8.ofNat i) (by simp) r50 hp50) (und_PsL hB (by simp+contextual) (UInt8.ofNat i) (by simp) r54 hp54)) hR) Try.func39 rfl rfl (by simp) rfl ?_
  rintro v55 L55 (⟨x1,y1,M1,M2,e1,d1,e2,d2,hr,rfl,rfl,t1,t2⟩|⟨hr,rfl,rfl⟩)
  ·change At _ _ _ [M1,M2,N54,N50,R] _
   refine aC (aD rfl) rfl rfl (aO (aD rfl) rfl rfl rfl (aO (aD rfl) rfl rfl rfl (aO (aD rfl) rfl rfl rfl (aE (aD rfl) rfl rfl (aE (aD rfl) rfl rfl (aE (aD rfl) rfl rfl (aA (aB (s_20 (At.seq fun _ s_21=>At.region (aC (aD rfl) rfl rfl (aA (aB (s_21 (At.condT rfl (At.seq fun _ s_22=>At.region (aC (aD rfl) rfl rfl (aC (aD rfl) rfl rfl (aE (aD rfl) rfl rfl (aE (aD rfl) rfl rfl ?_))))))))))))))))))))
   refine aE (aD rfl) rfl rfl (aA (aB (s_22 (At.ret (At.inRet (aU (aU (At.inRet (aU ((At.sub (L':= [M1,M2,R]) (.cons_cons _ (.cons_cons _ (.cons _ (.cons _ (.cons_cons _ (.slnil)))))) (At.retN (L1:= [M1,M2]) rfl (.tmp rfl (.tmp rfl (.tmp rfl .nil))) rfl (.refl _) (.refl _) ?_))))))))))))
   exact .inl ⟨x1,y1,M1,M2,e1,d1,e2,d2,hcl.trans (find_first (by omega) hno hr),rfl,rfl,t1,t2⟩
  change At _ _ _ [N54,N50,R] _
  refine aC (aD rfl) rfl rfl (aO (aD rfl) rfl rfl rfl (aO (aD rfl) rfl rfl rfl (aO (aD rfl) rfl rfl rfl (aE (aD rfl) rfl rfl (aE (aD rfl) rfl rfl (aE (aD rfl) rfl rfl (aA (aB (s_20 (At.seq fun _ s_23=>At.region (aC (aD rfl) rfl rfl (aA (aB (s_23 (At.condF rfl (At.skip (aN (aB (s_18 (At.region (aP (aD rfl) rfl rfl (by omega) (by omega) rfl (aC (aD rfl) rfl rfl ?_))))))))))))))))))))))
  refine aA (aB (At.sub (L':= [R]) (.cons _ (.cons _ (.cons_cons _ (.slnil)))) ?_))
  refine bC ?_ (.refl _) ⟨i+1,rfl,rfl,rfl,by omega,fun c hc=>(Nat.lt_or_ge c i).elim (hno c) (fun q=>by rw [show c=i by omega];exact hr)⟩ ?_
  ·exact .cons (by first|exact aL rfl (by omega)|rfl) (.cons (by first|exact aL rfl (by omega)|rfl) (.cons (by first|exact aL rfl (by omega)|rfl) .nil))
  ·omega
 refine At.exit (aF (aF (aZ (aB (s_14 (At.seq fun _ s_24=>At.region (aE (aD rfl) rfl rfl (aE (aD rfl) rfl rfl (aE (aD rfl) rfl rfl (aA (aB (s_24 (At.ret ((At.retN (L1:= []) rfl (.tmp rfl (.tmp rfl (.tmp rfl .nil))) rfl (.refl _) (.refl _) ?_)))))))))))))))
 exact .inr ⟨hcl.trans (List.findSome?_eq_none_iff.2 fun c hc=>hno c (by have:=List.mem_range.1 hc;omega)),rfl,rfl⟩
theorem FClash_f: ∀f:Nat,ClashF f
 |0=>fun Ns la lb xs ys a b na ca nb cb hA hB=>FClash_at 0 (fun g h=>by omega) Ns la lb xs ys a b na ca nb cb hA hB
 |f+1=>fun Ns la lb xs ys a b na ca nb cb hA hB=>FClash_at (f+1) (fun g h=>(Nat.succ.inj h)▸FClash_f f) Ns la lb xs ys a b na ca nb cb hA hB
end Go.Proofs.Ytdpjbefeabokgaa
/- The engine, arrays of bytes told apart. For whatever program. No condition. -/
namespace Go.Proofs.Ytdpjbefeabokgaa
open Go Go.RowKit
section
variable {P : Program} {n : Nat} {l : List (Nat × Value)} {E : World} {L Ls : List Heaplet} {X Y : Act → World → Prop} {d : Nat} {t t' ty e : TypeId} {x y : Operand}
theorem op_neW8 {a b:List UInt8} {k:Nat} {pos:_} {aft:_} {g:_} (s:NxF P n l E L Ls ⟨some d,.binOp .neq t x y t',ty,pos,aft,g⟩ X Y) (ht:aelt P t=some (k,e,1)) (he:P.underlying e=some (.int .u8)) (hg:P.eqGuardType P.depth t=false) (hx:ev l x=some (.agg (u8s a).toArray)) (hy:ev l y=some (.agg (u8s b).toArray)) (ha:a.length=k) (hb:b.length=k) (hn:Nat.ble (d+1) n=true) (h:At n ((d,.bool (decide (a≠b)))::l) E L Y):At n l E L X:=by
 obtain⟨hu,i,hi,hsz⟩:=aelt_spec ht
 exact op_bin s hx hy (fun w=>eqGuard_agg hg w) (fun w=>by
  rw [run_neq_struct,run_equalIn_bytes8 w 9998 t e k hu he (fun w=>by rw [run_sizeOf hi,hsz]) a b ha hb]
  simp only [Result.andThen_ok,show(!(a==b))=decide (a≠b)from by rw [Bool.eq_iff_iff];simp]) hn h
end
end Go.Proofs.Ytdpjbefeabokgaa
/- Layer 12: trie.Clash; what its answer is, in plain words. No condition but bounds. -/
namespace Go.Proofs.Ytdpjbefeabokgaa
open Go Go.RowKit
set_option maxRecDepth 100000
theorem prs_perm {R S:List PR} (hR:Dis R) (hS:Dis S) (h:(prs R).Perm (prs S)):R.Perm S:=by
 have go: ∀ {A B:List PR},(prs A).Perm (prs B)→ ∀p,p∈A→p∈B:=fun {A B} h p hp=>by
  have h1:(nibs p.1,p.2)∈prs B:=h.mem_iff.1 (List.mem_map.2 ⟨p,hp,rfl⟩)
  obtain⟨q,hq,e⟩:=List.mem_map.1 h1
  simp only [Prod.mk.injEq]at e
  obtain⟨e1,e2⟩:=e
  have e3:=nibs_inj e1
  have:q=p:=Prod.ext e3 e2
  rw [←this];exact hq
 exact perm_mem hR hS fun p=>⟨go h p,go h.symm p⟩
theorem clash_ans {R S S1 S2:List PR} (hR:Good R) (hS:Good S) (h1:S1.Perm R) (h2:S2.Perm S) (hroot:rootM R=rootM S):
 (R.Perm S∧clashF 81 (prs S1) (prs S2)=none)∨(¬R.Perm S∧ ∃x y,clashF 81 (prs S1) (prs S2)=some (x,y)∧x≠y∧kec x=kec y):=by
 have g1:=hR.perm h1.symm
 have g2:=hS.perm h2.symm
 by_cases hp:R.Perm S
 ·exact .inl ⟨hp,clash_same 81 g1.dis.prs ((h1.trans (hp.trans h2.symm)).map _)⟩
 ·refine .inr ⟨hp,clash_diff 81 g1.dis.prs g2.dis.prs g1.fit g2.fit ?_ fun h=>hp ?_⟩
  ·have e1:=root_perm g1.dis h1
   have e2:=root_perm g2.dis h2
   exact e1.trans (hroot.trans e2.symm)
  ·exact(h1.symm.trans (prs_perm g1.dis g2.dis h)).trans h2
theorem sub3a {N A B R:Heaplet} (h:N∈ [A,R]):N∈ [A,B,R]:=by
 simp only [List.mem_cons,List.not_mem_nil,or_false]at h⊢
 rcases h with h|h
 ·exact .inl h
 ·exact .inr (.inr h)
theorem sub3b {N A B R:Heaplet} (h:N∈ [B,R]):N∈ [A,B,R]:=List.mem_cons_of_mem _ h
def Sml (l:List PR):Prop:= ∀p∈l,p.1.length≤1000000∧p.2.length≤1000000
theorem Sml.cut {l:List PR} (h:Sml l) (k:Nat):Sml (cutR k l):=fun p hp=>by
 obtain⟨q,hq,rfl⟩:=List.mem_map.1 hp
 have:=h q hq
 refine⟨?_,this.2⟩
 simp only [List.length_drop]
 omega
theorem Sml.und {l:List PR} (h:Sml l) (c:UInt8):Sml (undR c l):=fun p hp=>h p (List.mem_filter.1 hp).1
theorem clash_len: ∀(f:Nat) {a b:List PR} {x y:List UInt8},Sml a→Sml b→clashF f a b=some (x,y)→x.length≤2000000∧y.length≤2000000
 |0,_,_,_,_,_,_,h=>by cases h
 |f+1,a,b,x,y,ha,hb,h=>by
  rw [clashF]at h
  split at h
  ·simp only [Option.some.injEq,Prod.mk.injEq]at h
   rw [←h.1, ←h.2]
   exact⟨node_small _ ha,node_small _ hb⟩
  ·split at h
   ·cases h
   ·split at h
    ·exact clash_len f (ha.cut _) (hb.cut _) h
    ·obtain⟨c,_,hc⟩:=List.exists_of_findSome?_eq_some h
     exact clash_len f ((ha.und _).cut _) ((hb.und _).cut _) hc
def ClashT (R S:List PR) (v:Value) (L:List Heaplet):Prop:=
 (rootM R=rootM S∧ ¬R.Perm S∧ ∃x y M1 M2 a c b d,x≠y∧kec x=kec y∧(x.length≤2000000∧y.length≤2000000)∧v=.tuple #[.slice a x.length c,.slice b y.length d,.bool true]∧L= [M1,M2]∧Row M1 5 1 a x.length c (u8s x)∧Row M2 5 1 b y.length d (u8s y))∨((R.Perm S∨rootM R≠rootM S)∧v=.tuple #[.slice none 0 0,.slice none 0 0,.bool false]∧L= [])
theorem TrieN.good {N:Heaplet} {b c:Nat} {R:List PR} (h:TrieN N b c R):Good R:=by
 obtain⟨_,_,_,_,_,hG⟩:=h;exact hG
section
variable {P Q : Heaplet} {bp bq c d : Nat} {R0 S0 : List PR}
theorem FClashT (h:TrieN P bp c R0) (h2:TrieN Q bq d S0) (hl:R0.length≤1000000) (hl2:S0.length≤1000000):Fn Try.prog 24 #[.pointer (some ⟨bp,0,none⟩),.pointer (some ⟨bq,0,none⟩)] [] [P,Q] (ClashT R0 S0):=by
 obtain⟨z1,e1⟩: ∃z,rootM R0=z:=⟨_,rfl⟩
 obtain⟨z2,e2⟩: ∃z,rootM S0=z:=⟨_,rfl⟩
 have l1:z1.length=32:=by rw [←e1,rootM,kec_len]
 have l2:z2.length=32:=by rw [←e2,rootM,kec_len]
 have hG1:=h.good
 have hG2:=h2.good
 have hans:=fun(S1 S2:List PR) (p1:S1.Perm R0) (p2:S2.Perm S0)=>clash_ans h.good h2.good p1 p2
 refine Fn.enter (vs:= [.pointer (some ⟨bp,0,none⟩),.pointer (some ⟨bq,0,none⟩)]) Try.func24 rfl rfl rfl ?_
 intro E R hR
 have h:=h.le (hR P (by simp))
 have h2:=h2.le (hR Q (by simp))
 change At _ _ E [R] _
 refine At.seq fun _ s_1=>At.region (aE (aD rfl) rfl rfl (aE (aD rfl) rfl rfl (aE (aD rfl) rfl rfl (aA (aB (s_1 (At.seq fun _ s_2=>At.seq fun _ s_3=>At.region (aC (aD rfl) rfl rfl (aH (aV rfl) (.cons rfl .nil) (FRoot h hl) Try.func16 rfl rfl (by simp) rfl ?_)))))))))
 rintro v8 L8 ⟨rfl,rfl⟩
 change At _ _ _ [R] _
 rw [e1]
 refine aC (aD rfl) rfl rfl (aH (aV rfl) (.cons rfl .nil) (FRoot h2 hl2) Try.func16 rfl rfl (by simp) rfl ?_)
 rintro v10 L10 ⟨rfl,rfl⟩
 change At _ _ _ [R] _
 rw [e2]
 refine op_neW8 (a:=z1) (b:=z2) (aD rfl) ae48 Try.underlying5 (by kernel_rfl) rfl rfl l1 l2 rfl (aA (aB (s_3 (aK rfl (fun c11=>?_) (fun c11=>?_)))))
 ·refine At.seq fun _ s_4=>At.region (aE (aD rfl) rfl rfl (aE (aD rfl) rfl rfl (aE (aD rfl) rfl rfl (aA (aB (s_4 (At.ret (aU ((At.retN (L1:= []) rfl (.tmp rfl (.tmp rfl (.tmp rfl .nil))) rfl (.refl _) (.refl _) ?_))))))))))
  exact .inr ⟨.inr (by rw [e1,e2];simpa using c11),rfl,rfl⟩
 refine At.skip (aB (s_2 (At.seq fun _ s_5=>At.region (aC (aD rfl) rfl rfl (aH (aV rfl) (.cons rfl .nil) (FPairs h hl) Try.func32 rfl rfl (by simp) rfl ?_)))))
 rintro v13 L13 ⟨N13,a13,c13,xs,S1,rfl,rfl,p1,hP1⟩
 change At _ _ _ [N13,R] _
 refine aC (aD rfl) rfl rfl (aH (aV rfl) (.cons rfl .nil) (FPairs h2 hl2) Try.func32 rfl rfl (by simp) rfl ?_)
 rintro v15 L15 ⟨N15,a15,c15,ys,S2,rfl,rfl,p2,hP2⟩
 change At _ _ _ [N15,N13,R] _
 refine aH (aV rfl) (.cons rfl (.cons rfl .nil)) (FClash_f 81 [N13,N15,R] _ _ _ _ _ _ _ _ _ _ (fun J hJ=>hP1 J fun N hN=>hJ N (sub3a hN)) (fun J hJ=>hP2 J fun N hN=>hJ N (sub3b hN))) Try.func39 rfl rfl (by simp) rfl ?_
 rintro v16 L16 (⟨x,y,M1,M2,a,c,b,d,hr,rfl,rfl,t1,t2⟩|⟨hr,rfl,rfl⟩)
 ·change At _ _ _ [M1,M2,N15,N13,R] _
  refine aO (aD rfl) rfl rfl rfl (aO (aD rfl) rfl rfl rfl (aO (aD rfl) rfl rfl rfl (aE (aD rfl) rfl rfl (aE (aD rfl) rfl rfl (aE (aD rfl) rfl rfl (aA (aB (s_5 (At.ret ((At.sub (L':= [M1,M2,R]) (.cons_cons _ (.cons_cons _ (.cons _ (.cons _ (.cons_cons _ (.slnil)))))) (At.retN (L1:= [M1,M2]) rfl (.tmp rfl (.tmp rfl (.tmp rfl .nil))) rfl (.refl _) (.refl _) ?_))))))))))))
  have hz:z1=z2:=by simpa using c11
  have hroot:rootM R0=rootM S0:=by rw [e1,e2];exact hz
  rcases hans S1 S2 p1 p2 hroot with ⟨_,hn⟩|⟨hp,x',y',hs,hne,hk⟩
  ·rw [hn]at hr;cases hr
  ·rw [hs]at hr
   simp only [Option.some.injEq,Prod.mk.injEq]at hr
   obtain⟨rfl,rfl⟩:=hr
   exact .inl ⟨hroot,hp,_,_,M1,M2,a,c,b,d,hne,hk,clash_len 81 (hG1.perm p1.symm).fit.sml (hG2.perm p2.symm).fit.sml hs,rfl,rfl,t1,t2⟩
 change At _ _ _ [N15,N13,R] _
 refine aO (aD rfl) rfl rfl rfl (aO (aD rfl) rfl rfl rfl (aO (aD rfl) rfl rfl rfl (aE (aD rfl) rfl rfl (aE (aD rfl) rfl rfl (aE (aD rfl) rfl rfl (aA (aB (s_5 (At.ret ((At.sub (L':= [R]) (.cons _ (.cons _ (.cons_cons _ (.slnil)))) (At.retN (L1:= []) rfl (.tmp rfl (.tmp rfl (.tmp rfl .nil))) rfl (.refl _) (.refl _) ?_))))))))))))
 have hz:z1=z2:=by simpa using c11
 have hroot:rootM R0=rootM S0:=by rw [e1,e2];exact hz
 rcases hans S1 S2 p1 p2 hroot with ⟨hp,_⟩|⟨_,x',y',hs,_,_⟩
 ·exact .inr ⟨.inl hp,rfl,rfl⟩
 ·rw [hs]at hr;cases hr
end
end Go.Proofs.Ytdpjbefeabokgaa
/- quarrylaw12.TrieClash answers true. No condition. -/
namespace Go.Proofs.Ytdpjbefeabokgaa
open Go Go.RowKit
set_option maxRecDepth 100000
theorem sub_perm: ∀ {R S:List PR},R.Nodup→(∀p∈R,p∈S)→S.length≤R.length→R.Perm S
 | [],S,_,_,hl=>by
  obtain rfl:S= []:=List.eq_nil_of_length_eq_zero (Nat.le_zero.1 hl)
  exact .refl _
 |p::R,S,hn,hs,hl=>by
  have hp:=hs p (by simp)
  have h1:=List.perm_cons_erase hp
  have hn2:=List.nodup_cons.1 hn
  have h2:R.Perm (S.erase p):=sub_perm hn2.2 (fun q hq=>(List.mem_erase_of_ne (fun e=>by subst e;exact hn2.1 hq)).2 (hs q (by simp [hq]))) (by
   rw [List.length_erase_of_mem hp]
   have:=hl
   rw [List.length_cons]at this
   omega)
  exact(h2.cons p).trans h1.symm
def SameI (R S:List PR) (i:Nat):Prop:=R.length=S.length∧ ∀(j:Nat) (p:PR),j<i→R[j]? =some p→p∈S
theorem same_0 (R S:List PR):decide ((R.length:Int)=(S.length:Int))=true↔SameI R S 0:=by
 rw [decide_eq_true_iff]
 exact⟨fun h=>⟨by omega,fun j p hj=>absurd hj (Nat.not_lt_zero j)⟩,fun h=>by have:=h.1;omega⟩
theorem same_T {R S:List PR} {i:Nat} {p:PR} {g:Bool} (hS:Dis S) (hg:g=true↔SameI R S i) (hgt:g=true) (hp:R[i]? =some p) (hh:hasM p.1 S=true):decide ((getR S p.1).getD []=p.2)=true↔SameI R S (i+1):=by
 have h0:=hg.1 hgt
 have h1:=(has_get hS).1 hh
 obtain⟨v,hv⟩:=Option.ne_none_iff_exists'.1 h1
 rw [decide_eq_true_iff,hv,Option.getD_some]
 refine⟨fun e=>⟨h0.1,fun j q hj hq=>?_⟩,fun h=>?_⟩
 ·rcases Nat.lt_or_ge j i with k|k
  ·exact h0.2 j q k hq
  ·obtain rfl:j=i:=by omega
   rw [hp]at hq
   obtain rfl:=Option.some.inj hq
   have:=(get_iff hS).1 hv
   rw [e]at this
   exact this
 ·have h2:=(get_iff hS (row:=p.1) (v:=p.2)).2 (h.2 i p (Nat.lt_succ_self i) hp)
  rw [hv]at h2
  exact Option.some.inj h2
theorem same_F {R S:List PR} {i:Nat} {p:PR} (hS:Dis S) (hp:R[i]? =some p) (hh:hasM p.1 S=false):false=true↔SameI R S (i+1):=by
 refine⟨fun h=>Bool.noConfusion h,fun h=>?_⟩
 have h2:=(get_iff hS (row:=p.1) (v:=p.2)).2 (h.2 i p (Nat.lt_succ_self i) hp)
 have:=(has_get hS).2 (by rw [h2];simp:getR S p.1≠none)
 rw [hh]at this
 exact this
theorem same_exit {R S:List PR} {i:Nat} {g:Bool} (hR:Dis R) (hg:g=true↔SameI R S i) (h:g=false∨R.length≤i):g=true↔R.Perm S:=by
 refine⟨fun e=>?_,fun hp=>hg.2 ⟨hp.length_eq,fun j p _ hj=>hp.mem_iff.1 (List.mem_of_getElem? hj)⟩⟩
 have hi:R.length≤i:=h.elim (fun k=>by rw [e]at k;cases k) id
 have h1:=hg.1 e
 refine sub_perm (dis_nodup hR) (fun p hp=>?_) (Nat.le_of_eq h1.1.symm)
 obtain⟨j,hj,rfl⟩:=List.mem_iff_getElem.1 hp
 exact h1.2 j _ (by omega) (List.getElem?_eq_getElem hj)
section
variable {N M : Heaplet} {ao bo : Option Addr} {n cap m cbp : Nat} {xs xt : List OV}
set_option maxHeartbeats 400000 in
theorem TrieClash_f (h:RSl N 4 ao n cap (opsC xs)) (hg:OpsN N xs) (h2:RSl M 4 bo m cbp (opsC xt)) (hg2:OpsN M xt):Fn Try.prog 6 #[.slice ao n cap,.slice bo m cbp] [] [N,M] (fun v L=>v=.bool true∧L= []):=by
 refine Fn.enter (vs:= [.slice ao n cap,.slice bo m cbp]) Try.func6 rfl rfl rfl ?_
 intro E R hR
 have h:=h.le (hR N (by simp))
 have hg:=hg.le (hR N (by simp))
 have h2:=h2.le (hR M (by simp))
 have hg2:=hg2.le (hR M (by simp))
 change At _ _ E [R] _
 refine At.seq fun _ s_1=>At.region (aE (aD rfl) rfl rfl (aA (aB (s_1 (At.seq fun _ s_2=>At.region (aC (aD rfl) rfl rfl (aH (aV rfl) (.cons rfl .nil) (FMade h hg) Try.func10 rfl rfl (by simp) rfl ?_)))))))
 rintro v18 L18 ⟨NP,NQ,x5,y6,rfl,rfl,hs1⟩
 change At _ _ _ [NP,NQ,R] _
 refine aC (aD rfl) rfl rfl (aO (aD rfl) rfl rfl rfl (aO (aD rfl) rfl rfl rfl (aE (aD rfl) rfl rfl (aE (aD rfl) rfl rfl (aA (aB (s_2 (At.seq fun _ s_3=>At.region (aC (aD rfl) rfl rfl (aH (aV rfl) (.cons rfl .nil) (FMade h2 hg2) Try.func10 rfl rfl (by simp) rfl ?_))))))))))
 rintro v23 L23 ⟨NS,NT,x7,y8,rfl,rfl,hs2⟩
 change At _ _ _ [NS,NT,NP,NQ,R] _
 obtain⟨c1,R0,hT1,hF1,hc1,hl1⟩:=hs1
 obtain⟨c2,S0,hT2,hF2,hc2,hl2⟩:=hs2
 have hr1:=hF1.s (Heaplet.le_refl NQ)
 have hr2:=hF2.s (Heaplet.le_refl NT)
 obtain⟨fa,fc,ga,gc,ks,vs,BQ,rk,rv,bk,bv,hG⟩:=id hr1
 obtain⟨fa2,fc2,ga2,gc2,ks2,vs2,BT,_,_,_,_,hG2⟩:=id hr2
 obtain⟨z1,e1⟩: ∃z,rootM R0=z:=⟨_,rfl⟩
 obtain⟨z2,e2⟩: ∃z,rootM S0=z:=⟨_,rfl⟩
 have l1:z1.length=32:=by rw [←e1,rootM,kec_len]
 have l2:z2.length=32:=by rw [←e2,rootM,kec_len]
 refine aC (aD rfl) rfl rfl (aO (aD rfl) rfl rfl rfl (aO (aD rfl) rfl rfl rfl (aE (aD rfl) rfl rfl (aE (aD rfl) rfl rfl (aA (aB (s_3 (At.seq fun _ s_4=>At.seq fun _ s_5=>At.region (aC (aD rfl) rfl rfl (op_eqPt (aD rfl) Try.underlying23 rfl rfl (aC (aD rfl) rfl rfl (aC (nxgf rfl rfl rfl rfl) rfl rfl (op_eqPt (nxgf rfl rfl rfl rfl) Try.underlying23 rfl rfl (op_pickF (aD rfl) rfl rfl rfl (aC (aD rfl) rfl rfl (aH (nxga rfl rfl rfl rfl) .nil (TWakes) Try.func8 rfl rfl (by simp) rfl ?_))))))))))))))))
 rintro v33 L33 ⟨rfl,rfl⟩
 change At _ _ _ [NS,NT,NP,NQ,R] _
 refine op_not (nxgf rfl rfl rfl rfl) rfl rfl (op_pickF (aD rfl) rfl rfl rfl (aA (aB (s_5 (At.condF rfl (At.skip (aB (s_4 (At.seq fun _ s_6=>At.drawn [] [0,1,2,3,4,5,6,7,8,9,10,11] (by kernel_rfl) (by kernel_rfl) (aC (aJ rfl rfl rfl (by kernel_rfl)) rfl rfl (bA (aJ rfl rfl rfl (by kernel_rfl)) rfl rfl (aG (aJ rfl rfl rfl (by kernel_rfl)) fl31_0 rfl rfl (aI (aJ rfl rfl rfl (by kernel_rfl)) sc29 rfl BQ (by first|rfl) mem3 rfl ?_)))))))))))))
 refine aS (aJ rfl rfl rfl (by kernel_rfl)) se29 rfl rfl (aC (aJ rfl rfl rfl (by kernel_rfl)) rfl rfl (bA (aJ rfl rfl rfl (by kernel_rfl)) rfl rfl (aG (aJ rfl rfl rfl (by kernel_rfl)) fl31_0 rfl rfl (aI (aJ rfl rfl rfl (by kernel_rfl)) sc29 rfl BT (by first|rfl) aX rfl ?_))))
 refine aS (aJ rfl rfl rfl (by kernel_rfl)) se29 rfl rfl (op_eql (aJ rfl rfl rfl (by kernel_rfl)) rfl rfl rfl (aE (aJ rfl rfl rfl (by kernel_rfl)) rfl rfl (At.oneNil (aB (s_6 (At.seq fun _ s_7=>At.meet (fun fr_ hp_=> ∃(g:Bool),fr_= [(4,.bool false),(5,.pointer (some ⟨x5,0,none⟩)),(7,.pointer (some ⟨x7,0,none⟩)),(9,.bool g)]∧hp_= [NP,NS,R]∧(g=true↔R0.Perm S0)) ?_ (fun K7_ jk_7=>?_)))))))
 rotate_left
 ·skip
  refine At.seq fun _ s_8=>At.region (aE (aD rfl) rfl rfl (aA (aB (s_8 (At.block (At.perm sel4 (At.perm sel2 (At.perm sel2 (At.perm sel4 (At.perm sel4 (At.loop (fun fr_ hp_ ms_=> ∃(i:Nat) (g:Bool),fr_= [(4,.bool false),(5,.pointer (some ⟨x5,0,none⟩)),(6,.pointer (some ⟨y6,0,none⟩)),(7,.pointer (some ⟨x7,0,none⟩)),(8,.pointer (some ⟨y8,0,none⟩)),(9,.bool g),(10,.int .i64 (i:Int))]∧hp_= [NP,NQ,NS,NT,R]∧R0.length- i=ms_∧(i≤R0.length)∧(g=true↔SameI R0 S0 i)) ?_ (.refl _) ⟨0,decide ((R0.length:Int)=(S0.length:Int)),rfl,rfl,rfl,Nat.zero_le _,same_0 R0 S0⟩ ?_)))))))))))
  ·exact .cons (by first|exact aL rfl (by omega)|rfl) (.cons (by first|exact aL rfl (by omega)|rfl) (.cons (by first|exact aL rfl (by omega)|rfl) (.cons (by first|exact aL rfl (by omega)|rfl) (.cons (by first|exact aL rfl (by omega)|rfl) (.cons (by first|exact aL rfl (by omega)|rfl) (.cons (by first|exact aL rfl (by omega)|rfl) .nil))))))
  rintro _ _ _ ⟨i,g,rfl,rfl,rfl,hi,hg⟩
  refine At.seq fun _ s_9=>At.seq fun _ s_10=>At.region (aC (aD rfl) rfl rfl (aC (aD rfl) rfl rfl (bA (aD rfl) rfl rfl (aG (aD rfl) fl31_0 rfl rfl (aI (aD rfl) sc29 rfl BQ (by first|rfl) aX rfl ?_)))))
  refine aS (aD rfl) se29 rfl rfl (op_lss (aD rfl) rfl rfl rfl (aC (aD rfl) rfl rfl (At.partP (d:=54) rfl (fun g54=>?_) (fun g54=>?_))))
  ·refine aC (nxgf rfl rfl rfl rfl) rfl rfl (op_pickT (aD rfl) rfl rfl rfl (aA (aB (s_10 (At.condB rfl (fun c56=>?_) (fun c56=>?_))))))
   ·have hil:i<R0.length:=by omega
    obtain⟨p,hp⟩: ∃p,R0[i]? =some p:=⟨_,List.getElem?_eq_getElem hil⟩
    obtain⟨pa,pc,hk1,hk2⟩:=bags_at bk hp
    obtain⟨va,vc,hv1,hv2⟩:=bags_at bv hp
    have has:=rk.isSome (by omega)
    have has2:=rv.isSome (by omega)
    refine At.skip (aB (s_9 (At.seq fun _ s_11=>At.block (At.seq fun _ s_12=>At.region (aC (aD rfl) rfl rfl (aC (aD rfl) rfl rfl (bA (aD rfl) rfl rfl (aG (aD rfl) fl31_0 rfl rfl (aI (aD rfl) sc29 rfl BQ (by first|rfl) aX rfl ?_)))))))))
    refine aC (aD rfl) rfl rfl (op_idx1 (aD rfl) se29 rfl rfl rk (show _=(((i:Nat)):Int)from by omega) (by omega) rfl ?_)
    refine aY (aD rfl) sc33 rfl rk (by first|exact get8 (by omega)|exact get64 (by omega)|exact get32 (by omega)|exact hk1) (by first|exact aM|exact aX|exact bB|exact mem3|exact mem4|exact mem5|exact mem6|exact mem7|exact mem8|exact mem9) rfl ?_
    refine aH (aV rfl) (.cons rfl (.cons rfl .nil)) (rGet hr2 hk2) Try.func23 rfl rfl (by simp) rfl ?_
    rintro v68 L68 ⟨a68,c68,rfl,rfl,s68⟩
    change At _ _ _ [NP,NQ,NS,NT,R] _
    refine aC (aD rfl) rfl rfl (aO (aD rfl) rfl rfl rfl (aO (aD rfl) rfl rfl rfl (aE (aD rfl) rfl rfl (aE (aD rfl) rfl rfl (aA (aB (s_12 (At.drawn [] [0,1,2,3,4,5,6,7,8,9,10,11,12,13,14] (by kernel_rfl) (by kernel_rfl) (aC (aJ rfl rfl rfl (by kernel_rfl)) rfl rfl (aC (aJ rfl rfl rfl (by kernel_rfl)) rfl rfl (At.part (d:=72) rfl (fun g72=>?_) (fun g72=>?_))))))))))))
    ·refine aC (nxogf rfl rfl rfl rfl rfl rfl (by kernel_rfl)) rfl rfl (op_str (nxogf rfl rfl rfl rfl rfl rfl (by kernel_rfl)) Try.underlying33 Try.underlying5 Try.underlying9 rfl (by assumption) (by first|exact aM|exact aX|exact bB|exact mem3|exact mem4|exact mem5|exact mem6|exact mem7|exact mem8|exact mem9) rfl ?_)
     refine aC (nxogf rfl rfl rfl rfl rfl rfl (by kernel_rfl)) rfl rfl (bA (nxogf rfl rfl rfl rfl rfl rfl (by kernel_rfl)) rfl rfl (aG (nxogf rfl rfl rfl rfl rfl rfl (by kernel_rfl)) fl31_1 rfl rfl (aI (nxogf rfl rfl rfl rfl rfl rfl (by kernel_rfl)) sc29 rfl BQ (by first|rfl) aX rfl ?_)))
     refine aC (nxogf rfl rfl rfl rfl rfl rfl (by kernel_rfl)) rfl rfl (op_idx1 (nxogf rfl rfl rfl rfl rfl rfl (by kernel_rfl)) se29 rfl rfl rv (show _=(((i:Nat)):Int)from by omega) (by omega) rfl ?_)
     refine aY (nxogf rfl rfl rfl rfl rfl rfl (by kernel_rfl)) sc33 rfl rv (by first|exact get8 (by omega)|exact get64 (by omega)|exact get32 (by omega)|exact hv1) (by first|exact aM|exact aX|exact bB|exact mem3|exact mem4|exact mem5|exact mem6|exact mem7|exact mem8|exact mem9) rfl ?_
     refine op_str (nxogf rfl rfl rfl rfl rfl rfl (by kernel_rfl)) Try.underlying33 Try.underlying5 Try.underlying9 rfl (by assumption) (by first|exact aM|exact aX|exact bB|exact mem3|exact mem4|exact mem5|exact mem6|exact mem7|exact mem8|exact mem9) rfl ?_
     refine op_eqS (nxogf rfl rfl rfl rfl rfl rfl (by kernel_rfl)) rfl rfl rfl (op_pickT (aJ rfl rfl rfl (by kernel_rfl)) rfl rfl rfl (aE (aJ rfl rfl rfl (by kernel_rfl)) rfl rfl (At.oneNil (aN (aB (s_11 (At.region (aC (aD rfl) rfl rfl (aP (aD rfl) rfl rfl (by omega) (by omega) rfl (aE (aD rfl) rfl rfl (aA (aB (bC ?_ (.refl _) ⟨i+1,decide ((getR S0 p.1).getD []=p.2),rfl,rfl,rfl,by omega,same_T hG2.dis hg c56 hp g72⟩ ?_)))))))))))))
     ·exact .cons (by first|exact aL rfl (by omega)|rfl) (.cons (by first|exact aL rfl (by omega)|rfl) (.cons (by first|exact aL rfl (by omega)|rfl) (.cons (by first|exact aL rfl (by omega)|rfl) (.cons (by first|exact aL rfl (by omega)|rfl) (.cons (by first|exact aL rfl (by omega)|rfl) (.cons (by first|exact aL rfl (by omega)|rfl) .nil))))))
     ·omega
    refine aR rfl rfl rfl rfl rfl rfl rfl rfl (aR rfl rfl rfl rfl rfl rfl rfl rfl (aR rfl rfl rfl rfl rfl rfl rfl rfl (aR rfl rfl rfl rfl rfl rfl rfl rfl (aR rfl rfl rfl rfl rfl rfl rfl rfl (aR rfl rfl rfl rfl rfl rfl rfl rfl (aR rfl rfl rfl rfl rfl rfl rfl rfl (aR rfl rfl rfl rfl rfl rfl rfl rfl (aR rfl rfl rfl rfl rfl rfl rfl rfl (aR rfl rfl rfl rfl rfl rfl rfl rfl (aR rfl rfl rfl rfl rfl rfl rfl rfl (op_pickF (aJ rfl rfl rfl (by kernel_rfl)) rfl rfl rfl (aE (aJ rfl rfl rfl (by kernel_rfl)) rfl rfl (At.oneNil (aN (aB (s_11 (At.region (aC (aD rfl) rfl rfl (aP (aD rfl) rfl rfl (by omega) (by omega) rfl (aE (aD rfl) rfl rfl (aA ?_)))))))))))))))))))))
    refine aB (bC ?_ (.refl _) ⟨i+1,false,rfl,rfl,rfl,by omega,same_F hG2.dis hp g72⟩ ?_)
    ·exact .cons (by first|exact aL rfl (by omega)|rfl) (.cons (by first|exact aL rfl (by omega)|rfl) (.cons (by first|exact aL rfl (by omega)|rfl) (.cons (by first|exact aL rfl (by omega)|rfl) (.cons (by first|exact aL rfl (by omega)|rfl) (.cons (by first|exact aL rfl (by omega)|rfl) (.cons (by first|exact aL rfl (by omega)|rfl) .nil))))))
    ·omega
   refine At.exit (aF (aF (aZ (At.sub (L':= [NP,NS,R]) (.cons_cons _ (.cons _ (.cons_cons _ (.cons _ (.cons_cons _ (.slnil)))))) (aB (jk_7 ?_ (.refl _) ⟨g,rfl,rfl,same_exit hG.dis hg (.inl c56)⟩))))))
   exact .cons (by first|exact aL rfl (by omega)|rfl) (.cons (by first|exact aL rfl (by omega)|rfl) (.cons (by first|exact aL rfl (by omega)|rfl) (.cons (by first|exact aL rfl (by omega)|rfl) .nil)))
  refine bD rfl rfl rfl rfl rfl rfl rfl (op_pickF (aD rfl) rfl rfl rfl (aA (aB (s_10 (At.condF rfl (At.exit (aF (aF (aZ (At.sub (L':= [NP,NS,R]) (.cons_cons _ (.cons _ (.cons_cons _ (.cons _ (.cons_cons _ (.slnil)))))) (aB (jk_7 ?_ (.refl _) ⟨g,rfl,rfl,same_exit hG.dis hg (.inr (by omega))⟩))))))))))))
  exact .cons (by first|exact aL rfl (by omega)|rfl) (.cons (by first|exact aL rfl (by omega)|rfl) (.cons (by first|exact aL rfl (by omega)|rfl) (.cons (by first|exact aL rfl (by omega)|rfl) .nil)))
 rintro _ _ ⟨g,rfl,rfl,hg⟩
 refine s_7 (At.seq fun _ s_13=>At.region (aC (aD rfl) rfl rfl (aC (aD rfl) rfl rfl (aH (aV rfl) (.cons rfl (.cons rfl .nil)) (FClashT hT1 hT2 (by omega) (by omega)) Try.func24 rfl rfl (by simp) rfl ?_))))
 rintro v88 L88 (⟨hroot,hnp,x,y,M1,M2,a,c,b,d,hne,hk,hlen,rfl,rfl,t1,t2⟩|⟨hor,rfl,rfl⟩)
 ·change At _ _ _ [M1,M2,NP,NS,R] _
  have u1:=t1.rsl;have u2:=t2.rsl;obtain⟨kz,hkz⟩: ∃z,kec x=z:=⟨_,rfl⟩;have hkz2:kec y=kz:=hk.symm.trans hkz;have lk:kz.length=32:=hkz▸kec_len x;clear hk;have hzz:z1=z2:=e1.symm.trans (hroot.trans e2)
  refine aC (aD rfl) rfl rfl (aO (aD rfl) rfl rfl rfl (aO (aD rfl) rfl rfl rfl (aO (aD rfl) rfl rfl rfl (aE (aD rfl) rfl rfl (aE (aD rfl) rfl rfl (aE (aD rfl) rfl rfl (aA (aB (s_13 (At.seq fun _ s_14=>At.seq fun _ s_15=>At.region (aC (aD rfl) rfl rfl (aA (aB (s_15 (At.condB rfl (fun c92=>?_) (fun c92=>?_))))))))))))))))
  ·exact absurd (hg.1 c92) hnp
  refine At.skip (aB (s_14 (At.seq fun _ s_16=>At.seq fun _ s_17=>At.region (aC (aD rfl) rfl rfl (aH (aV rfl) (.cons rfl .nil) (FRoot hT1 (by omega)) Try.func16 rfl rfl (by simp) rfl ?_)))))
  rintro v113 L113 ⟨rfl,rfl⟩
  change At _ _ _ [M1,M2,NP,NS,R] _
  rw [e1]
  refine aC (aD rfl) rfl rfl (aH (aV rfl) (.cons rfl .nil) (FRoot hT2 (by omega)) Try.func16 rfl rfl (by simp) rfl ?_)
  rintro v115 L115 ⟨rfl,rfl⟩
  change At _ _ _ [M1,M2,NP,NS,R] _
  rw [e2]
  refine op_neW8 (a:=z1) (b:=z2) (aD rfl) ae48 Try.underlying5 (by kernel_rfl) rfl rfl l1 l2 rfl (aA (aB (s_17 (aK rfl (fun c116=>?_) (fun c116=>?_)))))
  ·exact absurd hzz c116
  refine At.skip (aB (s_16 (At.seq fun _ s_18=>At.region (aC (aD rfl) rfl rfl (aC (aD rfl) rfl rfl (At.part (d:=130) rfl (fun g130=>?_) (fun g130=>?_)))))))
  rotate_left
  ·cases g130
  refine aC (nxgf rfl rfl rfl rfl) rfl rfl (op_str (nxgf rfl rfl rfl rfl) Try.underlying33 Try.underlying5 Try.underlying9 rfl (by assumption) (by first|exact aM|exact aX|exact bB|exact mem3|exact mem4|exact mem5|exact mem6|exact mem7|exact mem8|exact mem9) rfl ?_)
  refine aC (nxgf rfl rfl rfl rfl) rfl rfl (op_str (nxgf rfl rfl rfl rfl) Try.underlying33 Try.underlying5 Try.underlying9 rfl (by assumption) (by first|exact aM|exact aX|exact bB|exact mem3|exact mem4|exact mem5|exact mem6|exact mem7|exact mem8|exact mem9) rfl ?_)
  refine op_neS (nxgf rfl rfl rfl rfl) rfl rfl rfl (op_pickT (aD rfl) rfl rfl rfl (aC (aD rfl) rfl rfl (At.partP (d:=137) rfl (fun g137=>?_) (fun g137=>?_))))
  rotate_left
  ·exact absurd hne g137
  refine aC (nxgf rfl rfl rfl rfl) rfl rfl (aH (nxga rfl rfl rfl rfl) (.cons rfl .nil) (rKeccak_f u1 (by omega)) Try.func25 rfl rfl (by simp) rfl ?_)
  rintro v139 L139 ⟨rfl,rfl⟩
  change At _ _ _ [M1,M2,NP,NS,R] _
  rw [hkz]
  refine aC (nxgf rfl rfl rfl rfl) rfl rfl (aH (nxga rfl rfl rfl rfl) (.cons rfl .nil) (rKeccak_f u2 (by omega)) Try.func25 rfl rfl (by simp) rfl ?_)
  rintro v141 L141 ⟨rfl,rfl⟩
  change At _ _ _ [M1,M2,NP,NS,R] _
  rw [hkz2]
  refine op_eqW8 (a:=kz) (b:=kz) (nxgf rfl rfl rfl rfl) ae47 Try.underlying5 (by kernel_rfl) rfl rfl lk lk rfl (op_pickT (aD rfl) rfl rfl rfl (aE (aD rfl) rfl rfl (aA (aB (s_18 (At.ret ((At.sub (L':= [R]) (.cons _ (.cons _ (.cons _ (.cons _ (.cons_cons _ (.slnil)))))) (aQ (L1:= []) rfl (.tmp rfl .nil) (.refl _) (.refl _) ?_)))))))))
  exact⟨by first|rfl|simp,rfl⟩
 change At _ _ _ [NP,NS,R] _
 refine aC (aD rfl) rfl rfl (aO (aD rfl) rfl rfl rfl (aO (aD rfl) rfl rfl rfl (aO (aD rfl) rfl rfl rfl (aE (aD rfl) rfl rfl (aE (aD rfl) rfl rfl (aE (aD rfl) rfl rfl (aA (aB (s_13 (At.seq fun _ s_19=>At.seq fun _ s_20=>At.region (aC (aD rfl) rfl rfl (aA (aB (s_20 (At.condB rfl (fun c92=>?_) (fun c92=>?_))))))))))))))))
 ·refine At.seq fun _ s_21=>At.region (aC (aD rfl) rfl rfl (aH (aV rfl) (.cons rfl .nil) (FRoot hT1 (by omega)) Try.func16 rfl rfl (by simp) rfl ?_))
  rintro v94 L94 ⟨rfl,rfl⟩
  change At _ _ _ [NP,NS,R] _
  rw [e1]
  refine aC (aD rfl) rfl rfl (aH (aV rfl) (.cons rfl .nil) (FRoot hT2 (by omega)) Try.func16 rfl rfl (by simp) rfl ?_)
  rintro v96 L96 ⟨rfl,rfl⟩
  change At _ _ _ [NP,NS,R] _
  rw [e2]
  refine op_eqW8 (a:=z1) (b:=z2) (aD rfl) ae48 Try.underlying5 (by kernel_rfl) rfl rfl l1 l2 rfl (aC (aD rfl) rfl rfl (At.partP (d:=98) rfl (fun g98=>?_) (fun g98=>?_)))
  rotate_left
  ·exact absurd (e1.symm.trans ((root_perm hG.dis (hg.1 c92)).trans e2)) g98
  refine aC (nxgf rfl rfl rfl rfl) rfl rfl (op_not (nxgf rfl rfl rfl rfl) rfl rfl (op_pickT (aD rfl) rfl rfl rfl (aC (aD rfl) rfl rfl (At.part (d:=102) rfl (fun g102=>?_) (fun g102=>?_)))))
  rotate_left
  ·simp at g102
  refine aC (nxgf rfl rfl rfl rfl) rfl rfl (aS (nxgf rfl rfl rfl rfl) se33 rfl rfl (op_eql (nxgf rfl rfl rfl rfl) rfl rfl rfl (op_pickT (aD rfl) rfl rfl rfl (aC (aD rfl) rfl rfl (At.partP (d:=107) rfl (fun g107=>?_) (fun g107=>?_))))))
  rotate_left
  ·simp at g107
  refine aC (nxgf rfl rfl rfl rfl) rfl rfl (aS (nxgf rfl rfl rfl rfl) se33 rfl rfl (op_eql (nxgf rfl rfl rfl rfl) rfl rfl rfl (op_pickT (aD rfl) rfl rfl rfl (aE (aD rfl) rfl rfl (aA (aB (s_21 (At.ret (aU ((At.sub (L':= [R]) (.cons _ (.cons _ (.cons_cons _ (.slnil)))) (aQ (L1:= []) rfl (.tmp rfl .nil) (.refl _) (.refl _) ?_))))))))))))
  exact⟨by first|rfl|simp,rfl⟩
 refine At.skip (aB (s_19 (At.seq fun _ s_22=>At.seq fun _ s_23=>At.region (aC (aD rfl) rfl rfl (aH (aV rfl) (.cons rfl .nil) (FRoot hT1 (by omega)) Try.func16 rfl rfl (by simp) rfl ?_)))))
 rintro v113 L113 ⟨rfl,rfl⟩
 change At _ _ _ [NP,NS,R] _
 rw [e1]
 refine aC (aD rfl) rfl rfl (aH (aV rfl) (.cons rfl .nil) (FRoot hT2 (by omega)) Try.func16 rfl rfl (by simp) rfl ?_)
 rintro v115 L115 ⟨rfl,rfl⟩
 change At _ _ _ [NP,NS,R] _
 rw [e2]
 refine op_neW8 (a:=z1) (b:=z2) (aD rfl) ae48 Try.underlying5 (by kernel_rfl) rfl rfl l1 l2 rfl (aA (aB (s_23 (aK rfl (fun c116=>?_) (fun c116=>?_)))))
 rotate_left
 ·exact absurd (fun hz=>(hor.resolve_left fun k=>by rw [hg.2 k]at c92;cases c92) (e1.trans (hz.trans e2.symm))) c116
 refine At.seq fun _ s_24=>At.region (aC (aD rfl) rfl rfl (op_not (aD rfl) rfl rfl (aC (aD rfl) rfl rfl (At.part (d:=119) rfl (fun g119=>?_) (fun g119=>?_)))))
 rotate_left
 ·simp at g119
 refine aC (nxgf rfl rfl rfl rfl) rfl rfl (aS (nxgf rfl rfl rfl rfl) se33 rfl rfl (op_eql (nxgf rfl rfl rfl rfl) rfl rfl rfl (op_pickT (aD rfl) rfl rfl rfl (aC (aD rfl) rfl rfl (At.partP (d:=124) rfl (fun g124=>?_) (fun g124=>?_))))))
 rotate_left
 ·simp at g124
 refine aC (nxgf rfl rfl rfl rfl) rfl rfl (aS (nxgf rfl rfl rfl rfl) se33 rfl rfl (op_eql (nxgf rfl rfl rfl rfl) rfl rfl rfl (op_pickT (aD rfl) rfl rfl rfl (aE (aD rfl) rfl rfl (aA (aB (s_24 (At.ret (aU ((At.sub (L':= [R]) (.cons _ (.cons _ (.cons_cons _ (.slnil)))) (aQ (L1:= []) rfl (.tmp rfl .nil) (.refl _) (.refl _) ?_))))))))))))
 exact⟨by first|rfl|simp,rfl⟩
end
end Go.Proofs.Ytdpjbefeabokgaa
