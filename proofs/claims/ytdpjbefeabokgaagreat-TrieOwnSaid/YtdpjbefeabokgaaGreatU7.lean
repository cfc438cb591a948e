/- Several texts in one: see the remarks ahead of each part. No condition but those told there. -/
import Derived.Test.YtdpjbefeabokgaaGreatU6
import Derived.Test.YtdpjbefeabokgaaGreatU5
import Derived.Test.YtdpjbefeabokgaaGreatU4
import Derived.Lib.Mul64
import Derived.Test.YtdpjbefeabokgaaGreatUA3
import Derived.Test.YtdpjbefeabokgaaGreatU3
set_option linter.unusedSimpArgs false
set_option linter.unusedVariables false
/- rlp.encode, rlp.Encode write any item. No condition but that the form is not longer than a machine holds. -/
namespace Go.Proofs.YtdpjbefeabokgaaGreat
open Go Go.RowKit
set_option maxRecDepth 100000
theorem rlpHead_le (b n:Nat) (h:n<256^8):(rlpHead b n).length≤9:=by
 unfold rlpHead
 split
 ·simp
 ·have:=bytesOf_le h
  simp;omega
/-- What encode tells: the form, or that it is too deep. -/
def EncP (t:It) (lists:Nat) (v:Value) (L:List Heaplet):Prop:=
 (∃M a cap,v=.tuple #[.slice a t.form.length cap,.int .i64 0]∧L= [M]∧Row M 5 1 a t.form.length cap (u8s t.form)∧lists+t.depth≤1024)∨
 (v=.tuple #[.slice none 0 0,.int .i64 7]∧L= []∧ ¬lists+t.depth≤1024)
theorem encode_bs {N:Heaplet} {bs:List UInt8} {its:List It} {ab ai:Option Addr} {nb cb ni ci:Nat} (h:RSl N 1 ab nb cb (u8s bs)) (lists:Nat) (q:Int) (hl:lists≤1024) (hlen:(It.mk false bs its).form.length≤1099511627776):
 Fn Tryz.prog 58 #[.agg #[.bool false,.slice ab nb cb,.slice ai ni ci],.int .i64 q] [] [N] (EncP (.mk false bs its) lists):=by
 have hn:=h.len8
 have hcap:=h.cap63
 have hd:lists+(It.mk false bs its).depth≤1024:=by simpa [It.depth]using hl
 have hf:=form_false bs its
 have hsm:= @small_iffI bs
 have hub:small bs≠true→(rlpHead 128 nb).length+nb≤1099511627776:=fun e=>by rw [hf,if_neg e,List.length_append,hn]at hlen;exact hlen
 refine Fn.enter (vs:= [.agg #[.bool false,.slice ab nb cb,.slice ai ni ci],.int .i64 q]) Tryz.func58 rfl rfl rfl ?_
 intro E R hR
 have h:=h.le (hR N (by simp))
 change At _ _ E [R] _
 refine At.seq fun _ s_1=>At.region (op_box (bA rfl) rfl rfl rfl (fun N2 b2 B2=>aE (aD rfl) rfl rfl (aE (aD rfl) rfl rfl (aA (aB (s_1 (At.seq fun _ s_2=>At.seq fun _ s_3=>At.region (aF (aD rfl) fl68_0 rfl rfl (aI (aD rfl) sc4 rfl B2 (by first|rfl) aL rfl ?_)))))))))
 refine op_not (aD rfl) rfl rfl (aA (aB (s_3 (At.condT rfl (At.seq fun _ s_4=>At.seq fun _ s_5=>At.region (aF (aD rfl) fl68_1 rfl rfl (aI (aD rfl) sc23 rfl B2 (by first|rfl) aL rfl ?_)))))))
 refine aU (aD rfl) se23 rfl rfl (op_eql (aD rfl) rfl rfl rfl (aC (aD rfl) rfl rfl (At.partP (d:=18) rfl (fun g18=>?_) (fun g18=>?_))))
 ·refine aF (aY rfl rfl rfl rfl) fl68_1 rfl rfl (aI (aY rfl rfl rfl rfl) sc23 rfl B2 (by first|rfl) aL rfl ?_)
  refine bI (aY rfl rfl rfl rfl) se23 rfl rfl (by assumption) (show _=(((0:Nat)):Int)from by omega) (by omega) rfl ?_
  refine aT (aY rfl rfl rfl rfl) sc5 rfl (by assumption) (by first|exact get8 (by omega)|exact bT (by omega)|exact bU (by omega)) (by first|exact aL|exact aZ|exact bB|exact bF|exact bG|exact bH|exact bL|exact bK|exact bJ|exact bM) rfl ?_
  refine op_lss (aY rfl rfl rfl rfl) rfl rfl rfl (bS (aD rfl) rfl rfl rfl (aA (aB (s_5 (aK rfl (fun c24=>?_) (fun c24=>?_))))))
  ·refine At.seq fun _ s_6=>At.region (aF (aD rfl) fl68_1 rfl rfl (aI (aD rfl) sc23 rfl B2 (by first|rfl) aL rfl ?_))
   refine bI (aD rfl) se23 rfl rfl (by assumption) (show _=((0:Nat):Int)from rfl) (by omega) rfl ?_
   refine aT (aD rfl) sc5 rfl (by assumption) (by first|exact get8 (by omega)|exact bT (by omega)|exact bU (by omega)) (by first|exact aL|exact aZ|exact bB|exact bF|exact bG|exact bH|exact bL|exact bK|exact bJ|exact bM) rfl ?_
   refine op_lit (bA rfl) Tryz.underlying23 ze5 sz5 (.cons rfl .nil) rfl rfl (by simp [Value.cells]) rfl rfl rfl (fun N29 a29 r29=>?_)
   simp only [flatV,List.flatMap_cons,List.flatMap_nil,Value.cells,List.append_nil,List.cons_append,List.nil_append]at r29
   have s29:=r29.rsl
   refine aE (aD rfl) rfl rfl (aE (aD rfl) rfl rfl (aA (aB (s_6 (At.ret (aM (aM ((At.sub (L':= [N29,R]) (.cons_cons _ (.cons _ (.cons_cons _ (.slnil)))) (bP (L1:= [N29]) rfl (.tmp rfl (.tmp rfl .nil)) rfl (.refl _) (.refl _) ?_))))))))))
   have e:(It.mk false bs its).form= [bs.getD 0 0]:=by
    rw [hf,if_pos (hsm.2 ⟨by omega,by omega⟩)]
    exact one_eq (by omega)
   exact .inl ⟨N29,a29,1,by rw [e];rfl,rfl,by rw [e];exact r29,hd⟩
  refine At.skip (aB (s_4 (At.seq fun _ s_7=>At.drawn [6] [0,1,2,4,5,3,6,7,8] (by kernel_rfl) (by kernel_rfl) (aF (aN rfl rfl rfl (by kernel_rfl)) fl68_1 rfl rfl (aI (aN rfl rfl rfl (by kernel_rfl)) sc23 rfl B2 (by first|rfl) aL rfl ?_)))))
  refine aU (aN rfl rfl rfl (by kernel_rfl)) se23 rfl rfl (aF (aN rfl rfl rfl (by kernel_rfl)) fl68_1 rfl rfl (aI (aN rfl rfl rfl (by kernel_rfl)) sc23 rfl B2 (by first|rfl) aL rfl ?_))
  have hub':=hub (fun e=>by have:=hsm.1 e;omega)
  refine aJ (nxoa rfl rfl rfl) (.cons rfl (.cons rfl .nil)) (head_f 128 nb (by omega) (by omega)) Tryz.func82 rfl rfl (by simp) rfl ?_
  rintro v33 L33 ⟨M33,a33,p33,rfl,rfl,r33⟩
  change At _ _ _ [M33,N2,R] _
  refine bE (nxos rfl rfl rfl rfl) Tryz.underlying23 Tryz.underlying23 te5 rfl rfl r33 (by assumption) (by first|exact aL|exact aZ|exact bB|exact bF|exact bG|exact bH|exact bL|exact bK|exact bJ|exact bM) (by first|exact one_u8s _|exact one_u64s _|exact one_u32s _|(intro u hu;simp at hu;subst hu;rfl)) (by omega) (by omega) sel0 rfl (fun N36 a36 p36 r36=>?_)
  have s36:=r36.rsl
  refine aE (aN rfl rfl rfl (by kernel_rfl)) rfl rfl (aE (aN rfl rfl rfl (by kernel_rfl)) rfl rfl (At.oneNil (aB (s_7 (At.ret (aM ((At.sub (L':= [N36,R]) (.cons_cons _ (.cons _ (.cons_cons _ (.slnil)))) (bP (L1:= [N36]) rfl (.tmp rfl (.tmp rfl .nil)) rfl (.refl _) (.refl _) ?_)))))))))
  have e:(It.mk false bs its).form=rlpHead 128 nb++bs:=by rw [hf,if_neg (fun e=>by have:=hsm.1 e;omega),hn]
  exact .inl ⟨N36,a36,p36,by rw [e,List.length_append,hn],rfl,by rw [e,List.length_append,hn,u8s,List.map_append];exact r36,hd⟩
 refine aH rfl rfl rfl rfl rfl rfl rfl (aH rfl rfl rfl rfl rfl rfl rfl (aH rfl rfl rfl rfl rfl rfl rfl (aH rfl rfl rfl rfl rfl rfl rfl (aH rfl rfl rfl rfl rfl rfl rfl (bR (aD rfl) rfl rfl rfl (aA (aB (s_5 (At.condF rfl (At.skip (aB (s_4 (At.seq fun _ s_8=>At.drawn [6] [0,1,2,4,5,3,6,7,8] (by kernel_rfl) (by kernel_rfl) (aF (aN rfl rfl rfl (by kernel_rfl)) fl68_1 rfl rfl (aI (aN rfl rfl rfl (by kernel_rfl)) sc23 rfl B2 (by first|rfl) aL rfl ?_)))))))))))))))
 refine aU (aN rfl rfl rfl (by kernel_rfl)) se23 rfl rfl (aF (aN rfl rfl rfl (by kernel_rfl)) fl68_1 rfl rfl (aI (aN rfl rfl rfl (by kernel_rfl)) sc23 rfl B2 (by first|rfl) aL rfl ?_))
 have hub':=hub (fun e=>by have:=hsm.1 e;omega)
 refine aJ (nxoa rfl rfl rfl) (.cons rfl (.cons rfl .nil)) (head_f 128 nb (by omega) (by omega)) Tryz.func82 rfl rfl (by simp) rfl ?_
 rintro v33 L33 ⟨M33,a33,p33,rfl,rfl,r33⟩
 change At _ _ _ [M33,N2,R] _
 refine bE (nxos rfl rfl rfl rfl) Tryz.underlying23 Tryz.underlying23 te5 rfl rfl r33 (by assumption) (by first|exact aL|exact aZ|exact bB|exact bF|exact bG|exact bH|exact bL|exact bK|exact bJ|exact bM) (by first|exact one_u8s _|exact one_u64s _|exact one_u32s _|(intro u hu;simp at hu;subst hu;rfl)) (by omega) (by omega) sel0 rfl (fun N36 a36 p36 r36=>?_)
 have s36:=r36.rsl
 refine aE (aN rfl rfl rfl (by kernel_rfl)) rfl rfl (aE (aN rfl rfl rfl (by kernel_rfl)) rfl rfl (At.oneNil (aB (s_8 (At.ret (aM ((At.sub (L':= [N36,R]) (.cons_cons _ (.cons _ (.cons_cons _ (.slnil)))) (bP (L1:= [N36]) rfl (.tmp rfl (.tmp rfl .nil)) rfl (.refl _) (.refl _) ?_)))))))))
 have e:(It.mk false bs its).form=rlpHead 128 nb++bs:=by rw [hf,if_neg (fun e=>by have:=hsm.1 e;omega),hn]
 exact .inl ⟨N36,a36,p36,by rw [e,List.length_append,hn],rfl,by rw [e,List.length_append,hn,u8s,List.map_append];exact r36,hd⟩
theorem encode_its {N:Heaplet} {its:List It} {xs:List IV} {ab ai:Option Addr} {nb cb ni ci:Nat} {bs:List UInt8} (hI:RSl N 3 ai ni ci (cellsI xs)) (hX:ItsN N its xs) (lists:Nat) (q:Int) (hq:q=lists) (hl:lists≤1024) (hlen:(It.mk true bs its).form.length≤1099511627776)
 (ih: ∀t∈its, ∀(N:Heaplet) (x:IV) (lists:Nat) (q:Int),ItN N t x→q=lists→lists≤1024→t.form.length≤1099511627776→Fn Tryz.prog 58 #[.agg #[.bool x.l,.slice x.ab x.nb x.cb,.slice x.ai x.ni x.ci],.int .i64 q] [] [N] (EncP t lists)):
 Fn Tryz.prog 58 #[.agg #[.bool true,.slice ab nb cb,.slice ai ni ci],.int .i64 q] [] [N] (EncP (.mk true bs its) lists):=by
 have hn:xs.length=ni:=by have:=hI.1;rw [length_cellsI]at this;omega
 have hn2:=hX.length
 have hcap:=hI.cap63
 have hf:=form_true bs its
 have hlf:(rlpHead 192 (It.forms its).length).length+(It.forms its).length≤1099511627776:=by rw [hf,List.length_append]at hlen;exact hlen
 have hdep:(It.mk true bs its).depth=It.depths its+1:=by simp [It.depth]
 refine Fn.enter (vs:= [.agg #[.bool true,.slice ab nb cb,.slice ai ni ci],.int .i64 q]) Tryz.func58 rfl rfl rfl ?_
 intro E R hR
 have hI:=hI.le (hR N (by simp))
 have hX:=hX.le (hR N (by simp))
 change At _ _ E [R] _
 refine At.seq fun _ s_1=>At.region (op_box (bA rfl) rfl rfl rfl (fun N2 b2 B2=>aE (aD rfl) rfl rfl (aE (aD rfl) rfl rfl (aA (aB (s_1 (At.seq fun _ s_2=>At.seq fun _ s_3=>At.region (aF (aD rfl) fl68_0 rfl rfl (aI (aD rfl) sc4 rfl B2 (by first|rfl) aL rfl ?_)))))))))
 refine op_not (aD rfl) rfl rfl (aA (aB (s_3 (At.condF rfl (At.skip (aB (s_2 (At.seq fun _ s_4=>At.seq fun _ s_5=>At.region (aC (aD rfl) rfl rfl (op_eql (aD rfl) rfl rfl rfl (aA (aB (s_5 (aK rfl (fun c38=>?_) (fun c38=>?_)))))))))))))))
 ·refine At.seq fun _ s_6=>At.region (aE (aD rfl) rfl rfl (aE (aD rfl) rfl rfl (aA (aB (s_6 (At.ret (aM ((At.sub (L':= [R]) (.cons _ (.cons_cons _ (.slnil))) (bP (L1:= []) rfl (.tmp rfl (.tmp rfl .nil)) rfl (.refl _) (.refl _) ?_))))))))))
  exact .inr ⟨rfl,rfl,by omega⟩
 refine At.skip (aB (s_4 (At.seq fun _ s_7=>At.region (aE (aD rfl) rfl rfl (aA (aB (s_7 (At.seq fun _ s_8=>At.seq fun _ s_9=>At.region (aF (aD rfl) fl68_2 rfl rfl (aI (aD rfl) sc66 rfl B2 (by first|rfl) aL rfl ?_))))))))))
 refine aU (aD rfl) se66 rfl rfl (aC (aD rfl) rfl rfl (aA (aB (s_9 (At.block (At.empty (At.perm sel2 (At.perm sel1 (At.perm sel2 (At.loop (fun fr_ hp_ ms_=> ∃(k np:Nat) (ap:Option Addr) (cp:Nat) (Np:Heaplet),fr_= [(1,.int .i64 q),(2,.pointer (some ⟨b2,0,none⟩)),(6,.slice ap np cp),(40,.slice ai ni ci),(41,.int .i64 (ni:Int)),(42,.int .i64 (k:Int))]∧hp_= [N2,Np,R]∧ni- k=ms_∧(k≤ni)∧(np=(It.forms (its.take k)).length)∧(Row Np 5 1 ap np cp (u8s (It.forms (its.take k))))∧(∀t∈its.take k,lists+1+t.depth≤1024)) ?_ (.refl _) ⟨0,0,none,0,nilH,rfl,rfl,rfl,by omega,by simp [It.forms],by simpa [It.forms,u8s]using Row.nil nilH 5 1,by simp⟩ ?_))))))))))
 ·exact .cons (by first|exact aP rfl (by omega)|rfl) (.cons (by first|exact aP rfl (by omega)|rfl) (.cons (by first|exact aP rfl (by omega)|rfl) (.cons (by first|exact aP rfl (by omega)|rfl) (.cons (by first|exact aP rfl (by omega)|rfl) (.cons (by first|exact aP rfl (by omega)|rfl) .nil)))))
 rintro _ _ _ ⟨k,np,ap,cp,Np,rfl,rfl,rfl,hk,hnp,rp,hd⟩
 have sp:=rp.rsl
 have hle:=forms_take_le its k
 refine At.seq fun _ s_10=>At.region (op_lss (aD rfl) rfl rfl rfl (aA (aB (s_10 (At.seq fun _ s_11=>aK rfl (fun c43=>?_) (fun c43=>?_))))))
 ·have hlt:k<its.length:=by omega
  obtain⟨x,hx,hi⟩:=hX.get (List.getElem?_eq_getElem hlt)
  have hts:=forms_take_succ (List.getElem?_eq_getElem hlt)
  have hfe:=form_le (List.getElem_mem hlt)
  have hle2:=forms_take_le its (k+1)
  have hsum:np+(its[k]).form.length≤(It.forms its).length:=by rw [hts,List.length_append]at hle2;omega
  refine At.skip (aB (s_11 (At.seq fun _ s_12=>At.block (At.seq fun _ s_13=>At.region (op_idxE (aD rfl) se66 rfl rfl (by assumption) (show _=(((k:Nat)):Int)from by omega) (by omega) rfl ?_)))))
  refine op_loadAggE (aD rfl) ag68 rfl (by assumption) (by exact cells_at hx) (by rfl) (by omega) (by first|exact aL|exact aZ|exact bB|exact bF|exact bG|exact bH|exact bL|exact bK|exact bJ|exact bM) rfl ?_
  refine bO (bA rfl) ze68 rfl (fun N8 b8 B8=>?_)
  change Blk N8 b8 _ [.bool false,.slice none 0 0,.slice none 0 0]at B8
  refine aO (nxl rfl) sz68 rfl rfl rfl rfl rfl B8 (by simp) sel0 (fun N8 B8=>?_)
  simp only [setL,List.set]at B8
  refine aA (aB (s_13 (At.seq fun _ s_14=>At.region (op_loadAggB (ds:= [_,_,_]) (aD rfl) ag68 rfl B8 rfl rfl aL rfl (aC (aD rfl) rfl rfl (aV (aD rfl) rfl rfl (by omega) (by omega) rfl (aJ (bA rfl) (.cons rfl (.cons rfl .nil)) (ih its[k] (List.getElem_mem hlt) R x (lists+1) (q+1) hi (by omega) (by omega) (by omega)) Tryz.func58 rfl rfl (by simp) rfl ?_)))))))
  rintro v50 L50 (⟨M50,a50,p50,rfl,rfl,r50,hd50⟩|⟨rfl,rfl,hd50⟩)
  ·change At _ _ _ [M50,N8,N2,Np,R] _
   have s50:=r50.rsl
   refine aC (aD rfl) rfl rfl (aS (aD rfl) rfl rfl rfl (aS (aD rfl) rfl rfl rfl (aE (aD rfl) rfl rfl (aE (aD rfl) rfl rfl (aA (aB (s_14 (At.seq fun _ s_15=>At.seq fun _ s_16=>At.region (aC (aD rfl) rfl rfl (op_neq (aD rfl) rfl rfl rfl (aA (aB (s_16 (At.condF rfl (At.skip (aB (s_15 (At.region (aC (aD rfl) rfl rfl (aC (aD rfl) rfl rfl ?_))))))))))))))))))))
   refine bE (nxl rfl) Tryz.underlying23 Tryz.underlying23 te5 rfl rfl rp (by assumption) (by first|exact aL|exact aZ|exact bB|exact bF|exact bG|exact bH|exact bL|exact bK|exact bJ|exact bM) (by first|exact one_u8s _|exact one_u64s _|exact one_u32s _|(intro u hu;simp at hu;subst hu;rfl)) (by omega) (by omega) sel3 rfl (fun N58 a58 p58 r58=>?_)
   have s58:=r58.rsl
   refine aE (aD rfl) rfl rfl (aA (aR (aB (s_12 (At.region (aV (aD rfl) rfl rfl (by omega) (by omega) rfl (aC (aD rfl) rfl rfl (aA (aB (At.sub (L':= [N58,N2,R]) (.cons_cons _ (.cons _ (.cons _ (.cons_cons _ (.cons_cons _ (.slnil)))))) (At.perm sel2 (At.perm sel1 (At.perm sel2 ?_)))))))))))))
   refine bD ?_ (.refl _) ⟨k+1,np+(its[k]).form.length,a58,p58,N58,rfl,rfl,rfl,by omega,by rw [hts,List.length_append,hnp],by rw [hts,u8s,List.map_append];exact r58,fun t ht=>by rw [List.take_succ_eq_append_getElem hlt,List.mem_append]at ht;rcases ht with ht|ht;exact hd t ht;rw [List.mem_singleton.1 ht];exact hd50⟩ ?_
   ·exact .cons (by first|exact aP rfl (by omega)|rfl) (.cons (by first|exact aP rfl (by omega)|rfl) (.cons (by first|exact aP rfl (by omega)|rfl) (.cons (by first|exact aP rfl (by omega)|rfl) (.cons (by first|exact aP rfl (by omega)|rfl) (.cons (by first|exact aP rfl (by omega)|rfl) .nil)))))
   ·omega
  change At _ _ _ [N8,N2,Np,R] _
  refine aC (aD rfl) rfl rfl (aS (aD rfl) rfl rfl rfl (aS (aD rfl) rfl rfl rfl (aE (aD rfl) rfl rfl (aE (aD rfl) rfl rfl (aA (aB (s_14 (At.seq fun _ s_17=>At.seq fun _ s_18=>At.region (aC (aD rfl) rfl rfl (op_neq (aD rfl) rfl rfl rfl (aA (aB (s_18 (At.condT rfl (At.seq fun _ s_19=>At.region (aC (aD rfl) rfl rfl (aE (aD rfl) rfl rfl (aE (aD rfl) rfl rfl (aA ?_)))))))))))))))))))
  refine aB (s_19 (At.ret (aM (At.inRet (aM (aM (At.inRet (aM ((At.sub (L':= [R]) (.cons _ (.cons _ (.cons _ (.cons_cons _ (.slnil))))) (bP (L1:= []) rfl (.tmp rfl (.tmp rfl .nil)) rfl (.refl _) (.refl _) (.inr ⟨rfl,rfl,fun h=>hd50 ?_⟩))))))))))))
  have:=depths_le.1 (Nat.le_refl _) _ (List.getElem_mem hlt)
  omega
 refine At.exit (aG (aG (bC (aB (s_8 (At.seq fun _ s_20=>At.region (aC (aD rfl) rfl rfl (aU (aD rfl) se23 rfl rfl (aJ (bA rfl) (.cons rfl (.cons rfl .nil)) (head_f 192 np (by omega) (by omega)) Tryz.func82 rfl rfl (by simp) rfl ?_)))))))))
 rintro v62 L62 ⟨M62,a62,p62,rfl,rfl,r62⟩
 change At _ _ _ [M62,N2,Np,R] _
 refine aC (aD rfl) rfl rfl ?_
 have h9:=rlpHead_le 192 np (by omega)
 refine bE (nxl rfl) Tryz.underlying23 Tryz.underlying23 te5 rfl rfl r62 (by assumption) (by first|exact aL|exact aZ|exact bB|exact bF|exact bG|exact bH|exact bL|exact bK|exact bJ|exact bM) (by first|exact one_u8s _|exact one_u64s _|exact one_u32s _|(intro u hu;simp at hu;subst hu;rfl)) (by omega) (by omega) sel0 rfl (fun N64 a64 p64 r64=>?_)
 have s64:=r64.rsl
 refine aE (aD rfl) rfl rfl (aE (aD rfl) rfl rfl (aA (aB (s_20 (At.ret ((At.sub (L':= [N64,R]) (.cons_cons _ (.cons _ (.cons _ (.cons_cons _ (.slnil))))) (bP (L1:= [N64]) rfl (.tmp rfl (.tmp rfl .nil)) rfl (.refl _) (.refl _) ?_))))))))
 obtain rfl:k=its.length:=by omega
 rw [List.take_length]at hnp hd r64
 subst hnp
 refine .inl ⟨N64,a64,p64,by rw [hf,List.length_append],rfl,by rw [hf,List.length_append,u8s,List.map_append];exact r64,?_⟩
 rw [hdep]
 by_cases hz:its= []
 ·subst hz;simp [It.depths];omega
 ·have:It.depths its≤1024- lists- 1:=depths_le.2 fun t ht=>by have:=hd t ht;omega
  obtain⟨t,ht⟩:=List.exists_mem_of_ne_nil _ hz
  have:=hd t ht
  omega
theorem encode_f (t:It): ∀(N:Heaplet) (x:IV) (lists:Nat) (q:Int),ItN N t x→q=lists→lists≤1024→t.form.length≤1099511627776→Fn Tryz.prog 58 #[.agg #[.bool x.l,.slice x.ab x.nb x.cb,.slice x.ai x.ni x.ci],.int .i64 q] [] [N] (EncP t lists):=by
 induction t using It.ind_it with|h l bs its ih=>?_
 intro N x lists q h hq hl hlen
 simp only [ItN]at h
 obtain⟨rfl,h1,xs,h2,h3⟩:=h
 cases hb:x.l with
 |false=>rw [hb]at hlen;exact encode_bs h1 lists q hl hlen
 |true=>rw [hb]at hlen;exact encode_its h2 h3 lists q hq hl hlen ih
theorem Encode_f {N:Heaplet} {t:It} {x:IV} (h:ItN N t x) (hlen:t.form.length≤1099511627776):Fn Tryz.prog 32 #[.agg #[.bool x.l,.slice x.ab x.nb x.cb,.slice x.ai x.ni x.ci]] [] [N] (EncP t 0):=by
 refine Fn.enter (vs:= [.agg #[.bool x.l,.slice x.ab x.nb x.cb,.slice x.ai x.ni x.ci]]) Tryz.func32 rfl rfl rfl ?_
 intro E R hR
 have h:=h.le (hR N (by simp))
 change At _ _ E [R] _
 refine At.seq fun _ s_1=>At.region (op_box (bA rfl) rfl rfl rfl (fun N1 b1 B1=>aE (aD rfl) rfl rfl (aE (aD rfl) rfl rfl (aA (aB (s_1 (At.seq fun _ s_2=>At.region (op_loadAggB (ds:= [_,_,_]) (aD rfl) ag68 rfl B1 rfl rfl aL rfl (aJ (bA rfl) (.cons rfl (.cons rfl .nil)) (encode_f t R x 0 0 h rfl (by omega) hlen) Tryz.func58 rfl rfl (by simp) rfl ?_)))))))))
 rintro v5 L5 (⟨M5,a5,p5,rfl,rfl,r5,hd5⟩|⟨rfl,rfl,hd5⟩)
 ·change At _ _ _ [M5,N1,R] _
  refine aS (aD rfl) rfl rfl rfl (aS (aD rfl) rfl rfl rfl (aE (aD rfl) rfl rfl (aE (aD rfl) rfl rfl (aA (aB (s_2 (At.ret ((At.sub (L':= [M5,R]) (.cons_cons _ (.cons _ (.cons_cons _ (.slnil)))) (bP (L1:= [M5]) rfl (.tmp rfl (.tmp rfl .nil)) rfl (.refl _) (.refl _) ?_))))))))))
  exact .inl ⟨M5,a5,p5,rfl,rfl,r5,hd5⟩
 change At _ _ _ [N1,R] _
 refine aS (aD rfl) rfl rfl rfl (aS (aD rfl) rfl rfl rfl (aE (aD rfl) rfl rfl (aE (aD rfl) rfl rfl (aA (aB (s_2 (At.ret ((At.sub (L':= [R]) (.cons _ (.cons_cons _ (.slnil))) (bP (L1:= []) rfl (.tmp rfl (.tmp rfl .nil)) rfl (.refl _) (.refl _) ?_))))))))))
 exact .inr ⟨rfl,rfl,hd5⟩
end Go.Proofs.YtdpjbefeabokgaaGreat
/- rlp.Decode; quarrylaw05.wakes holds. No condition but that bytes are not longer than a machine holds. -/
namespace Go.Proofs.YtdpjbefeabokgaaGreat
open Go Go.RowKit
/-- The item that bytes tell, or the error's number. -/
def decodeF (b:List UInt8):Except Nat It:=match decF 1024 b with
 |.error e=>.error e
 |.ok (t,q)=>if q.length=0 then .ok t else .error 2
def DecodeP (r:Except Nat It) (v:Value) (L:List Heaplet):Prop:=
 (∃t M, ∃x:IV,r=.ok t∧v=.tuple #[.agg #[.bool x.l,.slice x.ab x.nb x.cb,.slice x.ai x.ni x.ci],.int .i64 0]∧L= [M]∧ItN M t x)∨
 (∃e:Nat,r=.error e∧v=.tuple #[.agg #[.bool false,.slice none 0 0,.slice none 0 0],.int .i64 (e:Int)]∧L= []∧e≠0)
theorem Decode_f {N:Heaplet} {ao:Option Addr} {n cap:Nat} {b:List UInt8} (h:RSl N 1 ao n cap (u8s b)) (hn:n≤1099511627776):
 Fn Tryz.prog 96 #[.slice ao n cap] [] [N] (DecodeP (decodeF b)):=by
 refine Fn.enter (vs:= [.slice ao n cap]) Tryz.func96 rfl rfl rfl ?_
 intro E R hR
 have h:=h.le (hR N (by simp))
 change At _ _ E [R] _
 refine At.seq fun _ s_1=>At.region (bO (bA rfl) ze68 rfl (fun N2 b2 B2=>?_))
 change Blk N2 b2 _ [.bool false,.slice none 0 0,.slice none 0 0]at B2
 refine aE (aD rfl) rfl rfl (aA (aB (s_1 (At.seq fun _ s_2=>At.region (aC (aD rfl) rfl rfl (aJ (bA rfl) (.cons rfl (.cons rfl .nil)) (decode_f 1024 R ao n cap b 0 h hn (by omega) (by omega)) Tryz.func110 rfl rfl (by simp) rfl ?_))))))
 rintro v9 L9 (⟨t,q,M9,x,aq,cq,he,rfl,rfl,hi,hq⟩|⟨e,he,rfl,rfl,hne⟩)
 ·change At _ _ _ [M9,N2,R] _
  refine aC (aD rfl) rfl rfl (aS (aD rfl) rfl rfl rfl (aS (aD rfl) rfl rfl rfl (aS (aD rfl) rfl rfl rfl (bO (bA rfl) ze68 rfl (fun N4 b4 B4=>?_)))))
  change Blk N4 b4 _ [.bool false,.slice none 0 0,.slice none 0 0]at B4
  refine aO (nxl rfl) sz68 rfl rfl rfl rfl rfl B4 (by simp) sel0 (fun N4 B4=>?_)
  simp only [setL,List.set]at B4
  refine aE (aD rfl) rfl rfl (aE (aD rfl) rfl rfl (aA (aB (s_2 (At.seq fun _ s_3=>At.seq fun _ s_4=>At.region (aC (aD rfl) rfl rfl (op_eql (aD rfl) rfl rfl rfl (aC (aD rfl) rfl rfl (At.partP (d:=15) rfl (fun g15=>?_) (fun g15=>?_))))))))))
  rotate_left
  ·exact absurd rfl g15
  refine aC (aY rfl rfl rfl rfl) rfl rfl (aU (aY rfl rfl rfl rfl) se23 rfl rfl (op_gtr (aY rfl rfl rfl rfl) rfl rfl rfl (bS (aD rfl) rfl rfl rfl (aA (aB (s_4 (aK rfl (fun c19=>?_) (fun c19=>?_))))))))
  ·refine At.seq fun _ s_5=>At.region (op_build (out:= [.bool false,.slice none 0 0,.slice none 0 0]) (aD rfl) ze68 pl68 .nil rfl rfl (aO (nxl rfl) sz68 rfl rfl rfl rfl rfl B2 (by simp) sel2 (fun N2 B2=>?_)))
   simp only [setL,List.set]at B2
   refine aE (aD rfl) rfl rfl (aA (aB (s_5 (At.ret (aM ((At.sub (L':= [N2,R]) (.cons_cons _ (.cons _ (.cons _ (.cons_cons _ (.slnil))))) (bP (L1:= []) rfl (.cell rfl (res_agg (ds:= [_,_,_]) ag68 B2 rfl rfl aL) (.tmp rfl .nil)) rfl (.cons _ (.refl _)) (.refl _) ?_))))))))
   exact .inr ⟨2,by rw [decodeF,he];simp only;rw [if_neg (by omega)],rfl,rfl,by decide⟩
  refine At.skip (aB (s_3 (At.seq fun _ s_6=>At.region (op_loadAggB (ds:= [_,_,_]) (aD rfl) ag68 rfl B4 rfl rfl aL rfl (aC (aD rfl) rfl rfl (aO (nxl rfl) sz68 rfl rfl rfl rfl rfl B2 (by simp) sel2 (fun N2 B2=>?_)))))))
  simp only [setL,List.set]at B2
  refine aE (aD rfl) rfl rfl (aA (aB (s_6 (At.ret ((At.sub (L':= [N2,M9,R]) (.cons_cons _ (.cons _ (.cons_cons _ (.cons_cons _ (.slnil))))) (bP (L1:= [M9]) rfl (.cell rfl (res_agg (ds:= [_,_,_]) ag68 B2 rfl rfl aL) (.tmp rfl .nil)) rfl (.cons _ (.refl _)) (.refl _) ?_)))))))
  exact .inl ⟨t,M9,x,by rw [decodeF,he];simp only;rw [if_pos (by omega)],rfl,rfl,hi⟩
 change At _ _ _ [N2,R] _
 refine aC (aD rfl) rfl rfl (aS (aD rfl) rfl rfl rfl (aS (aD rfl) rfl rfl rfl (aS (aD rfl) rfl rfl rfl (bO (bA rfl) ze68 rfl (fun N4 b4 B4=>?_)))))
 change Blk N4 b4 _ [.bool false,.slice none 0 0,.slice none 0 0]at B4
 refine aO (nxl rfl) sz68 rfl rfl rfl rfl rfl B4 (by simp) sel0 (fun N4 B4=>?_)
 simp only [setL,List.set]at B4
 refine aE (aD rfl) rfl rfl (aE (aD rfl) rfl rfl (aA (aB (s_2 (At.seq fun _ s_7=>At.seq fun _ s_8=>At.region (aC (aD rfl) rfl rfl (op_eql (aD rfl) rfl rfl rfl (aC (aD rfl) rfl rfl (At.partP (d:=15) rfl (fun g15=>?_) (fun g15=>?_))))))))))
 ·exfalso;omega
 refine aH rfl rfl rfl rfl rfl rfl rfl (aH rfl rfl rfl rfl rfl rfl rfl (aH rfl rfl rfl rfl rfl rfl rfl (bR (aD rfl) rfl rfl rfl (aA (aB (s_8 (At.condF rfl (At.skip (aB (s_7 (At.seq fun _ s_9=>At.region (op_loadAggB (ds:= [_,_,_]) (aD rfl) ag68 rfl B4 rfl rfl aL rfl (aC (aD rfl) rfl rfl (aO (nxl rfl) sz68 rfl rfl rfl rfl rfl B2 (by simp) sel1 (fun N2 B2=>?_)))))))))))))))
 simp only [setL,List.set]at B2
 refine aE (aD rfl) rfl rfl (aA (aB (s_9 (At.ret ((At.sub (L':= [N2,R]) (.cons_cons _ (.cons _ (.cons_cons _ (.slnil)))) (bP (L1:= []) rfl (.cell rfl (res_agg (ds:= [_,_,_]) ag68 B2 rfl rfl aL) (.tmp rfl .nil)) rfl (.cons _ (.refl _)) (.refl _) ?_)))))))
 exact .inr ⟨e,by rw [decodeF,he],rfl,rfl,hne⟩
end Go.Proofs.YtdpjbefeabokgaaGreat
/- quarrylaw05.wakes holds. No condition. -/
namespace Go.Proofs.YtdpjbefeabokgaaGreat
open Go Go.RowKit
def wakeT:It:=.mk true [] [.mk true [] [],.mk false [97] []]
theorem Encode_ok {N:Heaplet} {t:It} {x:IV} (h:ItN N t x) (hlen:t.form.length≤1099511627776) (hd:t.depth≤1024):Fn Tryz.prog 32 #[.agg #[.bool x.l,.slice x.ab x.nb x.cb,.slice x.ai x.ni x.ci]] [] [N] (fun v L=> ∃M a cap,v=.tuple #[.slice a t.form.length cap,.int .i64 0]∧L= [M]∧Row M 5 1 a t.form.length cap (u8s t.form)):=
 (Encode_f h hlen).mono fun v L hp=>by
  rcases hp with ⟨M,a,cap,h1,h2,h3,_⟩|⟨_,_,h3⟩
  ·exact⟨M,a,cap,h1,h2,h3⟩
  ·exact absurd (by omega) h3
end Go.Proofs.YtdpjbefeabokgaaGreat
/- quarryref05's head, Depth, form, Encode: the document's forms of items. No condition but that the form is not longer than a machine holds. -/
namespace Go.Proofs.YtdpjbefeabokgaaGreat
open Go Go.RowKit
set_option maxRecDepth 100000
theorem rhead_f (b n:Nat) (hb:b≤192) (hn:n≤1099511627776):
 Fn Tryz.prog 85 #[.int .i64 (b:Int),.int .i64 (n:Int)] [] [] (fun v L=> ∃M a cap,v=.slice a (rlpHead b n).length cap∧L= [M]∧Row M 5 1 a (rlpHead b n).length cap (u8s (rlpHead b n))):=by
 have h8:=bytesOf_le (n:=n) (k:=8) (by omega)
 have hn64:(UInt64.ofNat n).toNat=n:=by rw [UInt64.toNat_ofNat'];exact Nat.mod_eq_of_lt (by omega)
 refine Fn.enter (vs:= [.int .i64 (b:Int),.int .i64 (n:Int)]) Tryz.func85 rfl rfl rfl ?_
 intro E R hR
 change At _ _ E [R] _
 refine At.seq fun _ s_1=>At.region (aE (aD rfl) rfl rfl (aA (aB (s_1 (At.seq fun _ s_2=>At.seq fun _ s_3=>At.region (aC (aD rfl) rfl rfl (op_leq (aD rfl) rfl rfl rfl (aA (aB (s_3 (aK rfl (fun c7=>?_) (fun c7=>?_))))))))))))
 ·refine At.seq fun _ s_4=>At.region (aC (aD rfl) rfl rfl (aC (aD rfl) rfl rfl (aV (aD rfl) rfl rfl (by omega) (by omega) rfl (op_conv8 (aD rfl) (und_some Tryz.underlying3) Tryz.underlying5 rfl (show _=(((b+n:Nat)):Int)from by omega) rfl ?_))))
  refine op_lit (bA rfl) Tryz.underlying23 ze5 sz5 (.cons rfl .nil) rfl rfl (by simp [Value.cells]) rfl rfl rfl (fun N12 a12 r12=>?_)
  simp only [flatV,List.flatMap_cons,List.flatMap_nil,Value.cells,List.append_nil,List.cons_append,List.nil_append]at r12
  have s12:=r12.rsl
  refine aE (aD rfl) rfl rfl (aA (aB (s_4 (At.ret (aM ((aW (L1:= [N12]) rfl (.tmp rfl .nil) (.refl _) (.refl _) ?_)))))))
  have e:rlpHead b n= [UInt8.ofNat (b+n)]:=by rw [rlpHead,if_pos (by omega)]
  rw [e]
  exact⟨N12,a12,1,rfl,rfl,r12⟩
 refine At.skip (aB (s_2 (At.seq fun _ s_5=>At.region (aC (aD rfl) rfl rfl (op_conv64 (aD rfl) (und_some Tryz.underlying3) Tryz.underlying70 rfl (show _=(((n:Nat)):Int)from by omega) rfl ?_)))))
 refine aJ (bA rfl) (.cons rfl .nil) (Of32_f (UInt64.ofNat n)) Tryz.func103 rfl rfl (by simp) rfl ?_
 rintro v15 L15 ⟨M15,a15,p15,rfl,rfl,s15⟩
 change At _ _ _ [M15,R] _
 have hl15:=s15.len32
 have hdl:(digsOf (UInt64.ofNat n).toNat).length≤2:=by rw [length_digsOf];exact digLen_le.2 (UInt64.toNat_lt _)
 refine aJ (bA rfl) (.cons rfl .nil) (Bytes32_f s15 (by omega)) Tryz.func86 rfl rfl (by simp) rfl ?_
 rintro v16 L16 ⟨M16,a16,p16,rfl,rfl,r16⟩
 change At _ _ _ [M16,M15,R] _
 rw [v32_digsOf,hn64]at r16⊢
 have s16:=r16.rsl
 refine aE (aD rfl) rfl rfl (aA (aB (s_5 (At.seq fun _ s_6=>At.region (aC (aD rfl) rfl rfl (aV (aD rfl) rfl rfl (by omega) (by omega) rfl (aC (aD rfl) rfl rfl (aU (aD rfl) se23 rfl rfl (aV (aD rfl) rfl rfl (by omega) (by omega) rfl (op_conv8 (aD rfl) (und_some Tryz.underlying3) Tryz.underlying5 rfl (show _=(((b+55+(bytesOf n).length:Nat)):Int)from by omega) rfl ?_))))))))))
 refine op_lit (bA rfl) Tryz.underlying23 ze5 sz5 (.cons rfl .nil) rfl rfl (by simp [Value.cells]) rfl rfl rfl (fun N23 a23 r23=>?_)
 simp only [flatV,List.flatMap_cons,List.flatMap_nil,Value.cells,List.append_nil,List.cons_append,List.nil_append]at r23
 have s23:=r23.rsl
 refine aC (aD rfl) rfl rfl ?_
 refine bE (nxl rfl) Tryz.underlying23 Tryz.underlying23 te5 rfl rfl r23 (by assumption) (by first|exact aL|exact aZ|exact bB|exact bF|exact bG|exact bH|exact bL|exact bK|exact bJ|exact bM) (by first|exact one_u8s _|exact one_u64s _|exact one_u32s _|(intro u hu;simp at hu;subst hu;rfl)) (by omega) (by omega) sel0 rfl (fun N25 a25 p25 r25=>?_)
 have s25:=r25.rsl
 refine aE (aD rfl) rfl rfl (aA (aB (s_6 (At.ret ((At.sub (L':= [N25,R]) (.cons_cons _ (.cons _ (.cons _ (.cons_cons _ (.slnil))))) (aW (L1:= [N25]) rfl (.tmp rfl .nil) (.refl _) (.refl _) ?_)))))))
 have e:rlpHead b n=UInt8.ofNat (b+55+(bytesOf n).length)::bytesOf n:=by rw [rlpHead,if_neg (by omega)]
 rw [e,List.length_cons,Nat.add_comm (bytesOf n).length 1]
 exact⟨N25,a25,p25,rfl,rfl,r25⟩
theorem form_f (t:It): ∀(N:Heaplet) (x:IV),ItN N t x→t.form.length≤1099511627776→Fn Tryz.prog 60 #[.agg #[.bool x.l,.slice x.ab x.nb x.cb,.slice x.ai x.ni x.ci]] [] [N] (fun v L=> ∃M a cap,v=.slice a t.form.length cap∧L= [M]∧Row M 5 1 a t.form.length cap (u8s t.form)):=by
 induction t using It.ind_it with|h l bs its ih=>?_
 intro N x h hlen
 simp only [ItN]at h
 obtain⟨rfl,h1,xs,hI,hX⟩:=h
 have hn:xs.length=x.ni:=by have:=hI.1;rw [length_cellsI]at this;omega
 have hn2:=hX.length
 have hcap:=hI.cap63
 cases hb:x.l with
 |false=>
  rw [hb]at hlen
  have hnb:=h1.len8
  have hcb:=h1.cap63
  have hf:=form_false bs its
  have hsm:= @small_iffI bs
  have hub:small bs≠true→(rlpHead 128 x.nb).length+x.nb≤1099511627776:=fun e=>by rw [hf,if_neg e,List.length_append,hnb]at hlen;exact hlen
  refine Fn.enter (vs:= [.agg #[.bool false,.slice x.ab x.nb x.cb,.slice x.ai x.ni x.ci]]) Tryz.func60 rfl rfl rfl ?_
  intro E R hR
  have h1:=h1.le (hR N (by simp))
  change At _ _ E [R] _
  refine At.seq fun _ s_1=>At.region (op_box (bA rfl) rfl rfl rfl (fun N1 b1 B1=>aE (aD rfl) rfl rfl (aA (aB (s_1 (At.seq fun _ s_2=>At.seq fun _ s_3=>At.region (aF (aD rfl) fl68_0 rfl rfl (aI (aD rfl) sc4 rfl B1 (by first|rfl) aL rfl ?_))))))))
  refine op_not (aD rfl) rfl rfl (aA (aB (s_3 (At.condT rfl (At.seq fun _ s_4=>At.seq fun _ s_5=>At.region (aF (aD rfl) fl68_1 rfl rfl (aI (aD rfl) sc23 rfl B1 (by first|rfl) aL rfl ?_)))))))
  refine aU (aD rfl) se23 rfl rfl (op_eql (aD rfl) rfl rfl rfl (aC (aD rfl) rfl rfl (At.partP (d:=12) rfl (fun g12=>?_) (fun g12=>?_))))
  ·refine aF (aY rfl rfl rfl rfl) fl68_1 rfl rfl (aI (aY rfl rfl rfl rfl) sc23 rfl B1 (by first|rfl) aL rfl ?_)
   refine bI (aY rfl rfl rfl rfl) se23 rfl rfl (by assumption) (show _=(((0:Nat)):Int)from by omega) (by omega) rfl ?_
   refine aT (aY rfl rfl rfl rfl) sc5 rfl (by assumption) (by first|exact get8 (by omega)|exact bT (by omega)|exact bU (by omega)) (by first|exact aL|exact aZ|exact bB|exact bF|exact bG|exact bH|exact bL|exact bK|exact bJ|exact bM) rfl ?_
   refine op_lss (aY rfl rfl rfl rfl) rfl rfl rfl (bS (aD rfl) rfl rfl rfl (aA (aB (s_5 (aK rfl (fun c18=>?_) (fun c18=>?_))))))
   ·refine At.seq fun _ s_6=>At.region (op_lit (bA rfl) Tryz.underlying23 ze5 sz5 .nil rfl rfl (by simp [Value.cells]) rfl rfl rfl (fun N19 a19 r19=>?_))
    simp only [flatV,List.flatMap_cons,List.flatMap_nil,Value.cells,List.append_nil,List.cons_append,List.nil_append]at r19
    have s19:=r19.rsl
    refine aF (aD rfl) fl68_1 rfl rfl (aI (aD rfl) sc23 rfl B1 (by first|rfl) aZ rfl ?_)
    refine bE (nxl rfl) Tryz.underlying23 Tryz.underlying23 te5 rfl rfl r19 (by assumption) (by first|exact aL|exact aZ|exact bB|exact bF|exact bG|exact bH|exact bL|exact bK|exact bJ|exact bM) (by first|exact one_u8s _|exact one_u64s _|exact one_u32s _|(intro u hu;simp at hu;subst hu;rfl)) (by omega) (by omega) sel0 rfl (fun N22 a22 p22 r22=>?_)
    have s22:=r22.rsl
    refine aE (aD rfl) rfl rfl (aA (aB (s_6 (At.ret (aM (aM ((At.sub (L':= [N22,R]) (.cons_cons _ (.cons _ (.cons_cons _ (.slnil)))) (aW (L1:= [N22]) rfl (.tmp rfl .nil) (.refl _) (.refl _) ?_)))))))))
    have e:(It.mk false bs its).form=bs:=by rw [hf,if_pos (hsm.2 ⟨by omega,by omega⟩)]
    rw [List.nil_append,Nat.zero_add]at r22
    exact⟨N22,a22,p22,by rw [e,hnb,Nat.zero_add],rfl,by rw [e,hnb];exact r22⟩
   refine At.skip (aB (s_4 (At.seq fun _ s_7=>At.drawn [6] [0,1,2,4,5,3,6,7] (by kernel_rfl) (by kernel_rfl) (aF (aN rfl rfl rfl (by kernel_rfl)) fl68_1 rfl rfl (aI (aN rfl rfl rfl (by kernel_rfl)) sc23 rfl B1 (by first|rfl) aL rfl ?_)))))
   refine aU (aN rfl rfl rfl (by kernel_rfl)) se23 rfl rfl (aF (aN rfl rfl rfl (by kernel_rfl)) fl68_1 rfl rfl (aI (aN rfl rfl rfl (by kernel_rfl)) sc23 rfl B1 (by first|rfl) aL rfl ?_))
   have hub':=hub (fun e=>by have:=hsm.1 e;omega)
   refine aJ (nxoa rfl rfl rfl) (.cons rfl (.cons rfl .nil)) (rhead_f 128 x.nb (by omega) (by omega)) Tryz.func85 rfl rfl (by simp) rfl ?_
   rintro v26 L26 ⟨M26,a26,p26,rfl,rfl,r26⟩
   change At _ _ _ [M26,N1,R] _
   refine bE (nxos rfl rfl rfl rfl) Tryz.underlying23 Tryz.underlying23 te5 rfl rfl r26 (by assumption) (by first|exact aL|exact aZ|exact bB|exact bF|exact bG|exact bH|exact bL|exact bK|exact bJ|exact bM) (by first|exact one_u8s _|exact one_u64s _|exact one_u32s _|(intro u hu;simp at hu;subst hu;rfl)) (by omega) (by omega) sel0 rfl (fun N29 a29 p29 r29=>?_)
   have s29:=r29.rsl
   refine aE (aN rfl rfl rfl (by kernel_rfl)) rfl rfl (At.oneNil (aB (s_7 (At.ret (aM ((At.sub (L':= [N29,R]) (.cons_cons _ (.cons _ (.cons_cons _ (.slnil)))) (aW (L1:= [N29]) rfl (.tmp rfl .nil) (.refl _) (.refl _) ?_))))))))
   have e:(It.mk false bs its).form=rlpHead 128 x.nb++bs:=by rw [hf,if_neg (fun e=>by have:=hsm.1 e;omega),hnb]
   exact⟨N29,a29,p29,by rw [e,List.length_append,hnb],rfl,by rw [e,List.length_append,hnb,u8s,List.map_append];exact r29⟩
  refine aH rfl rfl rfl rfl rfl rfl rfl (aH rfl rfl rfl rfl rfl rfl rfl (aH rfl rfl rfl rfl rfl rfl rfl (aH rfl rfl rfl rfl rfl rfl rfl (aH rfl rfl rfl rfl rfl rfl rfl (bR (aD rfl) rfl rfl rfl (aA (aB (s_5 (At.condF rfl (At.skip (aB (s_4 (At.seq fun _ s_8=>At.drawn [6] [0,1,2,4,5,3,6,7] (by kernel_rfl) (by kernel_rfl) (aF (aN rfl rfl rfl (by kernel_rfl)) fl68_1 rfl rfl (aI (aN rfl rfl rfl (by kernel_rfl)) sc23 rfl B1 (by first|rfl) aL rfl ?_)))))))))))))))
  refine aU (aN rfl rfl rfl (by kernel_rfl)) se23 rfl rfl (aF (aN rfl rfl rfl (by kernel_rfl)) fl68_1 rfl rfl (aI (aN rfl rfl rfl (by kernel_rfl)) sc23 rfl B1 (by first|rfl) aL rfl ?_))
  have hub':=hub (fun e=>by have:=hsm.1 e;omega)
  refine aJ (nxoa rfl rfl rfl) (.cons rfl (.cons rfl .nil)) (rhead_f 128 x.nb (by omega) (by omega)) Tryz.func85 rfl rfl (by simp) rfl ?_
  rintro v26 L26 ⟨M26,a26,p26,rfl,rfl,r26⟩
  change At _ _ _ [M26,N1,R] _
  refine bE (nxos rfl rfl rfl rfl) Tryz.underlying23 Tryz.underlying23 te5 rfl rfl r26 (by assumption) (by first|exact aL|exact aZ|exact bB|exact bF|exact bG|exact bH|exact bL|exact bK|exact bJ|exact bM) (by first|exact one_u8s _|exact one_u64s _|exact one_u32s _|(intro u hu;simp at hu;subst hu;rfl)) (by omega) (by omega) sel0 rfl (fun N29 a29 p29 r29=>?_)
  have s29:=r29.rsl
  refine aE (aN rfl rfl rfl (by kernel_rfl)) rfl rfl (At.oneNil (aB (s_8 (At.ret (aM ((At.sub (L':= [N29,R]) (.cons_cons _ (.cons _ (.cons_cons _ (.slnil)))) (aW (L1:= [N29]) rfl (.tmp rfl .nil) (.refl _) (.refl _) ?_))))))))
  have e:(It.mk false bs its).form=rlpHead 128 x.nb++bs:=by rw [hf,if_neg (fun e=>by have:=hsm.1 e;omega),hnb]
  exact⟨N29,a29,p29,by rw [e,List.length_append,hnb],rfl,by rw [e,List.length_append,hnb,u8s,List.map_append];exact r29⟩
 |true=>
  rw [hb]at hlen
  have hf:=form_true bs its
  have hlf:(rlpHead 192 (It.forms its).length).length+(It.forms its).length≤1099511627776:=by rw [hf,List.length_append]at hlen;exact hlen
  refine Fn.enter (vs:= [.agg #[.bool true,.slice x.ab x.nb x.cb,.slice x.ai x.ni x.ci]]) Tryz.func60 rfl rfl rfl ?_
  intro E R hR
  have hI:=hI.le (hR N (by simp))
  have hX:=hX.le (hR N (by simp))
  change At _ _ E [R] _
  refine At.seq fun _ s_1=>At.region (op_box (bA rfl) rfl rfl rfl (fun N1 b1 B1=>aE (aD rfl) rfl rfl (aA (aB (s_1 (At.seq fun _ s_2=>At.seq fun _ s_3=>At.region (aF (aD rfl) fl68_0 rfl rfl (aI (aD rfl) sc4 rfl B1 (by first|rfl) aL rfl ?_))))))))
  refine op_not (aD rfl) rfl rfl (aA (aB (s_3 (At.condF rfl (At.skip (aB (s_2 (At.seq fun _ s_4=>At.region (aE (aD rfl) rfl rfl (aA (aB (s_4 (At.seq fun _ s_5=>At.seq fun _ s_6=>At.region (aE (aD rfl) rfl rfl (aA (aB (s_6 (At.block (At.empty (At.perm sel2 (At.perm sel1 ?_)))))))))))))))))))))
  refine At.perm sel2 (At.loop (fun fr_ hp_ ms_=> ∃(k np:Nat) (ap:Option Addr) (cp:Nat) (Np:Heaplet),fr_= [(1,.pointer (some ⟨b1,0,none⟩)),(3,.slice ap np cp),(4,.int .i64 (k:Int))]∧hp_= [N1,Np,R]∧x.ni- k=ms_∧(k≤x.ni)∧(np=(It.forms (its.take k)).length)∧(Row Np 5 1 ap np cp (u8s (It.forms (its.take k))))) ?_ (.refl _) ⟨0,0,none,0,nilH,rfl,rfl,rfl,by omega,by simp [It.forms],by simpa [It.forms,u8s]using Row.nil nilH 5 1⟩ ?_)
  ·exact .cons (by first|exact aP rfl (by omega)|rfl) (.cons (by first|exact aP rfl (by omega)|rfl) (.cons (by first|exact aP rfl (by omega)|rfl) .nil))
  rintro _ _ _ ⟨k,np,ap,cp,Np,rfl,rfl,rfl,hk,hnp,rp⟩
  have sp:=rp.rsl
  have hle:=forms_take_le its k
  refine At.seq fun _ s_7=>At.seq fun _ s_8=>At.region (aC (aD rfl) rfl rfl (aF (aD rfl) fl68_2 rfl rfl (aI (aD rfl) sc66 rfl B1 (by first|rfl) aL rfl ?_)))
  refine aU (aD rfl) se66 rfl rfl (op_lss (aD rfl) rfl rfl rfl (aA (aB (s_8 (aK rfl (fun c34=>?_) (fun c34=>?_))))))
  ·have hlt:k<its.length:=by omega
   obtain⟨y,hy,hi⟩:=hX.get (List.getElem?_eq_getElem hlt)
   have hts:=forms_take_succ (List.getElem?_eq_getElem hlt)
   have hfe:=form_le (List.getElem_mem hlt)
   have hle2:=forms_take_le its (k+1)
   have hsum:np+(its[k]).form.length≤(It.forms its).length:=by rw [hts,List.length_append]at hle2;omega
   refine At.skip (aB (s_7 (At.seq fun _ s_9=>At.block (At.region (aC (aD rfl) rfl rfl (aF (aD rfl) fl68_2 rfl rfl (aI (aD rfl) sc66 rfl B1 (by first|rfl) aL rfl ?_)))))))
   refine aC (aD rfl) rfl rfl (op_idxE (aD rfl) se66 rfl rfl (by assumption) (show _=(((k:Nat)):Int)from by omega) (by omega) rfl ?_)
   refine op_loadAggE (aD rfl) ag68 rfl (by assumption) (by exact cells_at hy) (by rfl) (by omega) (by first|exact aL|exact aZ|exact bB|exact bF|exact bG|exact bH|exact bL|exact bK|exact bJ|exact bM) rfl ?_
   refine aJ (bA rfl) (.cons rfl .nil) (ih its[k] (List.getElem_mem hlt) R y hi (by omega)) Tryz.func60 rfl rfl (by simp) rfl ?_
   rintro v43 L43 ⟨M43,a43,p43,rfl,rfl,r43⟩
   change At _ _ _ [M43,N1,Np,R] _
   have s43:=r43.rsl
   refine bE (nxl rfl) Tryz.underlying23 Tryz.underlying23 te5 rfl rfl rp (by assumption) (by first|exact aL|exact aZ|exact bB|exact bF|exact bG|exact bH|exact bL|exact bK|exact bJ|exact bM) (by first|exact one_u8s _|exact one_u64s _|exact one_u32s _|(intro u hu;simp at hu;subst hu;rfl)) (by omega) (by omega) sel2 rfl (fun N44 a44 p44 r44=>?_)
   have s44:=r44.rsl
   refine aE (aD rfl) rfl rfl (aA (aR (aB (s_9 (At.region (aC (aD rfl) rfl rfl (aV (aD rfl) rfl rfl (by omega) (by omega) rfl (aE (aD rfl) rfl rfl (aA (aB (At.sub (L':= [N44,N1,R]) (.cons_cons _ (.cons _ (.cons_cons _ (.cons_cons _ (.slnil))))) (At.perm sel2 (At.perm sel1 (At.perm sel2 ?_))))))))))))))
   refine bD ?_ (.refl _) ⟨k+1,np+(its[k]).form.length,a44,p44,N44,rfl,rfl,rfl,by omega,by rw [hts,List.length_append,hnp],by rw [hts,u8s,List.map_append];exact r44⟩ ?_
   ·exact .cons (by first|exact aP rfl (by omega)|rfl) (.cons (by first|exact aP rfl (by omega)|rfl) (.cons (by first|exact aP rfl (by omega)|rfl) .nil))
   ·omega
  refine At.exit (aG (aG (bC (aB (s_5 (At.seq fun _ s_10=>At.region (aC (aD rfl) rfl rfl (aU (aD rfl) se23 rfl rfl (aJ (bA rfl) (.cons rfl (.cons rfl .nil)) (rhead_f 192 np (by omega) (by omega)) Tryz.func85 rfl rfl (by simp) rfl ?_)))))))))
  rintro v47 L47 ⟨M47,a47,p47,rfl,rfl,r47⟩
  change At _ _ _ [M47,N1,Np,R] _
  refine aC (aD rfl) rfl rfl ?_
  have h9:=rlpHead_le 192 np (by omega)
  refine bE (nxl rfl) Tryz.underlying23 Tryz.underlying23 te5 rfl rfl r47 (by assumption) (by first|exact aL|exact aZ|exact bB|exact bF|exact bG|exact bH|exact bL|exact bK|exact bJ|exact bM) (by first|exact one_u8s _|exact one_u64s _|exact one_u32s _|(intro u hu;simp at hu;subst hu;rfl)) (by omega) (by omega) sel0 rfl (fun N49 a49 p49 r49=>?_)
  have s49:=r49.rsl
  refine aE (aD rfl) rfl rfl (aA (aB (s_10 (At.ret ((At.sub (L':= [N49,R]) (.cons_cons _ (.cons _ (.cons _ (.cons_cons _ (.slnil))))) (aW (L1:= [N49]) rfl (.tmp rfl .nil) (.refl _) (.refl _) ?_)))))))
  obtain rfl:k=its.length:=by omega
  rw [List.take_length]at hnp r49
  subst hnp
  exact⟨N49,a49,p49,by rw [hf,List.length_append],rfl,by rw [hf,List.length_append,u8s,List.map_append];exact r49⟩
end Go.Proofs.YtdpjbefeabokgaaGreat
/- quarrykeep.Twin, and quarrylaw05's nested, Twin, cut. No condition. -/
namespace Go.Proofs.YtdpjbefeabokgaaGreat
open Go Go.RowKit
theorem KTwin_f {N:Heaplet} {ao:Option Addr} {n cap:Nat} {l:List UInt8} (h:RSl N 1 ao n cap (u8s l)) (m:Nat) (q:Int) (hq:q=(m:Int)) (hm:m≤140737488351232):
 Fn Tryz.prog 20 #[.slice ao n cap,.int .i64 q] [] [N] (fun v L=> ∃M a c,v=.slice a (l.take m).length c∧L= [M]∧Row M 5 1 a (l.take m).length c (u8s (l.take m))):=by
 have hlen:=h.len8
 have hcap:=h.cap63
 refine Fn.enter (vs:= [.slice ao n cap,.int .i64 q]) Tryz.func20 rfl rfl rfl ?_
 intro E R hR
 have h:=h.le (hR N (by simp))
 change At _ _ E [R] _
 refine At.seq fun _ s_1=>At.region (aE (aD rfl) rfl rfl (aA (aB (s_1 (At.seq fun _ s_2=>At.seq fun _ s_3=>At.region (aC (aD rfl) rfl rfl (aU (aD rfl) se23 rfl rfl (aC (aD rfl) rfl rfl (op_gtr (aD rfl) rfl rfl rfl (aA (aB (s_3 (aK rfl (fun c8=>?_) (fun c8=>?_))))))))))))))
 ·refine At.region (aC (aD rfl) rfl rfl (aC (aD rfl) rfl rfl (op_slice0 (aD rfl) se23 rfl (.some rfl (show _=(((m:Nat)):Int)from by omega)) .none (by omega) (by omega) (by simp) rfl ?_)))
  have s11:=h.take8 (hi:=m) (m:=cap) (by omega) (by omega) (by omega)
  refine aE (aD rfl) rfl rfl (aA (aB (s_2 (At.seq fun _ s_4=>At.region (op_lit (bA rfl) Tryz.underlying23 ze5 sz5 .nil rfl rfl (by simp [Value.cells]) rfl rfl rfl (fun N12 a12 r12=>?_))))))
  simp only [flatV,List.flatMap_cons,List.flatMap_nil,Value.cells,List.append_nil,List.cons_append,List.nil_append]at r12
  have s12:=r12.rsl
  refine aC (aD rfl) rfl rfl ?_
  refine bE (nxl rfl) Tryz.underlying23 Tryz.underlying23 te5 rfl rfl r12 (by assumption) (by first|exact aL|exact aZ|exact bB|exact bF|exact bG|exact bH|exact bL|exact bK|exact bJ|exact bM) (by first|exact one_u8s _|exact one_u64s _|exact one_u32s _|(intro u hu;simp at hu;subst hu;rfl)) (by omega) (by omega) sel0 rfl (fun N14 a14 p14 r14=>?_)
  have s14:=r14.rsl
  refine aE (aD rfl) rfl rfl (aA (aB (s_4 (At.ret ((aW (L1:= [N14]) rfl (.tmp rfl .nil) (.refl _) (.refl _) ?_))))))
  rw [List.nil_append,Nat.zero_add]at r14
  exact⟨N14,a14,p14,by rw [List.length_take,hlen,Nat.min_eq_left (by omega),Nat.zero_add],rfl,by rw [List.length_take,hlen,Nat.min_eq_left (by omega)];exact r14⟩
 refine At.skip (aB (s_2 (At.seq fun _ s_5=>At.region (op_lit (bA rfl) Tryz.underlying23 ze5 sz5 .nil rfl rfl (by simp [Value.cells]) rfl rfl rfl (fun N12 a12 r12=>?_)))))
 simp only [flatV,List.flatMap_cons,List.flatMap_nil,Value.cells,List.append_nil,List.cons_append,List.nil_append]at r12
 have s12:=r12.rsl
 refine aC (aD rfl) rfl rfl ?_
 refine bE (nxl rfl) Tryz.underlying23 Tryz.underlying23 te5 rfl rfl r12 (by assumption) (by first|exact aL|exact aZ|exact bB|exact bF|exact bG|exact bH|exact bL|exact bK|exact bJ|exact bM) (by first|exact one_u8s _|exact one_u64s _|exact one_u32s _|(intro u hu;simp at hu;subst hu;rfl)) (by omega) (by omega) sel0 rfl (fun N14 a14 p14 r14=>?_)
 have s14:=r14.rsl
 refine aE (aD rfl) rfl rfl (aA (aB (s_5 (At.ret ((aW (L1:= [N14]) rfl (.tmp rfl .nil) (.refl _) (.refl _) ?_))))))
 rw [List.nil_append,Nat.zero_add]at r14
 have e:l.take m=l:=List.take_of_length_le (by omega)
 exact⟨N14,a14,p14,by rw [e,hlen,Nat.zero_add],rfl,by rw [e,hlen];exact r14⟩
/-- So many lists around an item. -/
def nestN:Nat→It→It
 |0,t=>t
 |k+1,t=>.mk true [] [nestN k t]
end Go.Proofs.YtdpjbefeabokgaaGreat
/- quarrylaw05.RlpEnvelope answers true. No condition. -/
namespace Go.Proofs.YtdpjbefeabokgaaGreat
open Go Go.RowKit
/-- Kind and body. -/
def envF (b:List UInt8):Option (Nat×List UInt8):=
 if b.length=0∨(128≤(b.getD 0 0).toNat∧(b.getD 0 0).toNat<192)then none
 else if 192≤(b.getD 0 0).toNat then some (0,b)
 else some ((b.getD 0 0).toNat,b.drop 1)
/-- What is told of it. -/
def EnvP (N:Heaplet) (r:Option (Nat×List UInt8)) (v:Value):Prop:=
 (r=none∧v=.tuple #[.int .i64 0,.slice none 0 0,.int .i64 2])∨
 (∃k p a c,r=some (k,p)∧v=.tuple #[.int .i64 (k:Int),.slice a p.length c,.int .i64 0]∧RSl N 1 a p.length c (u8s p))
theorem EnvP.mk {N:Heaplet} {r:Option (Nat×List UInt8)} {k n c:Nat} {q:Int} {a:Option Addr} {p:List UInt8} (hr:r=some (k,p)) (hq:q=(k:Int)) (h:RSl N 1 a n c (u8s p)):EnvP N r (.tuple #[.int .i64 q,.slice a n c,.int .i64 0]):=by
 have e:=h.len8
 subst e;subst hq
 exact .inr ⟨k,p,a,c,hr,rfl,h⟩
end Go.Proofs.YtdpjbefeabokgaaGreat
/- quarrylaw05.Same, the reference's Decode; quarrylaw05.RlpDecode answers true. No condition but that bytes are not longer than a machine holds. -/
namespace Go.Proofs.YtdpjbefeabokgaaGreat
open Go Go.RowKit
mutual
/-- The same item? -/
def It.same:It→It→Bool
 |.mk l bs its,.mk l' bs' its'=>decide (l=l')&&(decide (bs=bs')&&It.sames its its')
def It.sames:List It→List It→Bool
 | [],[]=>true
 |t::ts,u::us=>It.same t u&&It.sames ts us
 |_,_=>false
end
mutual
theorem It.same_self: ∀t:It,It.same t t=true
 |.mk l bs its=>by simp [It.same,It.sames_self its]
theorem It.sames_self: ∀ts:List It,It.sames ts ts=true
 | []=>by simp [It.sames]
 |t::ts=>by simp [It.sames,It.same_self t,It.sames_self ts]
end
end Go.Proofs.YtdpjbefeabokgaaGreat
/- Numbers: rlp.Number, rlp.Of and the reference's. No condition. -/
namespace Go.Proofs.YtdpjbefeabokgaaGreat
open Go Go.RowKit
/-- The error's number. -/
def numE (b:List UInt8):Nat:=if 0<b.length∧(b.getD 0 0).toNat=0 then 2 else if 32<b.length then 3 else 0
/-- The number. -/
def numV (b:List UInt8):Nat:=if numE b=0 then be b else 0
def NumP (b:List UInt8) (v:Value) (L:List Heaplet):Prop:=
 ∃wa wb wc wd:UInt64,v=.tuple #[.agg #[.int .u64 (wa.toNat:Int),.int .u64 (wb.toNat:Int),.int .u64 (wc.toNat:Int),.int .u64 (wd.toNat:Int)],.int .i64 (numE b:Int)]∧L= []∧v64 [wa,wb,wc,wd]=numV b
theorem NumP.good {b:List UInt8} {wa wb wc wd:UInt64} (h:numE b=0) (hv:v64 [wa,wb,wc,wd]=be b):NumP b (.tuple #[.agg #[.int .u64 (wa.toNat:Int),.int .u64 (wb.toNat:Int),.int .u64 (wc.toNat:Int),.int .u64 (wd.toNat:Int)],.int .i64 0]) []:=
 ⟨wa,wb,wc,wd,by rw [h];rfl,rfl,by rw [numV,if_pos h,hv]⟩
def OfP (a b c d:UInt64) (v:Value) (L:List Heaplet):Prop:=
 ∃M p k,v=.agg #[.bool false,.slice p (bytesOf (v64 [a,b,c,d])).length k,.slice none 0 0]∧L= [M]∧Row M 5 1 p (bytesOf (v64 [a,b,c,d])).length k (u8s (bytesOf (v64 [a,b,c,d])))
end Go.Proofs.YtdpjbefeabokgaaGreat
/- Layer 14: check, must, the closure that recovers, ReadTx of no bytes. No condition. -/
namespace Go.Proofs.YtdpjbefeabokgaaGreat
open Go Go.RowKit
set_option maxRecDepth 100000
section
variable {bt be : Nat} {Nt Ne : Heaplet} {cs : List Value} {x : Value} {e : Int}
end
end Go.Proofs.YtdpjbefeabokgaaGreat
/- Plain laws: sums, differences and products of limbs, as package math/bits reckons them. No condition. -/
namespace Go.Proofs.YtdpjbefeabokgaaGreat
open Go Go.RowKit
/-- The sum and what is carried. -/
def addS (x y c:UInt64):UInt64:=UInt64.ofNat ((x.toNat+y.toNat+c.toNat) % 2^64)
def addC (x y c:UInt64):UInt64:=UInt64.ofNat ((x.toNat+y.toNat+c.toNat)/2^64)
/-- The difference and what is borrowed. -/
def subS (x y c:UInt64):UInt64:=UInt64.ofNat ((x.toNat+2^64- y.toNat- c.toNat) % 2^64)
def subC (x y c:UInt64):UInt64:=if x.toNat<y.toNat+c.toNat then 1 else 0
/-- The product's upper half. -/
def mulH (x y:UInt64):UInt64:=UInt64.ofNat (x.toNat*y.toNat/2^64)
end Go.Proofs.YtdpjbefeabokgaaGreat
/- Plain laws: sums, differences and products of numbers in limbs, limb by limb. No condition. -/
namespace Go.Proofs.YtdpjbefeabokgaaGreat
/-! Shifts: two limbs that lie side by side give one. -/
theorem shl64_nat (x:UInt64) (s:Nat):(shl64 x s).toNat=x.toNat*2^s % 2^64:=by rw [shl64,UInt64.toNat_ofNat']
theorem shr64_nat (x:UInt64) (s:Nat):(shr64 x s).toNat=x.toNat/2^s:=by
 rw [shr64,UInt64.toNat_ofNat',Nat.mod_eq_of_lt (Nat.lt_of_le_of_lt (Nat.div_le_self _ _) x.toNat_lt)]
end Go.Proofs.YtdpjbefeabokgaaGreat
/- Keccak-256 in plain words: lanes, rounds, blocks. No condition. -/
namespace Go.Proofs.YtdpjbefeabokgaaGreat
open Go Go.RowKit
/-- Turned to the left. -/
def rolN (v:UInt64) (n:Nat):UInt64:=if n=0 then v else shl64 v n |||shr64 v (64- n)
theorem rol_go {v:UInt64} {n:Nat} (h:n<64):shl64 v n |||shr64 v (64- n)=rolN v n:=by
 unfold rolN
 split
 ·rename_i h0
  subst h0
  apply UInt64.toNat_inj.1
  rw [UInt64.toNat_or,shl64_nat,shr64_nat,Nat.pow_zero,Nat.mul_one,Nat.mod_eq_of_lt v.toNat_lt,Nat.div_eq_of_lt v.toNat_lt,Nat.or_zero]
 ·rfl
/-! The constants of the rounds. -/
def rI:Nat→Int
 |0=>1
 |n+1=>bits .xor .u8 (IntKind.u8.wrap (rI n*2^(min (1:Int).toNat IntKind.u8.bits))) (IntKind.u8.wrap (rI n/2^(min (7:Int).toNat IntKind.u8.bits)*113))
def cStep (l:List UInt64) (n:Nat):List UInt64:=l.set (n/7) (l.getD (n/7) 0 |||shl64 (UInt64.ofNat (bits .and .u8 (rI n) 1).toNat) (shl64 1 (n % 7)- 1).toNat)
def cN:Nat→List UInt64
 |0=>List.replicate 24 0
 |n+1=>cStep (cN n) n
theorem cN_len: ∀n,(cN n).length=24
 |0=>rfl
 |n+1=>by rw [cN,cStep,List.length_set,cN_len n]
def rcL:List UInt64:=cN 168
def rJ:Nat→Int
 |0=>1
 |n+1=>if rJ n*2≥256 then bits .xor .i64 (rJ n*2- 256) 113 else rJ n*2
def wJ (r:Nat):Nat→UInt64
 |0=>0
 |n+1=>if 7*r≤n∧bits .and .i64 (rJ n) 1=1 then wJ r n |||shl64 1 (shl64 1 (n- 7*r)- 1).toNat else wJ r n
set_option maxRecDepth 100000 in
theorem rI_ok: ∀n:Fin 169,0≤rI n.1∧rI n.1≤255∧0≤bits .and .u8 (rI n.1) 1:=by decide+kernel
set_option maxRecDepth 100000 in
theorem rJ_ok: ∀n:Fin 169,0≤rJ n.1∧rJ n.1≤255:=by decide+kernel
set_option maxRecDepth 100000 in
theorem wJ_ok: ∀r:Fin 24,wJ r.1 (7*r.1+7)=rcL.getD r.1 0:=by decide+kernel
/-! Theta. -/
def thC (a:List UInt64):Nat→List UInt64
 |0=> [0,0,0,0,0]
 |i+1=>(thC a i).set (i % 5) ((thC a i).getD (i % 5) 0^^^a.getD i 0)
theorem thC_len (a:List UInt64): ∀i,(thC a i).length=5
 |0=>rfl
 |i+1=>by rw [thC,List.length_set,thC_len a i]
def thA (c a:List UInt64):Nat→List UInt64
 |0=>a
 |i+1=>(thA c a i).set i ((thA c a i).getD i 0^^^(c.getD ((i % 5+4) % 5) 0^^^rolN (c.getD ((i % 5+1) % 5) 0) 1))
theorem thA_len (c a:List UInt64): ∀i,(thA c a i).length=a.length
 |0=>rfl
 |i+1=>by rw [thA,List.length_set,thA_len c a i]
def theta (a:List UInt64):List UInt64:=thA (thC a 25) a 25
theorem theta_len (a:List UInt64):(theta a).length=a.length:=thA_len ..
/-! Rho and pi. -/
def pX:Nat→Nat×Nat
 |0=>(1,0)
 |t+1=>((pX t).2,(2*(pX t).1+3*(pX t).2) % 5)
theorem pX_lt: ∀t,(pX t).1<5∧(pX t).2<5
 |0=>⟨by decide,by decide⟩
 |t+1=>⟨(pX_lt t).2,Nat.mod_lt _ (by decide)⟩
def pos (t:Nat):Nat:=(pX t).1+5*(pX t).2
theorem pos_lt (t:Nat):pos t<25:=by
 have:=pX_lt t
 unfold pos;omega
def rot (t:Nat):Nat:=(t+1)*(t+2)/2 % 64
def tuP (a:List UInt64):Nat→List UInt64×UInt64
 |0=>(a,a.getD 1 0)
 |t+1=>((tuP a t).1.set (pos (t+1)) (rolN (tuP a t).2 (rot t)),(tuP a t).1.getD (pos (t+1)) 0)
theorem tuP_len (a:List UInt64): ∀t,(tuP a t).1.length=a.length
 |0=>rfl
 |t+1=>by rw [tuP];simp only [List.length_set];exact tuP_len a t
def tuR (a:List UInt64):Nat→List UInt64
 |0=>(List.replicate 25 0).set 0 (a.getD 0 0)
 |t+1=>(tuR a t).set (pos (t+1)) (rolN (a.getD (pos t) 0) (rot t))
theorem tuR_len (a:List UInt64): ∀t,(tuR a t).length=25
 |0=>by rw [tuR,List.length_set,List.length_replicate]
 |t+1=>by rw [tuR,List.length_set,tuR_len a t]
theorem pos_apart: ∀s:Fin 25, ∀t:Fin 25,pos s.1=pos t.1→(s.1 % 24=t.1 % 24):=by decide+kernel
theorem pos_full: ∀j:Fin 25,j.1=0∨ ∃s:Fin 24,pos (s.1+1)=j.1:=by decide+kernel
theorem pos_pos: ∀s:Fin 25,0<pos s.1:=by decide+kernel
theorem kgetD_ne {l:List UInt64} {i j:Nat} {x:UInt64} (h:i≠j):(l.set i x).getD j 0=l.getD j 0:=by
 rw [List.getD_eq_getElem?_getD,List.getD_eq_getElem?_getD,List.getElem?_set_ne h]
theorem kgetD_eq {l:List UInt64} {i:Nat} {x:UInt64} (h:i<l.length):(l.set i x).getD i 0=x:=by
 rw [List.getD_eq_getElem?_getD,List.getElem?_set_self h];rfl
/-- What stands where t steps have gone. -/
theorem tuP_at {a:List UInt64} (ha:a.length=25): ∀t,t≤24→(∀s,s<t→(tuP a t).1.getD (pos (s+1)) 0=rolN (a.getD (pos s) 0) (rot s))∧(∀j,(∀s,s<t→pos (s+1)≠j)→(tuP a t).1.getD j 0=a.getD j 0)∧(tuP a t).2=a.getD (pos t) 0
 |0,_=>⟨fun s h=>absurd h (Nat.not_lt_zero _),fun j _=>rfl,rfl⟩
 |t+1,ht=>by
  obtain⟨h1,h2,h3⟩:=tuP_at ha t (by omega)
  have hl:(tuP a t).1.length=25:=(tuP_len a t).trans ha
  refine⟨fun s hs=>?_,fun j hj=>?_,?_⟩
  ·rw [tuP]
   by_cases e:s=t
   ·subst e
    show((tuP a s).1.set (pos (s+1)) _).getD (pos (s+1)) 0=_
    rw [kgetD_eq (by rw [hl];exact pos_lt _),h3]
   ·have hne:pos (t+1)≠pos (s+1):=fun e2=>by
     have:=pos_apart ⟨t+1,by omega⟩ ⟨s+1,by omega⟩ e2
     simp only at this
     omega
    show((tuP a t).1.set (pos (t+1)) _).getD (pos (s+1)) 0=_
    rw [kgetD_ne hne,h1 s (by omega)]
  ·rw [tuP]
   show((tuP a t).1.set (pos (t+1)) _).getD j 0=_
   rw [kgetD_ne (hj t (by omega)),h2 j fun s hs=>hj s (by omega)]
  ·rw [tuP]
   show(tuP a t).1.getD (pos (t+1)) 0=_
   refine h2 _ fun s hs e2=>?_
   have:=pos_apart ⟨s+1,by omega⟩ ⟨t+1,by omega⟩ e2
   simp only at this
   omega
theorem tuR_at (a:List UInt64): ∀t,t≤24→(∀s,s<t→(tuR a t).getD (pos (s+1)) 0=rolN (a.getD (pos s) 0) (rot s))∧(tuR a t).getD 0 0=a.getD 0 0
 |0,_=>⟨fun s h=>absurd h (Nat.not_lt_zero _),by rw [tuR,kgetD_eq (by rw [List.length_replicate];decide)]⟩
 |t+1,ht=>by
  obtain⟨h1,h2⟩:=tuR_at a t (by omega)
  refine⟨fun s hs=>?_,?_⟩
  ·rw [tuR]
   by_cases e:s=t
   ·subst e
    rw [kgetD_eq (by rw [tuR_len];exact pos_lt _)]
   ·have hne:pos (t+1)≠pos (s+1):=fun e2=>by
     have:=pos_apart ⟨t+1,by omega⟩ ⟨s+1,by omega⟩ e2
     simp only at this
     omega
    rw [kgetD_ne hne,h1 s (by omega)]
  ·rw [tuR,kgetD_ne (by have:=pos_pos ⟨t+1,by omega⟩;simp only at this;omega),h2]
theorem ext_getD {a b:List UInt64} (hl:a.length=b.length) (h: ∀j,j<a.length→a.getD j 0=b.getD j 0):a=b:=by
 apply List.ext_getElem hl
 intro i h1 h2
 have:=h i h1
 rwa [List.getD_eq_getElem?_getD,List.getD_eq_getElem?_getD,List.getElem?_eq_getElem h1,List.getElem?_eq_getElem h2]at this
theorem tu_eq {a:List UInt64} (ha:a.length=25):(tuP a 24).1=tuR a 24:=by
 have hl:(tuP a 24).1.length=25:=(tuP_len a 24).trans ha
 refine ext_getD (by rw [hl,tuR_len]) fun j hj=>?_
 obtain⟨h1,h2,_⟩:=tuP_at ha 24 (Nat.le_refl _)
 obtain⟨k1,k2⟩:=tuR_at a 24 (Nat.le_refl _)
 rcases pos_full ⟨j,by omega⟩with e|⟨s,e⟩
 ·have e0:j=0:=e
  subst e0
  rw [k2,h2 0 fun s hs=>by have:=pos_pos ⟨s+1,by omega⟩;simp only at this;omega]
 ·have e1:pos (s.1+1)=j:=e
  rw [←e1,h1 s.1 s.2,k1 s.1 s.2]
/-! Chi. -/
def chL (b:List UInt64) (y x:Nat):UInt64:=b.getD (y+x) 0^^^(~~~(b.getD (y+(x+1) % 5) 0)&&&b.getD (y+(x+2) % 5) 0)
def chI (row p:List UInt64) (y:Nat):Nat→List UInt64
 |0=>p
 |x+1=>(chI row p y x).set (y+x) (row.getD x 0^^^(~~~(row.getD ((x+1) % 5) 0)&&&row.getD ((x+2) % 5) 0))
theorem chI_len (row p:List UInt64) (y:Nat): ∀x,(chI row p y x).length=p.length
 |0=>rfl
 |x+1=>by rw [chI,List.length_set,chI_len row p y x]
def chP (a:List UInt64):Nat→List UInt64
 |0=>a
 |k+1=>chI (((chP a k).drop (5*k)).take 5) (chP a k) (5*k) 5
theorem chP_len (a:List UInt64): ∀k,(chP a k).length=a.length
 |0=>rfl
 |k+1=>by rw [chP,chI_len,chP_len a k]
def chR (b a:List UInt64):Nat→List UInt64
 |0=>a
 |i+1=>(chR b a i).set i (b.getD i 0^^^(~~~(b.getD (i- i % 5+(i+1) % 5) 0)&&&b.getD (i- i % 5+(i+2) % 5) 0))
theorem chR_len (b a:List UInt64): ∀i,(chR b a i).length=a.length
 |0=>rfl
 |i+1=>by rw [chR,List.length_set,chR_len b a i]
theorem chR_at {b a:List UInt64} (ha:a.length=25): ∀i,i≤25→ ∀j,j<i→(chR b a i).getD j 0=chL b (j- j % 5) (j % 5)
 |0,_,j,h=>absurd h (Nat.not_lt_zero _)
 |i+1,hi,j,h=>by
  rw [chR]
  by_cases e:j=i
  ·subst e
   rw [kgetD_eq (by rw [chR_len,ha];omega),chL,show j- j % 5+j % 5=j by omega,show(j % 5+1) % 5=(j+1) % 5 by omega,show(j % 5+2) % 5=(j+2) % 5 by omega]
  ·rw [kgetD_ne (by omega),chR_at ha i (by omega) j (by omega)]
theorem row_at {l:List UInt64} {y x:Nat} (hx:x<5):((l.drop y).take 5).getD x 0=l.getD (y+x) 0:=by
 rw [List.getD_eq_getElem?_getD,List.getElem?_take,if_pos hx,List.getElem?_drop, ←List.getD_eq_getElem?_getD]
theorem chI_at {row p:List UInt64} {y:Nat} (hp:y+5≤p.length): ∀x,x≤5→(∀s,s<x→(chI row p y x).getD (y+s) 0=row.getD s 0^^^(~~~(row.getD ((s+1) % 5) 0)&&&row.getD ((s+2) % 5) 0))∧(∀j,j<y∨y+x≤j→(chI row p y x).getD j 0=p.getD j 0)
 |0,_=>⟨fun s h=>absurd h (Nat.not_lt_zero _),fun j _=>rfl⟩
 |x+1,hx=>by
  obtain⟨h1,h2⟩:=chI_at hp x (by omega)
  refine⟨fun s hs=>?_,fun j hj=>?_⟩
  ·rw [chI]
   by_cases e:s=x
   ·subst e
    rw [kgetD_eq (by rw [chI_len];omega)]
   ·rw [kgetD_ne (by omega),h1 s (by omega)]
  ·rw [chI,kgetD_ne (by omega),h2 j (by omega)]
theorem chP_at {b:List UInt64} (hb:b.length=25): ∀k,k≤5→(∀j,j<5*k→(chP b k).getD j 0=chL b (j- j % 5) (j % 5))∧(∀j,5*k≤j→(chP b k).getD j 0=b.getD j 0)
 |0,_=>⟨fun j h=>absurd h (by omega),fun j _=>rfl⟩
 |k+1,hk=>by
  obtain⟨h1,h2⟩:=chP_at hb k (by omega)
  have hl:(chP b k).length=25:=(chP_len b k).trans hb
  obtain⟨c1,c2⟩:=chI_at (row:=((chP b k).drop (5*k)).take 5) (p:=chP b k) (y:=5*k) (by omega) 5 (Nat.le_refl _)
  refine⟨fun j hj=>?_,fun j hj=>?_⟩
  ·rw [chP]
   by_cases e:j<5*k
   ·rw [c2 j (.inl e),h1 j e]
   ·obtain⟨s,rfl⟩: ∃s,j=5*k+s:=⟨j- 5*k,by omega⟩
    rw [c1 s (by omega),row_at (by omega),row_at (Nat.mod_lt _ (by decide)),row_at (Nat.mod_lt _ (by decide)),h2 _ (by omega),h2 _ (by omega),h2 _ (by omega),chL,show 5*k+s- (5*k+s) % 5=5*k by omega,show(5*k+s) % 5=s by omega]
  ·rw [chP,c2 j (.inr (by omega)),h2 j (by omega)]
theorem ch_eq {b a:List UInt64} (hb:b.length=25) (ha:a.length=25):chP b 5=chR b a 25:=by
 have hl:(chP b 5).length=25:=(chP_len b 5).trans hb
 refine ext_getD (by rw [hl,chR_len,ha]) fun j hj=>?_
 rw [(chP_at hb 5 (Nat.le_refl _)).1 j (by omega),chR_at ha 25 (Nat.le_refl _) j (by omega)]
/-! The permutation. -/
def kRound (a:List UInt64) (k:Nat):List UInt64:=(chP (tuP (theta a) 24).1 5).set 0 ((chP (tuP (theta a) 24).1 5).getD 0 0^^^rcL.getD k 0)
theorem kRound_len (a:List UInt64) (k:Nat):(kRound a k).length=a.length:=by rw [kRound,List.length_set,chP_len,tuP_len,theta_len]
def prm (a:List UInt64):Nat→List UInt64
 |0=>a
 |k+1=>kRound (prm a k) k
theorem prm_len (a:List UInt64): ∀k,(prm a k).length=a.length
 |0=>rfl
 |k+1=>by rw [prm,kRound_len,prm_len a k]
/-! Blocks. -/
def abI (a:List UInt64) (l:List UInt8):Nat→List UInt64
 |0=>a
 |i+1=>(abI a l i).set (i/8) ((abI a l i).getD (i/8) 0^^^shl64 (UInt64.ofNat (l.getD i 0).toNat) (i % 8*8))
theorem abI_len (a:List UInt64) (l:List UInt8): ∀i,(abI a l i).length=a.length
 |0=>rfl
 |i+1=>by rw [abI,List.length_set,abI_len a l i]
def absorb (a:List UInt64) (l:List UInt8):List UInt64:=prm (abI a l 136) 24
theorem absorb_len (a:List UInt64) (l:List UInt8):(absorb a l).length=a.length:=by rw [absorb,prm_len,abI_len]
def absN (l:List UInt8):Nat→List UInt64
 |0=>List.replicate 25 0
 |k+1=>absorb (absN l k) ((l.drop (136*k)).take 136)
theorem absN_len (l:List UInt8): ∀k,(absN l k).length=25
 |0=>List.length_replicate
 |k+1=>by rw [absN,absorb_len,absN_len l k]
/-- The last block: what is left, a one, naughts, a one. -/
def padL (r:List UInt8):List UInt8:=
 let z:=(r++List.replicate (136- r.length) 0).set r.length 1
 z.set 135 (z.getD 135 0 |||128)
def ouI (a:List UInt64):Nat→List UInt8
 |0=>List.replicate 32 0
 |i+1=>(ouI a i).set i (UInt8.ofNat (shr64 (a.getD (i/8) 0) (i % 8*8)).toNat)
theorem ouI_len (a:List UInt64): ∀i,(ouI a i).length=32
 |0=>List.length_replicate
 |i+1=>by rw [ouI,List.length_set,ouI_len a i]
/-- Keccak-256. -/
def kec (l:List UInt8):List UInt8:=ouI (absorb (absN l (l.length/136)) (padL (l.drop (136*(l.length/136))))) 32
theorem kec_len (l:List UInt8):(kec l).length=32:=ouI_len ..
end Go.Proofs.YtdpjbefeabokgaaGreat
