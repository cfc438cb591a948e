/- Several texts in one: see the remarks ahead of each part. No condition but those told there. -/
import Derived.Test.YtjfagifjajielaaGreatU6
import Derived.Test.YtjfagifjajielaaGreatU9
import Derived.Test.YtjfagifjajielaaGreatU8
import Derived.Test.YtjfagifjajielaaGreatU4
set_option linter.unusedSimpArgs false
set_option linter.unusedVariables false
/- rlp.encode, rlp.Encode write any item. No condition but that the form is not longer than a machine holds. -/
namespace Go.Proofs.YtjfagifjajielaaGreat
open Go Go.RowKit
set_option maxRecDepth 100000
theorem rlpHead_le (b n:Nat) (h:n<256^8):(rlpHead b n).length≤9:=by
 unfold rlpHead
 split
 ·simp
 ·have:=bytesOf_le h
  simp;omega
/-- What encode tells: the form, or that it is too deep. -/
def EncP (t:It) (lists:Nat) (v:Value) (L:List Heaplet):Prop:=
 (∃M a cap,v=.tuple #[.slice a t.form.length cap,.int .i64 0]∧L= [M]∧Row M 5 1 a t.form.length cap (u8s t.form)∧lists+t.depth≤1024)∨
 (v=.tuple #[.slice none 0 0,.int .i64 7]∧L= []∧ ¬lists+t.depth≤1024)
theorem encode_bs {N:Heaplet} {bs:List UInt8} {its:List It} {ab ai:Option Addr} {nb cb ni ci:Nat} (h:RSl N 1 ab nb cb (u8s bs)) (lists:Nat) (q:Int) (hl:lists≤1024) (hlen:(It.mk false bs its).form.length≤1099511627776):
 Fn Tryz.prog 114 #[.agg #[.bool false,.slice ab nb cb,.slice ai ni ci],.int .i64 q] [] [N] (EncP (.mk false bs its) lists):=by
 have hn:=h.len8
 have hcap:=h.cap63
 have hd:lists+(It.mk false bs its).depth≤1024:=by simpa [It.depth]using hl
 have hf:=form_false bs its
 have hsm:= @small_iffI bs
 have hub:small bs≠true→(rlpHead 128 nb).length+nb≤1099511627776:=fun e=>by rw [hf,if_neg e,List.length_append,hn]at hlen;exact hlen
 refine Fn.enter (vs:= [.agg #[.bool false,.slice ab nb cb,.slice ai ni ci],.int .i64 q]) Tryz.func114 rfl rfl rfl ?_
 intro E R hR
 have h:=h.le (hR N (by simp))
 change At _ _ E [R] _
 refine At.seq fun _ s_1=>At.region (op_box (aT rfl) rfl rfl rfl (fun N2 b2 B2=>aD (aC rfl) rfl rfl (aD (aC rfl) rfl rfl (aA (aB (s_1 (At.seq fun _ s_2=>At.seq fun _ s_3=>At.region (aF (aC rfl) fl91_0 rfl rfl (aL (aC rfl) sc4 rfl B2 (by first|rfl) aP rfl ?_)))))))))
 refine op_not (aC rfl) rfl rfl (aA (aB (s_3 (At.condT rfl (At.seq fun _ s_4=>At.seq fun _ s_5=>At.region (aF (aC rfl) fl91_1 rfl rfl (aL (aC rfl) sc22 rfl B2 (by first|rfl) aP rfl ?_)))))))
 refine a7 (aC rfl) se22 rfl rfl (op_eql (aC rfl) rfl rfl rfl (aE (aC rfl) rfl rfl (At.partP (d:=18) rfl (fun g18=>?_) (fun g18=>?_))))
 ·refine aF (bF rfl rfl rfl rfl) fl91_1 rfl rfl (aL (bF rfl rfl rfl rfl) sc22 rfl B2 (by first|rfl) aP rfl ?_)
  refine op_idx1 (bF rfl rfl rfl rfl) se22 rfl rfl (by assumption) (show _=(((0:Nat)):Int)from by omega) (by omega) rfl ?_
  refine bK (bF rfl rfl rfl rfl) sc5 rfl (by assumption) (by first|exact get8 (by omega)|exact get64 (by omega)|exact get32 (by omega)) (by first|exact aP|exact bM|exact mem2|exact mem3|exact mem4|exact mem5|exact mem6|exact mem7|exact mem8|exact mem9) rfl ?_
  refine op_lss (bF rfl rfl rfl rfl) rfl rfl rfl (bN (aC rfl) rfl rfl rfl (aA (aB (s_5 (aO rfl (fun c24=>?_) (fun c24=>?_))))))
  ·refine At.seq fun _ s_6=>At.region (aF (aC rfl) fl91_1 rfl rfl (aL (aC rfl) sc22 rfl B2 (by first|rfl) aP rfl ?_))
   refine op_idx1 (aC rfl) se22 rfl rfl (by assumption) (show _=((0:Nat):Int)from rfl) (by omega) rfl ?_
   refine bK (aC rfl) sc5 rfl (by assumption) (by first|exact get8 (by omega)|exact get64 (by omega)|exact get32 (by omega)) (by first|exact aP|exact bM|exact mem2|exact mem3|exact mem4|exact mem5|exact mem6|exact mem7|exact mem8|exact mem9) rfl ?_
   refine op_lit (aT rfl) Tryz.underlying22 ze5 sz5 (.cons rfl .nil) rfl rfl (by simp [Value.cells]) rfl rfl rfl (fun N29 a29 r29=>?_)
   simp only [flatV,List.flatMap_cons,List.flatMap_nil,Value.cells,List.append_nil,List.cons_append,List.nil_append]at r29
   have s29:=r29.rsl
   refine aD (aC rfl) rfl rfl (aD (aC rfl) rfl rfl (aA (aB (s_6 (At.ret (aJ (aJ ((At.sub (L':= [N29,R]) (.cons_cons _ (.cons _ (.cons_cons _ (.slnil)))) (aU (L1:= [N29]) rfl (.tmp rfl (.tmp rfl .nil)) rfl (.refl _) (.refl _) ?_))))))))))
   have e:(It.mk false bs its).form= [bs.getD 0 0]:=by
    rw [hf,if_pos (hsm.2 ⟨by omega,by omega⟩)]
    exact one_eq (by omega)
   exact .inl ⟨N29,a29,1,by rw [e];rfl,rfl,by rw [e];exact r29,hd⟩
  refine At.skip (aB (s_4 (At.seq fun _ s_7=>At.drawn [6] [0,1,2,4,5,3,6,7,8] (by kernel_rfl) (by kernel_rfl) (aF (aR rfl rfl rfl (by kernel_rfl)) fl91_1 rfl rfl (aL (aR rfl rfl rfl (by kernel_rfl)) sc22 rfl B2 (by first|rfl) aP rfl ?_)))))
  refine a7 (aR rfl rfl rfl (by kernel_rfl)) se22 rfl rfl (aF (aR rfl rfl rfl (by kernel_rfl)) fl91_1 rfl rfl (aL (aR rfl rfl rfl (by kernel_rfl)) sc22 rfl B2 (by first|rfl) aP rfl ?_))
  have hub':=hub (fun e=>by have:=hsm.1 e;omega)
  refine aG (nxoa rfl rfl rfl) (.cons rfl (.cons rfl .nil)) (head_f 128 nb (by omega) (by omega)) Tryz.func153 rfl rfl (by simp) rfl ?_
  rintro v33 L33 ⟨M33,a33,p33,rfl,rfl,r33⟩
  change At _ _ _ [M33,N2,R] _
  refine op_append (nxos rfl rfl rfl rfl) Tryz.underlying22 Tryz.underlying22 te5 rfl rfl r33 (by assumption) (by first|exact aP|exact bM|exact mem2|exact mem3|exact mem4|exact mem5|exact mem6|exact mem7|exact mem8|exact mem9) (by first|exact one_u8s _|exact one_u64s _|exact one_u32s _|(intro u hu;simp at hu;subst hu;rfl)) (by omega) (by omega) sel0 rfl (fun N36 a36 p36 r36=>?_)
  have s36:=r36.rsl
  refine aD (aR rfl rfl rfl (by kernel_rfl)) rfl rfl (aD (aR rfl rfl rfl (by kernel_rfl)) rfl rfl (At.oneNil (aB (s_7 (At.ret (aJ ((At.sub (L':= [N36,R]) (.cons_cons _ (.cons _ (.cons_cons _ (.slnil)))) (aU (L1:= [N36]) rfl (.tmp rfl (.tmp rfl .nil)) rfl (.refl _) (.refl _) ?_)))))))))
  have e:(It.mk false bs its).form=rlpHead 128 nb++bs:=by rw [hf,if_neg (fun e=>by have:=hsm.1 e;omega),hn]
  exact .inl ⟨N36,a36,p36,by rw [e,List.length_append,hn],rfl,by rw [e,List.length_append,hn,u8s,List.map_append];exact r36,hd⟩
 refine aN rfl rfl rfl rfl rfl rfl rfl (aN rfl rfl rfl rfl rfl rfl rfl (aN rfl rfl rfl rfl rfl rfl rfl (aN rfl rfl rfl rfl rfl rfl rfl (aN rfl rfl rfl rfl rfl rfl rfl (op_pickF (aC rfl) rfl rfl rfl (aA (aB (s_5 (At.condF rfl (At.skip (aB (s_4 (At.seq fun _ s_8=>At.drawn [6] [0,1,2,4,5,3,6,7,8] (by kernel_rfl) (by kernel_rfl) (aF (aR rfl rfl rfl (by kernel_rfl)) fl91_1 rfl rfl (aL (aR rfl rfl rfl (by kernel_rfl)) sc22 rfl B2 (by first|rfl) aP rfl ?_)))))))))))))))
 refine a7 (aR rfl rfl rfl (by kernel_rfl)) se22 rfl rfl (aF (aR rfl rfl rfl (by kernel_rfl)) fl91_1 rfl rfl (aL (aR rfl rfl rfl (by kernel_rfl)) sc22 rfl B2 (by first|rfl) aP rfl ?_))
 have hub':=hub (fun e=>by have:=hsm.1 e;omega)
 refine aG (nxoa rfl rfl rfl) (.cons rfl (.cons rfl .nil)) (head_f 128 nb (by omega) (by omega)) Tryz.func153 rfl rfl (by simp) rfl ?_
 rintro v33 L33 ⟨M33,a33,p33,rfl,rfl,r33⟩
 change At _ _ _ [M33,N2,R] _
 refine op_append (nxos rfl rfl rfl rfl) Tryz.underlying22 Tryz.underlying22 te5 rfl rfl r33 (by assumption) (by first|exact aP|exact bM|exact mem2|exact mem3|exact mem4|exact mem5|exact mem6|exact mem7|exact mem8|exact mem9) (by first|exact one_u8s _|exact one_u64s _|exact one_u32s _|(intro u hu;simp at hu;subst hu;rfl)) (by omega) (by omega) sel0 rfl (fun N36 a36 p36 r36=>?_)
 have s36:=r36.rsl
 refine aD (aR rfl rfl rfl (by kernel_rfl)) rfl rfl (aD (aR rfl rfl rfl (by kernel_rfl)) rfl rfl (At.oneNil (aB (s_8 (At.ret (aJ ((At.sub (L':= [N36,R]) (.cons_cons _ (.cons _ (.cons_cons _ (.slnil)))) (aU (L1:= [N36]) rfl (.tmp rfl (.tmp rfl .nil)) rfl (.refl _) (.refl _) ?_)))))))))
 have e:(It.mk false bs its).form=rlpHead 128 nb++bs:=by rw [hf,if_neg (fun e=>by have:=hsm.1 e;omega),hn]
 exact .inl ⟨N36,a36,p36,by rw [e,List.length_append,hn],rfl,by rw [e,List.length_append,hn,u8s,List.map_append];exact r36,hd⟩
theorem encode_its {N:Heaplet} {its:List It} {xs:List IV} {ab ai:Option Addr} {nb cb ni ci:Nat} {bs:List UInt8} (hI:RSl N 3 ai ni ci (cellsI xs)) (hX:ItsN N its xs) (lists:Nat) (q:Int) (hq:q=lists) (hl:lists≤1024) (hlen:(It.mk true bs its).form.length≤1099511627776)
 (ih: ∀t∈its, ∀(N:Heaplet) (x:IV) (lists:Nat) (q:Int),ItN N t x→q=lists→lists≤1024→t.form.length≤1099511627776→Fn Tryz.prog 114 #[.agg #[.bool x.l,.slice x.ab x.nb x.cb,.slice x.ai x.ni x.ci],.int .i64 q] [] [N] (EncP t lists)):
 Fn Tryz.prog 114 #[.agg #[.bool true,.slice ab nb cb,.slice ai ni ci],.int .i64 q] [] [N] (EncP (.mk true bs its) lists):=by
 have hn:xs.length=ni:=by have:=hI.1;rw [length_cellsI]at this;omega
 have hn2:=hX.length
 have hcap:=hI.cap63
 have hf:=form_true bs its
 have hlf:(rlpHead 192 (It.forms its).length).length+(It.forms its).length≤1099511627776:=by rw [hf,List.length_append]at hlen;exact hlen
 have hdep:(It.mk true bs its).depth=It.depths its+1:=by simp [It.depth]
 refine Fn.enter (vs:= [.agg #[.bool true,.slice ab nb cb,.slice ai ni ci],.int .i64 q]) Tryz.func114 rfl rfl rfl ?_
 intro E R hR
 have hI:=hI.le (hR N (by simp))
 have hX:=hX.le (hR N (by simp))
 change At _ _ E [R] _
 refine At.seq fun _ s_1=>At.region (op_box (aT rfl) rfl rfl rfl (fun N2 b2 B2=>aD (aC rfl) rfl rfl (aD (aC rfl) rfl rfl (aA (aB (s_1 (At.seq fun _ s_2=>At.seq fun _ s_3=>At.region (aF (aC rfl) fl91_0 rfl rfl (aL (aC rfl) sc4 rfl B2 (by first|rfl) aP rfl ?_)))))))))
 refine op_not (aC rfl) rfl rfl (aA (aB (s_3 (At.condF rfl (At.skip (aB (s_2 (At.seq fun _ s_4=>At.seq fun _ s_5=>At.region (aE (aC rfl) rfl rfl (op_eql (aC rfl) rfl rfl rfl (aA (aB (s_5 (aO rfl (fun c38=>?_) (fun c38=>?_)))))))))))))))
 ·refine At.seq fun _ s_6=>At.region (aD (aC rfl) rfl rfl (aD (aC rfl) rfl rfl (aA (aB (s_6 (At.ret (aJ ((At.sub (L':= [R]) (.cons _ (.cons_cons _ (.slnil))) (aU (L1:= []) rfl (.tmp rfl (.tmp rfl .nil)) rfl (.refl _) (.refl _) ?_))))))))))
  exact .inr ⟨rfl,rfl,by omega⟩
 refine At.skip (aB (s_4 (At.seq fun _ s_7=>At.region (aD (aC rfl) rfl rfl (aA (aB (s_7 (At.seq fun _ s_8=>At.seq fun _ s_9=>At.region (aF (aC rfl) fl91_2 rfl rfl (aL (aC rfl) sc89 rfl B2 (by first|rfl) aP rfl ?_))))))))))
 refine a7 (aC rfl) se89 rfl rfl (aE (aC rfl) rfl rfl (aA (aB (s_9 (At.block (At.empty (At.perm sel2 (At.perm sel1 (At.perm sel2 (At.loop (fun fr_ hp_ ms_=> ∃(k np:Nat) (ap:Option Addr) (cp:Nat) (Np:Heaplet),fr_= [(1,.int .i64 q),(2,.pointer (some ⟨b2,0,none⟩)),(6,.slice ap np cp),(40,.slice ai ni ci),(41,.int .i64 (ni:Int)),(42,.int .i64 (k:Int))]∧hp_= [N2,Np,R]∧ni- k=ms_∧(k≤ni)∧(np=(It.forms (its.take k)).length)∧(Row Np 5 1 ap np cp (u8s (It.forms (its.take k))))∧(∀t∈its.take k,lists+1+t.depth≤1024)) ?_ (.refl _) ⟨0,0,none,0,nilH,rfl,rfl,rfl,by omega,by simp [It.forms],by simpa [It.forms,u8s]using Row.nil nilH 5 1,by simp⟩ ?_))))))))))
 ·exact .cons (by first|exact a6 rfl (by omega)|rfl) (.cons (by first|exact a6 rfl (by omega)|rfl) (.cons (by first|exact a6 rfl (by omega)|rfl) (.cons (by first|exact a6 rfl (by omega)|rfl) (.cons (by first|exact a6 rfl (by omega)|rfl) (.cons (by first|exact a6 rfl (by omega)|rfl) .nil)))))
 rintro _ _ _ ⟨k,np,ap,cp,Np,rfl,rfl,rfl,hk,hnp,rp,hd⟩
 have sp:=rp.rsl
 have hle:=forms_take_le its k
 refine At.seq fun _ s_10=>At.region (op_lss (aC rfl) rfl rfl rfl (aA (aB (s_10 (At.seq fun _ s_11=>aO rfl (fun c43=>?_) (fun c43=>?_))))))
 ·have hlt:k<its.length:=by omega
  obtain⟨x,hx,hi⟩:=hX.get (List.getElem?_eq_getElem hlt)
  have hts:=forms_take_succ (List.getElem?_eq_getElem hlt)
  have hfe:=form_le (List.getElem_mem hlt)
  have hle2:=forms_take_le its (k+1)
  have hsum:np+(its[k]).form.length≤(It.forms its).length:=by rw [hts,List.length_append]at hle2;omega
  refine At.skip (aB (s_11 (At.seq fun _ s_12=>At.block (At.seq fun _ s_13=>At.region (op_idxE (aC rfl) se89 rfl rfl (by assumption) (show _=(((k:Nat)):Int)from by omega) (by omega) rfl ?_)))))
  refine op_loadAggE (aC rfl) ag91 rfl (by assumption) (by exact cells_at hx) (by rfl) (by omega) (by first|exact aP|exact bM|exact mem2|exact mem3|exact mem4|exact mem5|exact mem6|exact mem7|exact mem8|exact mem9) rfl ?_
  refine aS (aT rfl) ze91 rfl (fun N8 b8 B8=>?_)
  change Blk N8 b8 _ [.bool false,.slice none 0 0,.slice none 0 0]at B8
  refine aI (nxl rfl) sz91 rfl rfl rfl rfl rfl B8 (by simp) sel0 (fun N8 B8=>?_)
  simp only [setL,List.set]at B8
  refine aA (aB (s_13 (At.seq fun _ s_14=>At.region (aQ (ds:= [_,_,_]) (aC rfl) ag91 rfl B8 rfl rfl aP rfl (aE (aC rfl) rfl rfl (bI (aC rfl) rfl rfl (by omega) (by omega) rfl (aG (aT rfl) (.cons rfl (.cons rfl .nil)) (ih its[k] (List.getElem_mem hlt) R x (lists+1) (q+1) hi (by omega) (by omega) (by omega)) Tryz.func114 rfl rfl (by simp) rfl ?_)))))))
  rintro v50 L50 (⟨M50,a50,p50,rfl,rfl,r50,hd50⟩|⟨rfl,rfl,hd50⟩)
  ·change At _ _ _ [M50,N8,N2,Np,R] _
   have s50:=r50.rsl
   refine aE (aC rfl) rfl rfl (aH (aC rfl) rfl rfl rfl (aH (aC rfl) rfl rfl rfl (aD (aC rfl) rfl rfl (aD (aC rfl) rfl rfl (aA (aB (s_14 (At.seq fun _ s_15=>At.seq fun _ s_16=>At.region (aE (aC rfl) rfl rfl (op_neq (aC rfl) rfl rfl rfl (aA (aB (s_16 (At.condF rfl (At.skip (aB (s_15 (At.region (aE (aC rfl) rfl rfl (aE (aC rfl) rfl rfl ?_))))))))))))))))))))
   refine op_append (nxl rfl) Tryz.underlying22 Tryz.underlying22 te5 rfl rfl rp (by assumption) (by first|exact aP|exact bM|exact mem2|exact mem3|exact mem4|exact mem5|exact mem6|exact mem7|exact mem8|exact mem9) (by first|exact one_u8s _|exact one_u64s _|exact one_u32s _|(intro u hu;simp at hu;subst hu;rfl)) (by omega) (by omega) sel3 rfl (fun N58 a58 p58 r58=>?_)
   have s58:=r58.rsl
   refine aD (aC rfl) rfl rfl (aA (bC (aB (s_12 (At.region (bI (aC rfl) rfl rfl (by omega) (by omega) rfl (aE (aC rfl) rfl rfl (aA (aB (At.sub (L':= [N58,N2,R]) (.cons_cons _ (.cons _ (.cons _ (.cons_cons _ (.cons_cons _ (.slnil)))))) (At.perm sel2 (At.perm sel1 (At.perm sel2 ?_)))))))))))))
   refine At.back ?_ (.refl _) ⟨k+1,np+(its[k]).form.length,a58,p58,N58,rfl,rfl,rfl,by omega,by rw [hts,List.length_append,hnp],by rw [hts,u8s,List.map_append];exact r58,fun t ht=>by rw [List.take_succ_eq_append_getElem hlt,List.mem_append]at ht;rcases ht with ht|ht;exact hd t ht;rw [List.mem_singleton.1 ht];exact hd50⟩ ?_
   ·exact .cons (by first|exact a6 rfl (by omega)|rfl) (.cons (by first|exact a6 rfl (by omega)|rfl) (.cons (by first|exact a6 rfl (by omega)|rfl) (.cons (by first|exact a6 rfl (by omega)|rfl) (.cons (by first|exact a6 rfl (by omega)|rfl) (.cons (by first|exact a6 rfl (by omega)|rfl) .nil)))))
   ·omega
  change At _ _ _ [N8,N2,Np,R] _
  refine aE (aC rfl) rfl rfl (aH (aC rfl) rfl rfl rfl (aH (aC rfl) rfl rfl rfl (aD (aC rfl) rfl rfl (aD (aC rfl) rfl rfl (aA (aB (s_14 (At.seq fun _ s_17=>At.seq fun _ s_18=>At.region (aE (aC rfl) rfl rfl (op_neq (aC rfl) rfl rfl rfl (aA (aB (s_18 (At.condT rfl (At.seq fun _ s_19=>At.region (aE (aC rfl) rfl rfl (aD (aC rfl) rfl rfl (aD (aC rfl) rfl rfl (aA ?_)))))))))))))))))))
  refine aB (s_19 (At.ret (aJ (bP (aJ (aJ (bP (aJ ((At.sub (L':= [R]) (.cons _ (.cons _ (.cons _ (.cons_cons _ (.slnil))))) (aU (L1:= []) rfl (.tmp rfl (.tmp rfl .nil)) rfl (.refl _) (.refl _) (.inr ⟨rfl,rfl,fun h=>hd50 ?_⟩))))))))))))
  have:=depths_le.1 (Nat.le_refl _) _ (List.getElem_mem hlt)
  omega
 refine At.exit (aM (aM (At.inHit (aB (s_8 (At.seq fun _ s_20=>At.region (aE (aC rfl) rfl rfl (a7 (aC rfl) se22 rfl rfl (aG (aT rfl) (.cons rfl (.cons rfl .nil)) (head_f 192 np (by omega) (by omega)) Tryz.func153 rfl rfl (by simp) rfl ?_)))))))))
 rintro v62 L62 ⟨M62,a62,p62,rfl,rfl,r62⟩
 change At _ _ _ [M62,N2,Np,R] _
 refine aE (aC rfl) rfl rfl ?_
 have h9:=rlpHead_le 192 np (by omega)
 refine op_append (nxl rfl) Tryz.underlying22 Tryz.underlying22 te5 rfl rfl r62 (by assumption) (by first|exact aP|exact bM|exact mem2|exact mem3|exact mem4|exact mem5|exact mem6|exact mem7|exact mem8|exact mem9) (by first|exact one_u8s _|exact one_u64s _|exact one_u32s _|(intro u hu;simp at hu;subst hu;rfl)) (by omega) (by omega) sel0 rfl (fun N64 a64 p64 r64=>?_)
 have s64:=r64.rsl
 refine aD (aC rfl) rfl rfl (aD (aC rfl) rfl rfl (aA (aB (s_20 (At.ret ((At.sub (L':= [N64,R]) (.cons_cons _ (.cons _ (.cons _ (.cons_cons _ (.slnil))))) (aU (L1:= [N64]) rfl (.tmp rfl (.tmp rfl .nil)) rfl (.refl _) (.refl _) ?_))))))))
 obtain rfl:k=its.length:=by omega
 rw [List.take_length]at hnp hd r64
 subst hnp
 refine .inl ⟨N64,a64,p64,by rw [hf,List.length_append],rfl,by rw [hf,List.length_append,u8s,List.map_append];exact r64,?_⟩
 rw [hdep]
 by_cases hz:its= []
 ·subst hz;simp [It.depths];omega
 ·have:It.depths its≤1024- lists- 1:=depths_le.2 fun t ht=>by have:=hd t ht;omega
  obtain⟨t,ht⟩:=List.exists_mem_of_ne_nil _ hz
  have:=hd t ht
  omega
theorem encode_f (t:It): ∀(N:Heaplet) (x:IV) (lists:Nat) (q:Int),ItN N t x→q=lists→lists≤1024→t.form.length≤1099511627776→Fn Tryz.prog 114 #[.agg #[.bool x.l,.slice x.ab x.nb x.cb,.slice x.ai x.ni x.ci],.int .i64 q] [] [N] (EncP t lists):=by
 induction t using It.ind_it with|h l bs its ih=>?_
 intro N x lists q h hq hl hlen
 simp only [ItN]at h
 obtain⟨rfl,h1,xs,h2,h3⟩:=h
 cases hb:x.l with
 |false=>rw [hb]at hlen;exact encode_bs h1 lists q hl hlen
 |true=>rw [hb]at hlen;exact encode_its h2 h3 lists q hq hl hlen ih
theorem Encode_f {N:Heaplet} {t:It} {x:IV} (h:ItN N t x) (hlen:t.form.length≤1099511627776):Fn Tryz.prog 69 #[.agg #[.bool x.l,.slice x.ab x.nb x.cb,.slice x.ai x.ni x.ci]] [] [N] (EncP t 0):=by
 refine Fn.enter (vs:= [.agg #[.bool x.l,.slice x.ab x.nb x.cb,.slice x.ai x.ni x.ci]]) Tryz.func69 rfl rfl rfl ?_
 intro E R hR
 have h:=h.le (hR N (by simp))
 change At _ _ E [R] _
 refine At.seq fun _ s_1=>At.region (op_box (aT rfl) rfl rfl rfl (fun N1 b1 B1=>aD (aC rfl) rfl rfl (aD (aC rfl) rfl rfl (aA (aB (s_1 (At.seq fun _ s_2=>At.region (aQ (ds:= [_,_,_]) (aC rfl) ag91 rfl B1 rfl rfl aP rfl (aG (aT rfl) (.cons rfl (.cons rfl .nil)) (encode_f t R x 0 0 h rfl (by omega) hlen) Tryz.func114 rfl rfl (by simp) rfl ?_)))))))))
 rintro v5 L5 (⟨M5,a5,p5,rfl,rfl,r5,hd5⟩|⟨rfl,rfl,hd5⟩)
 ·change At _ _ _ [M5,N1,R] _
  refine aH (aC rfl) rfl rfl rfl (aH (aC rfl) rfl rfl rfl (aD (aC rfl) rfl rfl (aD (aC rfl) rfl rfl (aA (aB (s_2 (At.ret ((At.sub (L':= [M5,R]) (.cons_cons _ (.cons _ (.cons_cons _ (.slnil)))) (aU (L1:= [M5]) rfl (.tmp rfl (.tmp rfl .nil)) rfl (.refl _) (.refl _) ?_))))))))))
  exact .inl ⟨M5,a5,p5,rfl,rfl,r5,hd5⟩
 change At _ _ _ [N1,R] _
 refine aH (aC rfl) rfl rfl rfl (aH (aC rfl) rfl rfl rfl (aD (aC rfl) rfl rfl (aD (aC rfl) rfl rfl (aA (aB (s_2 (At.ret ((At.sub (L':= [R]) (.cons _ (.cons_cons _ (.slnil))) (aU (L1:= []) rfl (.tmp rfl (.tmp rfl .nil)) rfl (.refl _) (.refl _) ?_))))))))))
 exact .inr ⟨rfl,rfl,hd5⟩
end Go.Proofs.YtjfagifjajielaaGreat
/- rlp.Decode; quarrylaw05.wakes holds. No condition but that bytes are not longer than a machine holds. -/
namespace Go.Proofs.YtjfagifjajielaaGreat
open Go Go.RowKit
/-- The item that bytes tell, or the error's number. -/
def decodeF (b:List UInt8):Except Nat It:=match decF 1024 b with
 |.error e=>.error e
 |.ok (t,q)=>if q.length=0 then .ok t else .error 2
def DecodeP (r:Except Nat It) (v:Value) (L:List Heaplet):Prop:=
 (∃t M, ∃x:IV,r=.ok t∧v=.tuple #[.agg #[.bool x.l,.slice x.ab x.nb x.cb,.slice x.ai x.ni x.ci],.int .i64 0]∧L= [M]∧ItN M t x)∨
 (∃e:Nat,r=.error e∧v=.tuple #[.agg #[.bool false,.slice none 0 0,.slice none 0 0],.int .i64 (e:Int)]∧L= []∧e≠0)
end Go.Proofs.YtjfagifjajielaaGreat
/- quarrylaw05.wakes holds. No condition. -/
namespace Go.Proofs.YtjfagifjajielaaGreat
open Go Go.RowKit
def wakeT:It:=.mk true [] [.mk true [] [],.mk false [97] []]
end Go.Proofs.YtjfagifjajielaaGreat
/- quarryref05's head, Depth, form, Encode: the document's forms of items. No condition but that the form is not longer than a machine holds. -/
namespace Go.Proofs.YtjfagifjajielaaGreat
open Go Go.RowKit
set_option maxRecDepth 100000
theorem rhead_f (b n:Nat) (hb:b≤192) (hn:n≤1099511627776):
 Fn Tryz.prog 151 #[.int .i64 (b:Int),.int .i64 (n:Int)] [] [] (fun v L=> ∃M a cap,v=.slice a (rlpHead b n).length cap∧L= [M]∧Row M 5 1 a (rlpHead b n).length cap (u8s (rlpHead b n))):=by
 have h8:=bytesOf_le (n:=n) (k:=8) (by omega)
 have hn64:(UInt64.ofNat n).toNat=n:=by rw [UInt64.toNat_ofNat'];exact Nat.mod_eq_of_lt (by omega)
 refine Fn.enter (vs:= [.int .i64 (b:Int),.int .i64 (n:Int)]) Tryz.func151 rfl rfl rfl ?_
 intro E R hR
 change At _ _ E [R] _
 refine At.seq fun _ s_1=>At.region (aD (aC rfl) rfl rfl (aA (aB (s_1 (At.seq fun _ s_2=>At.seq fun _ s_3=>At.region (aE (aC rfl) rfl rfl (op_leq (aC rfl) rfl rfl rfl (aA (aB (s_3 (aO rfl (fun c7=>?_) (fun c7=>?_))))))))))))
 ·refine At.seq fun _ s_4=>At.region (aE (aC rfl) rfl rfl (aE (aC rfl) rfl rfl (bI (aC rfl) rfl rfl (by omega) (by omega) rfl (op_conv8 (aC rfl) (und_some Tryz.underlying3) Tryz.underlying5 rfl (show _=(((b+n:Nat)):Int)from by omega) rfl ?_))))
  refine op_lit (aT rfl) Tryz.underlying22 ze5 sz5 (.cons rfl .nil) rfl rfl (by simp [Value.cells]) rfl rfl rfl (fun N12 a12 r12=>?_)
  simp only [flatV,List.flatMap_cons,List.flatMap_nil,Value.cells,List.append_nil,List.cons_append,List.nil_append]at r12
  have s12:=r12.rsl
  refine aD (aC rfl) rfl rfl (aA (aB (s_4 (At.ret (aJ ((aW (L1:= [N12]) rfl (.tmp rfl .nil) (.refl _) (.refl _) ?_)))))))
  have e:rlpHead b n= [UInt8.ofNat (b+n)]:=by rw [rlpHead,if_pos (by omega)]
  rw [e]
  exact⟨N12,a12,1,rfl,rfl,r12⟩
 refine At.skip (aB (s_2 (At.seq fun _ s_5=>At.region (aE (aC rfl) rfl rfl (op_conv64 (aC rfl) (und_some Tryz.underlying3) Tryz.underlying24 rfl (show _=(((n:Nat)):Int)from by omega) rfl ?_)))))
 refine aG (aT rfl) (.cons rfl .nil) (Of32_f (UInt64.ofNat n)) Tryz.func100 rfl rfl (by simp) rfl ?_
 rintro v15 L15 ⟨M15,a15,p15,rfl,rfl,s15⟩
 change At _ _ _ [M15,R] _
 have hl15:=s15.len32
 have hdl:(digsOf (UInt64.ofNat n).toNat).length≤2:=by rw [length_digsOf];exact digLen_le.2 (UInt64.toNat_lt _)
 refine aG (aT rfl) (.cons rfl .nil) (Bytes32_f s15 (by omega)) Tryz.func171 rfl rfl (by simp) rfl ?_
 rintro v16 L16 ⟨M16,a16,p16,rfl,rfl,r16⟩
 change At _ _ _ [M16,M15,R] _
 rw [v32_digsOf,hn64]at r16⊢
 have s16:=r16.rsl
 refine aD (aC rfl) rfl rfl (aA (aB (s_5 (At.seq fun _ s_6=>At.region (aE (aC rfl) rfl rfl (bI (aC rfl) rfl rfl (by omega) (by omega) rfl (aE (aC rfl) rfl rfl (a7 (aC rfl) se22 rfl rfl (bI (aC rfl) rfl rfl (by omega) (by omega) rfl (op_conv8 (aC rfl) (und_some Tryz.underlying3) Tryz.underlying5 rfl (show _=(((b+55+(bytesOf n).length:Nat)):Int)from by omega) rfl ?_))))))))))
 refine op_lit (aT rfl) Tryz.underlying22 ze5 sz5 (.cons rfl .nil) rfl rfl (by simp [Value.cells]) rfl rfl rfl (fun N23 a23 r23=>?_)
 simp only [flatV,List.flatMap_cons,List.flatMap_nil,Value.cells,List.append_nil,List.cons_append,List.nil_append]at r23
 have s23:=r23.rsl
 refine aE (aC rfl) rfl rfl ?_
 refine op_append (nxl rfl) Tryz.underlying22 Tryz.underlying22 te5 rfl rfl r23 (by assumption) (by first|exact aP|exact bM|exact mem2|exact mem3|exact mem4|exact mem5|exact mem6|exact mem7|exact mem8|exact mem9) (by first|exact one_u8s _|exact one_u64s _|exact one_u32s _|(intro u hu;simp at hu;subst hu;rfl)) (by omega) (by omega) sel0 rfl (fun N25 a25 p25 r25=>?_)
 have s25:=r25.rsl
 refine aD (aC rfl) rfl rfl (aA (aB (s_6 (At.ret ((At.sub (L':= [N25,R]) (.cons_cons _ (.cons _ (.cons _ (.cons_cons _ (.slnil))))) (aW (L1:= [N25]) rfl (.tmp rfl .nil) (.refl _) (.refl _) ?_)))))))
 have e:rlpHead b n=UInt8.ofNat (b+55+(bytesOf n).length)::bytesOf n:=by rw [rlpHead,if_neg (by omega)]
 rw [e,List.length_cons,Nat.add_comm (bytesOf n).length 1]
 exact⟨N25,a25,p25,rfl,rfl,r25⟩
theorem depths_take_succ {its:List It} {k:Nat} {t:It} (h:its[k]? =some t):It.depths (its.take (k+1))=max (It.depths (its.take k)) t.depth:=by
 obtain⟨hlt,rfl⟩:=List.getElem?_eq_some_iff.1 h
 have key: ∀(a b:List It),It.depths (a++b)=max (It.depths a) (It.depths b):=by
  intro a
  induction a with
  |nil=>intro b;simp [It.depths]
  |cons t ts ih=>intro b;simp [It.depths,ih,Nat.max_assoc]
 rw [List.take_succ_eq_append_getElem hlt,key]
 simp [It.depths]
theorem Depth_f (t:It): ∀(N:Heaplet) (x:IV) (left:Nat) (q:Int),ItN N t x→q=left→left≤2000→Fn Tryz.prog 72 #[.agg #[.bool x.l,.slice x.ab x.nb x.cb,.slice x.ai x.ni x.ci],.int .i64 q] [] [N] (fun v L=>v=.int .i64 ((min t.depth left:Nat):Int)∧L= []):=by
 induction t using It.ind_it with|h l bs its ih=>?_
 intro N x left q h hq hl
 simp only [ItN]at h
 obtain⟨rfl,h1,xs,hI,hX⟩:=h
 have hn:xs.length=x.ni:=by have:=hI.1;rw [length_cellsI]at this;omega
 have hn2:=hX.length
 have hcap:=hI.cap63
 cases hb:x.l with
 |false=>
  have hd:(It.mk false bs its).depth=0:=by simp [It.depth]
  refine Fn.enter (vs:= [.agg #[.bool false,.slice x.ab x.nb x.cb,.slice x.ai x.ni x.ci],.int .i64 q]) Tryz.func72 rfl rfl rfl ?_
  intro E R hR
  change At _ _ E [R] _
  refine At.seq fun _ s_1=>At.region (op_box (aT rfl) rfl rfl rfl (fun N2 b2 B2=>aD (aC rfl) rfl rfl (aA (aB (s_1 (At.seq fun _ s_2=>At.seq fun _ s_3=>At.region (aF (aC rfl) fl91_0 rfl rfl (aL (aC rfl) sc4 rfl B2 (by first|rfl) aP rfl ?_))))))))
  refine op_not (aC rfl) rfl rfl (aE (aC rfl) rfl rfl (aN rfl rfl rfl rfl rfl rfl rfl (aN rfl rfl rfl rfl rfl rfl rfl (bN (aC rfl) rfl rfl rfl (aA (aB (s_3 (At.condT rfl (At.seq fun _ s_4=>At.region (aD (aC rfl) rfl rfl (aA (aB (s_4 (At.ret (aJ ((At.sub (L':= [R]) (.cons _ (.cons_cons _ (.slnil))) (aW (L1:= []) rfl (.tmp rfl .nil) (.refl _) (.refl _) ?_))))))))))))))))))
  exact⟨by rw [hd,Nat.zero_min];rfl,rfl⟩
 |true=>
  have hd:(It.mk true bs its).depth=It.depths its+1:=by simp [It.depth]
  refine Fn.enter (vs:= [.agg #[.bool true,.slice x.ab x.nb x.cb,.slice x.ai x.ni x.ci],.int .i64 q]) Tryz.func72 rfl rfl rfl ?_
  intro E R hR
  have hI:=hI.le (hR N (by simp))
  have hX:=hX.le (hR N (by simp))
  change At _ _ E [R] _
  refine At.seq fun _ s_1=>At.region (op_box (aT rfl) rfl rfl rfl (fun N2 b2 B2=>aD (aC rfl) rfl rfl (aA (aB (s_1 (At.seq fun _ s_2=>At.seq fun _ s_3=>At.region (aF (aC rfl) fl91_0 rfl rfl (aL (aC rfl) sc4 rfl B2 (by first|rfl) aP rfl ?_))))))))
  refine op_not (aC rfl) rfl rfl (aE (aC rfl) rfl rfl (aE (bF rfl rfl rfl rfl) rfl rfl (op_eql (bF rfl rfl rfl rfl) rfl rfl rfl (op_pickF (aC rfl) rfl rfl rfl (aA (aB (s_3 (aO rfl (fun c14=>?_) (fun c14=>?_)))))))))
  ·refine At.seq fun _ s_4=>At.region (aD (aC rfl) rfl rfl (aA (aB (s_4 (At.ret (aJ ((At.sub (L':= [R]) (.cons _ (.cons_cons _ (.slnil))) (aW (L1:= []) rfl (.tmp rfl .nil) (.refl _) (.refl _) ?_)))))))))
   exact⟨by rw [show left=0 by omega,Nat.min_zero];rfl,rfl⟩
  refine At.skip (aB (s_2 (At.seq fun _ s_5=>At.region (aD (aC rfl) rfl rfl (aA (aB (s_5 (At.seq fun _ s_6=>At.seq fun _ s_7=>At.region (aD (aC rfl) rfl rfl (aA (aB (s_7 (At.block (At.loop (fun fr_ hp_ ms_=> ∃(k d:Nat),fr_= [(1,.int .i64 q),(2,.pointer (some ⟨b2,0,none⟩)),(5,.int .i64 (d:Int)),(6,.int .i64 (k:Int))]∧hp_= [N2,R]∧x.ni- k=ms_∧(k≤x.ni)∧(d=min (It.depths (its.take k)) (left- 1))) ?_ (.refl _) ⟨0,0,rfl,rfl,rfl,by omega,by simp [It.depths]⟩ ?_))))))))))))))
  ·exact .cons (by first|exact a6 rfl (by omega)|rfl) (.cons (by first|exact a6 rfl (by omega)|rfl) (.cons (by first|exact a6 rfl (by omega)|rfl) (.cons (by first|exact a6 rfl (by omega)|rfl) .nil)))
  rintro _ _ _ ⟨k,d,rfl,rfl,rfl,hk,hd2⟩
  refine At.seq fun _ s_8=>At.seq fun _ s_9=>At.region (aE (aC rfl) rfl rfl (aF (aC rfl) fl91_2 rfl rfl (aL (aC rfl) sc89 rfl B2 (by first|rfl) aP rfl ?_)))
  refine a7 (aC rfl) se89 rfl rfl (op_lss (aC rfl) rfl rfl rfl (aA (aB (s_9 (aO rfl (fun c19=>?_) (fun c19=>?_))))))
  ·have hlt:k<its.length:=by omega
   obtain⟨y,hy,hi⟩:=hX.get (List.getElem?_eq_getElem hlt)
   have hts:=depths_take_succ (List.getElem?_eq_getElem hlt)
   refine At.skip (aB (s_8 (At.seq fun _ s_10=>At.block (At.seq fun _ s_11=>At.region (aF (aC rfl) fl91_2 rfl rfl (aL (aC rfl) sc89 rfl B2 (by first|rfl) aP rfl ?_))))))
   refine aE (aC rfl) rfl rfl (op_idxE (aC rfl) se89 rfl rfl (by assumption) (show _=(((k:Nat)):Int)from by omega) (by omega) rfl ?_)
   refine op_loadAggE (aC rfl) ag91 rfl (by assumption) (by exact cells_at hy) (by rfl) (by omega) (by first|exact aP|exact bM|exact mem2|exact mem3|exact mem4|exact mem5|exact mem6|exact mem7|exact mem8|exact mem9) rfl ?_
   refine aE (aC rfl) rfl rfl (op_subI (aC rfl) rfl rfl (by omega) (by omega) rfl (aG (aT rfl) (.cons rfl (.cons rfl .nil)) (ih its[k] (List.getElem_mem hlt) R y (left- 1) (q- 1) hi (by omega) (by omega)) Tryz.func72 rfl rfl (by simp) rfl ?_))
   rintro v29 L29 ⟨rfl,rfl⟩
   change At _ _ _ [N2,R] _
   refine aD (aC rfl) rfl rfl (aA (aB (s_11 (At.seq fun _ s_12=>At.region (aE (aC rfl) rfl rfl (aE (aC rfl) rfl rfl (op_gtr (aC rfl) rfl rfl rfl (aA (aB (s_12 (aO rfl (fun c32=>?_) (fun c32=>?_))))))))))))
   ·refine At.region (aE (aC rfl) rfl rfl (aD (aC rfl) rfl rfl (aA (bC (aB (s_10 (At.region (aE (aC rfl) rfl rfl (bI (aC rfl) rfl rfl (by omega) (by omega) rfl (aD (aC rfl) rfl rfl (aA (aB ?_))))))))))))
    refine At.back ?_ (.refl _) ⟨k+1,min (its[k]).depth (left- 1),rfl,rfl,rfl,by omega,by rw [hts];omega⟩ ?_
    ·exact .cons (by first|exact a6 rfl (by omega)|rfl) (.cons (by first|exact a6 rfl (by omega)|rfl) (.cons (by first|exact a6 rfl (by omega)|rfl) (.cons (by first|exact a6 rfl (by omega)|rfl) .nil)))
    ·omega
   refine At.skip (bC (aB (s_10 (At.region (aE (aC rfl) rfl rfl (bI (aC rfl) rfl rfl (by omega) (by omega) rfl (aD (aC rfl) rfl rfl (aA (aB ?_)))))))))
   refine At.back ?_ (.refl _) ⟨k+1,d,rfl,rfl,rfl,by omega,by rw [hts];omega⟩ ?_
   ·exact .cons (by first|exact a6 rfl (by omega)|rfl) (.cons (by first|exact a6 rfl (by omega)|rfl) (.cons (by first|exact a6 rfl (by omega)|rfl) (.cons (by first|exact a6 rfl (by omega)|rfl) .nil)))
   ·omega
  refine At.exit (aM (aM (At.inHit (aB (s_6 (At.seq fun _ s_13=>At.region (aE (aC rfl) rfl rfl (bI (aC rfl) rfl rfl (by omega) (by omega) rfl (aD (aC rfl) rfl rfl (aA (aB (s_13 (At.ret ((At.sub (L':= [R]) (.cons _ (.cons_cons _ (.slnil))) (aW (L1:= []) rfl (.tmp rfl .nil) (.refl _) (.refl _) ?_))))))))))))))))
  obtain rfl:k=its.length:=by omega
  rw [List.take_length]at hd2
  exact⟨congrArg (Value.int .i64) (by rw [hd];omega),rfl⟩
theorem form_f (t:It): ∀(N:Heaplet) (x:IV),ItN N t x→t.form.length≤1099511627776→Fn Tryz.prog 109 #[.agg #[.bool x.l,.slice x.ab x.nb x.cb,.slice x.ai x.ni x.ci]] [] [N] (fun v L=> ∃M a cap,v=.slice a t.form.length cap∧L= [M]∧Row M 5 1 a t.form.length cap (u8s t.form)):=by
 induction t using It.ind_it with|h l bs its ih=>?_
 intro N x h hlen
 simp only [ItN]at h
 obtain⟨rfl,h1,xs,hI,hX⟩:=h
 have hn:xs.length=x.ni:=by have:=hI.1;rw [length_cellsI]at this;omega
 have hn2:=hX.length
 have hcap:=hI.cap63
 cases hb:x.l with
 |false=>
  rw [hb]at hlen
  have hnb:=h1.len8
  have hcb:=h1.cap63
  have hf:=form_false bs its
  have hsm:= @small_iffI bs
  have hub:small bs≠true→(rlpHead 128 x.nb).length+x.nb≤1099511627776:=fun e=>by rw [hf,if_neg e,List.length_append,hnb]at hlen;exact hlen
  refine Fn.enter (vs:= [.agg #[.bool false,.slice x.ab x.nb x.cb,.slice x.ai x.ni x.ci]]) Tryz.func109 rfl rfl rfl ?_
  intro E R hR
  have h1:=h1.le (hR N (by simp))
  change At _ _ E [R] _
  refine At.seq fun _ s_1=>At.region (op_box (aT rfl) rfl rfl rfl (fun N1 b1 B1=>aD (aC rfl) rfl rfl (aA (aB (s_1 (At.seq fun _ s_2=>At.seq fun _ s_3=>At.region (aF (aC rfl) fl91_0 rfl rfl (aL (aC rfl) sc4 rfl B1 (by first|rfl) aP rfl ?_))))))))
  refine op_not (aC rfl) rfl rfl (aA (aB (s_3 (At.condT rfl (At.seq fun _ s_4=>At.seq fun _ s_5=>At.region (aF (aC rfl) fl91_1 rfl rfl (aL (aC rfl) sc22 rfl B1 (by first|rfl) aP rfl ?_)))))))
  refine a7 (aC rfl) se22 rfl rfl (op_eql (aC rfl) rfl rfl rfl (aE (aC rfl) rfl rfl (At.partP (d:=12) rfl (fun g12=>?_) (fun g12=>?_))))
  ·refine aF (bF rfl rfl rfl rfl) fl91_1 rfl rfl (aL (bF rfl rfl rfl rfl) sc22 rfl B1 (by first|rfl) aP rfl ?_)
   refine op_idx1 (bF rfl rfl rfl rfl) se22 rfl rfl (by assumption) (show _=(((0:Nat)):Int)from by omega) (by omega) rfl ?_
   refine bK (bF rfl rfl rfl rfl) sc5 rfl (by assumption) (by first|exact get8 (by omega)|exact get64 (by omega)|exact get32 (by omega)) (by first|exact aP|exact bM|exact mem2|exact mem3|exact mem4|exact mem5|exact mem6|exact mem7|exact mem8|exact mem9) rfl ?_
   refine op_lss (bF rfl rfl rfl rfl) rfl rfl rfl (bN (aC rfl) rfl rfl rfl (aA (aB (s_5 (aO rfl (fun c18=>?_) (fun c18=>?_))))))
   ·refine At.seq fun _ s_6=>At.region (op_lit (aT rfl) Tryz.underlying22 ze5 sz5 .nil rfl rfl (by simp [Value.cells]) rfl rfl rfl (fun N19 a19 r19=>?_))
    simp only [flatV,List.flatMap_cons,List.flatMap_nil,Value.cells,List.append_nil,List.cons_append,List.nil_append]at r19
    have s19:=r19.rsl
    refine aF (aC rfl) fl91_1 rfl rfl (aL (aC rfl) sc22 rfl B1 (by first|rfl) bM rfl ?_)
    refine op_append (nxl rfl) Tryz.underlying22 Tryz.underlying22 te5 rfl rfl r19 (by assumption) (by first|exact aP|exact bM|exact mem2|exact mem3|exact mem4|exact mem5|exact mem6|exact mem7|exact mem8|exact mem9) (by first|exact one_u8s _|exact one_u64s _|exact one_u32s _|(intro u hu;simp at hu;subst hu;rfl)) (by omega) (by omega) sel0 rfl (fun N22 a22 p22 r22=>?_)
    have s22:=r22.rsl
    refine aD (aC rfl) rfl rfl (aA (aB (s_6 (At.ret (aJ (aJ ((At.sub (L':= [N22,R]) (.cons_cons _ (.cons _ (.cons_cons _ (.slnil)))) (aW (L1:= [N22]) rfl (.tmp rfl .nil) (.refl _) (.refl _) ?_)))))))))
    have e:(It.mk false bs its).form=bs:=by rw [hf,if_pos (hsm.2 ⟨by omega,by omega⟩)]
    rw [List.nil_append,Nat.zero_add]at r22
    exact⟨N22,a22,p22,by rw [e,hnb,Nat.zero_add],rfl,by rw [e,hnb];exact r22⟩
   refine At.skip (aB (s_4 (At.seq fun _ s_7=>At.drawn [6] [0,1,2,4,5,3,6,7] (by kernel_rfl) (by kernel_rfl) (aF (aR rfl rfl rfl (by kernel_rfl)) fl91_1 rfl rfl (aL (aR rfl rfl rfl (by kernel_rfl)) sc22 rfl B1 (by first|rfl) aP rfl ?_)))))
   refine a7 (aR rfl rfl rfl (by kernel_rfl)) se22 rfl rfl (aF (aR rfl rfl rfl (by kernel_rfl)) fl91_1 rfl rfl (aL (aR rfl rfl rfl (by kernel_rfl)) sc22 rfl B1 (by first|rfl) aP rfl ?_))
   have hub':=hub (fun e=>by have:=hsm.1 e;omega)
   refine aG (nxoa rfl rfl rfl) (.cons rfl (.cons rfl .nil)) (rhead_f 128 x.nb (by omega) (by omega)) Tryz.func151 rfl rfl (by simp) rfl ?_
   rintro v26 L26 ⟨M26,a26,p26,rfl,rfl,r26⟩
   change At _ _ _ [M26,N1,R] _
   refine op_append (nxos rfl rfl rfl rfl) Tryz.underlying22 Tryz.underlying22 te5 rfl rfl r26 (by assumption) (by first|exact aP|exact bM|exact mem2|exact mem3|exact mem4|exact mem5|exact mem6|exact mem7|exact mem8|exact mem9) (by first|exact one_u8s _|exact one_u64s _|exact one_u32s _|(intro u hu;simp at hu;subst hu;rfl)) (by omega) (by omega) sel0 rfl (fun N29 a29 p29 r29=>?_)
   have s29:=r29.rsl
   refine aD (aR rfl rfl rfl (by kernel_rfl)) rfl rfl (At.oneNil (aB (s_7 (At.ret (aJ ((At.sub (L':= [N29,R]) (.cons_cons _ (.cons _ (.cons_cons _ (.slnil)))) (aW (L1:= [N29]) rfl (.tmp rfl .nil) (.refl _) (.refl _) ?_))))))))
   have e:(It.mk false bs its).form=rlpHead 128 x.nb++bs:=by rw [hf,if_neg (fun e=>by have:=hsm.1 e;omega),hnb]
   exact⟨N29,a29,p29,by rw [e,List.length_append,hnb],rfl,by rw [e,List.length_append,hnb,u8s,List.map_append];exact r29⟩
  refine aN rfl rfl rfl rfl rfl rfl rfl (aN rfl rfl rfl rfl rfl rfl rfl (aN rfl rfl rfl rfl rfl rfl rfl (aN rfl rfl rfl rfl rfl rfl rfl (aN rfl rfl rfl rfl rfl rfl rfl (op_pickF (aC rfl) rfl rfl rfl (aA (aB (s_5 (At.condF rfl (At.skip (aB (s_4 (At.seq fun _ s_8=>At.drawn [6] [0,1,2,4,5,3,6,7] (by kernel_rfl) (by kernel_rfl) (aF (aR rfl rfl rfl (by kernel_rfl)) fl91_1 rfl rfl (aL (aR rfl rfl rfl (by kernel_rfl)) sc22 rfl B1 (by first|rfl) aP rfl ?_)))))))))))))))
  refine a7 (aR rfl rfl rfl (by kernel_rfl)) se22 rfl rfl (aF (aR rfl rfl rfl (by kernel_rfl)) fl91_1 rfl rfl (aL (aR rfl rfl rfl (by kernel_rfl)) sc22 rfl B1 (by first|rfl) aP rfl ?_))
  have hub':=hub (fun e=>by have:=hsm.1 e;omega)
  refine aG (nxoa rfl rfl rfl) (.cons rfl (.cons rfl .nil)) (rhead_f 128 x.nb (by omega) (by omega)) Tryz.func151 rfl rfl (by simp) rfl ?_
  rintro v26 L26 ⟨M26,a26,p26,rfl,rfl,r26⟩
  change At _ _ _ [M26,N1,R] _
  refine op_append (nxos rfl rfl rfl rfl) Tryz.underlying22 Tryz.underlying22 te5 rfl rfl r26 (by assumption) (by first|exact aP|exact bM|exact mem2|exact mem3|exact mem4|exact mem5|exact mem6|exact mem7|exact mem8|exact mem9) (by first|exact one_u8s _|exact one_u64s _|exact one_u32s _|(intro u hu;simp at hu;subst hu;rfl)) (by omega) (by omega) sel0 rfl (fun N29 a29 p29 r29=>?_)
  have s29:=r29.rsl
  refine aD (aR rfl rfl rfl (by kernel_rfl)) rfl rfl (At.oneNil (aB (s_8 (At.ret (aJ ((At.sub (L':= [N29,R]) (.cons_cons _ (.cons _ (.cons_cons _ (.slnil)))) (aW (L1:= [N29]) rfl (.tmp rfl .nil) (.refl _) (.refl _) ?_))))))))
  have e:(It.mk false bs its).form=rlpHead 128 x.nb++bs:=by rw [hf,if_neg (fun e=>by have:=hsm.1 e;omega),hnb]
  exact⟨N29,a29,p29,by rw [e,List.length_append,hnb],rfl,by rw [e,List.length_append,hnb,u8s,List.map_append];exact r29⟩
 |true=>
  rw [hb]at hlen
  have hf:=form_true bs its
  have hlf:(rlpHead 192 (It.forms its).length).length+(It.forms its).length≤1099511627776:=by rw [hf,List.length_append]at hlen;exact hlen
  refine Fn.enter (vs:= [.agg #[.bool true,.slice x.ab x.nb x.cb,.slice x.ai x.ni x.ci]]) Tryz.func109 rfl rfl rfl ?_
  intro E R hR
  have hI:=hI.le (hR N (by simp))
  have hX:=hX.le (hR N (by simp))
  change At _ _ E [R] _
  refine At.seq fun _ s_1=>At.region (op_box (aT rfl) rfl rfl rfl (fun N1 b1 B1=>aD (aC rfl) rfl rfl (aA (aB (s_1 (At.seq fun _ s_2=>At.seq fun _ s_3=>At.region (aF (aC rfl) fl91_0 rfl rfl (aL (aC rfl) sc4 rfl B1 (by first|rfl) aP rfl ?_))))))))
  refine op_not (aC rfl) rfl rfl (aA (aB (s_3 (At.condF rfl (At.skip (aB (s_2 (At.seq fun _ s_4=>At.region (aD (aC rfl) rfl rfl (aA (aB (s_4 (At.seq fun _ s_5=>At.seq fun _ s_6=>At.region (aD (aC rfl) rfl rfl (aA (aB (s_6 (At.block (At.empty (At.perm sel2 (At.perm sel1 ?_)))))))))))))))))))))
  refine At.perm sel2 (At.loop (fun fr_ hp_ ms_=> ∃(k np:Nat) (ap:Option Addr) (cp:Nat) (Np:Heaplet),fr_= [(1,.pointer (some ⟨b1,0,none⟩)),(3,.slice ap np cp),(4,.int .i64 (k:Int))]∧hp_= [N1,Np,R]∧x.ni- k=ms_∧(k≤x.ni)∧(np=(It.forms (its.take k)).length)∧(Row Np 5 1 ap np cp (u8s (It.forms (its.take k))))) ?_ (.refl _) ⟨0,0,none,0,nilH,rfl,rfl,rfl,by omega,by simp [It.forms],by simpa [It.forms,u8s]using Row.nil nilH 5 1⟩ ?_)
  ·exact .cons (by first|exact a6 rfl (by omega)|rfl) (.cons (by first|exact a6 rfl (by omega)|rfl) (.cons (by first|exact a6 rfl (by omega)|rfl) .nil))
  rintro _ _ _ ⟨k,np,ap,cp,Np,rfl,rfl,rfl,hk,hnp,rp⟩
  have sp:=rp.rsl
  have hle:=forms_take_le its k
  refine At.seq fun _ s_7=>At.seq fun _ s_8=>At.region (aE (aC rfl) rfl rfl (aF (aC rfl) fl91_2 rfl rfl (aL (aC rfl) sc89 rfl B1 (by first|rfl) aP rfl ?_)))
  refine a7 (aC rfl) se89 rfl rfl (op_lss (aC rfl) rfl rfl rfl (aA (aB (s_8 (aO rfl (fun c34=>?_) (fun c34=>?_))))))
  ·have hlt:k<its.length:=by omega
   obtain⟨y,hy,hi⟩:=hX.get (List.getElem?_eq_getElem hlt)
   have hts:=forms_take_succ (List.getElem?_eq_getElem hlt)
   have hfe:=form_le (List.getElem_mem hlt)
   have hle2:=forms_take_le its (k+1)
   have hsum:np+(its[k]).form.length≤(It.forms its).length:=by rw [hts,List.length_append]at hle2;omega
   refine At.skip (aB (s_7 (At.seq fun _ s_9=>At.block (At.region (aE (aC rfl) rfl rfl (aF (aC rfl) fl91_2 rfl rfl (aL (aC rfl) sc89 rfl B1 (by first|rfl) aP rfl ?_)))))))
   refine aE (aC rfl) rfl rfl (op_idxE (aC rfl) se89 rfl rfl (by assumption) (show _=(((k:Nat)):Int)from by omega) (by omega) rfl ?_)
   refine op_loadAggE (aC rfl) ag91 rfl (by assumption) (by exact cells_at hy) (by rfl) (by omega) (by first|exact aP|exact bM|exact mem2|exact mem3|exact mem4|exact mem5|exact mem6|exact mem7|exact mem8|exact mem9) rfl ?_
   refine aG (aT rfl) (.cons rfl .nil) (ih its[k] (List.getElem_mem hlt) R y hi (by omega)) Tryz.func109 rfl rfl (by simp) rfl ?_
   rintro v43 L43 ⟨M43,a43,p43,rfl,rfl,r43⟩
   change At _ _ _ [M43,N1,Np,R] _
   have s43:=r43.rsl
   refine op_append (nxl rfl) Tryz.underlying22 Tryz.underlying22 te5 rfl rfl rp (by assumption) (by first|exact aP|exact bM|exact mem2|exact mem3|exact mem4|exact mem5|exact mem6|exact mem7|exact mem8|exact mem9) (by first|exact one_u8s _|exact one_u64s _|exact one_u32s _|(intro u hu;simp at hu;subst hu;rfl)) (by omega) (by omega) sel2 rfl (fun N44 a44 p44 r44=>?_)
   have s44:=r44.rsl
   refine aD (aC rfl) rfl rfl (aA (bC (aB (s_9 (At.region (aE (aC rfl) rfl rfl (bI (aC rfl) rfl rfl (by omega) (by omega) rfl (aD (aC rfl) rfl rfl (aA (aB (At.sub (L':= [N44,N1,R]) (.cons_cons _ (.cons _ (.cons_cons _ (.cons_cons _ (.slnil))))) (At.perm sel2 (At.perm sel1 (At.perm sel2 ?_))))))))))))))
   refine At.back ?_ (.refl _) ⟨k+1,np+(its[k]).form.length,a44,p44,N44,rfl,rfl,rfl,by omega,by rw [hts,List.length_append,hnp],by rw [hts,u8s,List.map_append];exact r44⟩ ?_
   ·exact .cons (by first|exact a6 rfl (by omega)|rfl) (.cons (by first|exact a6 rfl (by omega)|rfl) (.cons (by first|exact a6 rfl (by omega)|rfl) .nil))
   ·omega
  refine At.exit (aM (aM (At.inHit (aB (s_5 (At.seq fun _ s_10=>At.region (aE (aC rfl) rfl rfl (a7 (aC rfl) se22 rfl rfl (aG (aT rfl) (.cons rfl (.cons rfl .nil)) (rhead_f 192 np (by omega) (by omega)) Tryz.func151 rfl rfl (by simp) rfl ?_)))))))))
  rintro v47 L47 ⟨M47,a47,p47,rfl,rfl,r47⟩
  change At _ _ _ [M47,N1,Np,R] _
  refine aE (aC rfl) rfl rfl ?_
  have h9:=rlpHead_le 192 np (by omega)
  refine op_append (nxl rfl) Tryz.underlying22 Tryz.underlying22 te5 rfl rfl r47 (by assumption) (by first|exact aP|exact bM|exact mem2|exact mem3|exact mem4|exact mem5|exact mem6|exact mem7|exact mem8|exact mem9) (by first|exact one_u8s _|exact one_u64s _|exact one_u32s _|(intro u hu;simp at hu;subst hu;rfl)) (by omega) (by omega) sel0 rfl (fun N49 a49 p49 r49=>?_)
  have s49:=r49.rsl
  refine aD (aC rfl) rfl rfl (aA (aB (s_10 (At.ret ((At.sub (L':= [N49,R]) (.cons_cons _ (.cons _ (.cons _ (.cons_cons _ (.slnil))))) (aW (L1:= [N49]) rfl (.tmp rfl .nil) (.refl _) (.refl _) ?_)))))))
  obtain rfl:k=its.length:=by omega
  rw [List.take_length]at hnp r49
  subst hnp
  exact⟨N49,a49,p49,by rw [hf,List.length_append],rfl,by rw [hf,List.length_append,u8s,List.map_append];exact r49⟩
end Go.Proofs.YtjfagifjajielaaGreat
/- quarrykeep.Twin, and quarrylaw05's nested, Twin, cut. No condition. -/
namespace Go.Proofs.YtjfagifjajielaaGreat
open Go Go.RowKit
theorem KTwin_f {N:Heaplet} {ao:Option Addr} {n cap:Nat} {l:List UInt8} (h:RSl N 1 ao n cap (u8s l)) (m:Nat) (q:Int) (hq:q=(m:Int)) (hm:m≤140737488351232):
 Fn Tryz.prog 6 #[.slice ao n cap,.int .i64 q] [] [N] (fun v L=> ∃M a c,v=.slice a (l.take m).length c∧L= [M]∧Row M 5 1 a (l.take m).length c (u8s (l.take m))):=by
 have hlen:=h.len8
 have hcap:=h.cap63
 refine Fn.enter (vs:= [.slice ao n cap,.int .i64 q]) Tryz.func6 rfl rfl rfl ?_
 intro E R hR
 have h:=h.le (hR N (by simp))
 change At _ _ E [R] _
 refine At.seq fun _ s_1=>At.region (aD (aC rfl) rfl rfl (aA (aB (s_1 (At.seq fun _ s_2=>At.seq fun _ s_3=>At.region (aE (aC rfl) rfl rfl (a7 (aC rfl) se22 rfl rfl (aE (aC rfl) rfl rfl (op_gtr (aC rfl) rfl rfl rfl (aA (aB (s_3 (aO rfl (fun c8=>?_) (fun c8=>?_))))))))))))))
 ·refine At.region (aE (aC rfl) rfl rfl (aE (aC rfl) rfl rfl (op_slice0 (aC rfl) se22 rfl (.some rfl (show _=(((m:Nat)):Int)from by omega)) .none (by omega) (by omega) (by simp) rfl ?_)))
  have s11:=h.take8 (hi:=m) (m:=cap) (by omega) (by omega) (by omega)
  refine aD (aC rfl) rfl rfl (aA (aB (s_2 (At.seq fun _ s_4=>At.region (op_lit (aT rfl) Tryz.underlying22 ze5 sz5 .nil rfl rfl (by simp [Value.cells]) rfl rfl rfl (fun N12 a12 r12=>?_))))))
  simp only [flatV,List.flatMap_cons,List.flatMap_nil,Value.cells,List.append_nil,List.cons_append,List.nil_append]at r12
  have s12:=r12.rsl
  refine aE (aC rfl) rfl rfl ?_
  refine op_append (nxl rfl) Tryz.underlying22 Tryz.underlying22 te5 rfl rfl r12 (by assumption) (by first|exact aP|exact bM|exact mem2|exact mem3|exact mem4|exact mem5|exact mem6|exact mem7|exact mem8|exact mem9) (by first|exact one_u8s _|exact one_u64s _|exact one_u32s _|(intro u hu;simp at hu;subst hu;rfl)) (by omega) (by omega) sel0 rfl (fun N14 a14 p14 r14=>?_)
  have s14:=r14.rsl
  refine aD (aC rfl) rfl rfl (aA (aB (s_4 (At.ret ((aW (L1:= [N14]) rfl (.tmp rfl .nil) (.refl _) (.refl _) ?_))))))
  rw [List.nil_append,Nat.zero_add]at r14
  exact⟨N14,a14,p14,by rw [List.length_take,hlen,Nat.min_eq_left (by omega),Nat.zero_add],rfl,by rw [List.length_take,hlen,Nat.min_eq_left (by omega)];exact r14⟩
 refine At.skip (aB (s_2 (At.seq fun _ s_5=>At.region (op_lit (aT rfl) Tryz.underlying22 ze5 sz5 .nil rfl rfl (by simp [Value.cells]) rfl rfl rfl (fun N12 a12 r12=>?_)))))
 simp only [flatV,List.flatMap_cons,List.flatMap_nil,Value.cells,List.append_nil,List.cons_append,List.nil_append]at r12
 have s12:=r12.rsl
 refine aE (aC rfl) rfl rfl ?_
 refine op_append (nxl rfl) Tryz.underlying22 Tryz.underlying22 te5 rfl rfl r12 (by assumption) (by first|exact aP|exact bM|exact mem2|exact mem3|exact mem4|exact mem5|exact mem6|exact mem7|exact mem8|exact mem9) (by first|exact one_u8s _|exact one_u64s _|exact one_u32s _|(intro u hu;simp at hu;subst hu;rfl)) (by omega) (by omega) sel0 rfl (fun N14 a14 p14 r14=>?_)
 have s14:=r14.rsl
 refine aD (aC rfl) rfl rfl (aA (aB (s_5 (At.ret ((aW (L1:= [N14]) rfl (.tmp rfl .nil) (.refl _) (.refl _) ?_))))))
 rw [List.nil_append,Nat.zero_add]at r14
 have e:l.take m=l:=List.take_of_length_le (by omega)
 exact⟨N14,a14,p14,by rw [e,hlen,Nat.zero_add],rfl,by rw [e,hlen];exact r14⟩
/-- So many lists around an item. -/
def nestN:Nat→It→It
 |0,t=>t
 |k+1,t=>.mk true [] [nestN k t]
end Go.Proofs.YtjfagifjajielaaGreat
/- quarrylaw05.RlpEnvelope answers true. No condition. -/
namespace Go.Proofs.YtjfagifjajielaaGreat
open Go Go.RowKit
/-- Kind and body. -/
def envF (b:List UInt8):Option (Nat×List UInt8):=
 if b.length=0∨(128≤(b.getD 0 0).toNat∧(b.getD 0 0).toNat<192)then none
 else if 192≤(b.getD 0 0).toNat then some (0,b)
 else some ((b.getD 0 0).toNat,b.drop 1)
/-- What is told of it. -/
def EnvP (N:Heaplet) (r:Option (Nat×List UInt8)) (v:Value):Prop:=
 (r=none∧v=.tuple #[.int .i64 0,.slice none 0 0,.int .i64 2])∨
 (∃k p a c,r=some (k,p)∧v=.tuple #[.int .i64 (k:Int),.slice a p.length c,.int .i64 0]∧RSl N 1 a p.length c (u8s p))
theorem EnvP.mk {N:Heaplet} {r:Option (Nat×List UInt8)} {k n c:Nat} {q:Int} {a:Option Addr} {p:List UInt8} (hr:r=some (k,p)) (hq:q=(k:Int)) (h:RSl N 1 a n c (u8s p)):EnvP N r (.tuple #[.int .i64 q,.slice a n c,.int .i64 0]):=by
 have e:=h.len8
 subst e;subst hq
 exact .inr ⟨k,p,a,c,hr,rfl,h⟩
theorem Envelope_f {N:Heaplet} {ao:Option Addr} {n cap:Nat} {b:List UInt8} (h:RSl N 1 ao n cap (u8s b)) (hn:n≤1099511627776):
 Fn Tryz.prog 29 #[.slice ao n cap] [] [N] (fun v L=>(L= []∧envF b=none∧v=.tuple #[.int .i64 0,.slice none 0 0,.int .i64 2])∨ ∃M k p a c,L= [M]∧envF b=some (k,p)∧v=.tuple #[.int .i64 (k:Int),.slice a p.length c,.int .i64 0]∧RSl M 1 a p.length c (u8s p)):=by
 have hlen:=h.len8
 have hcap:=h.cap63
 have ok: ∀ {M:Heaplet} {k n c:Nat} {q:Int} {a:Option Addr} {p:List UInt8},envF b=some (k,p)→q=(k:Int)→RSl M 1 a n c (u8s p)→
  ∃M' k p a' c',[M]= [M']∧envF b=some (k,p)∧(Value.tuple #[.int .i64 q,.slice a n c,.int .i64 0])=.tuple #[.int .i64 (k:Int),.slice a' p.length c',.int .i64 0]∧RSl M' 1 a' p.length c' (u8s p):=by
  intro M k n c q a p hr hq h
  have e:=h.len8
  subst e;subst hq
  exact⟨M,k,p,a,c,rfl,hr,rfl,h⟩
 refine Fn.enter (vs:= [.slice ao n cap]) Tryz.func29 rfl rfl rfl ?_
 intro E R hR
 have h:=h.le (hR N (by simp))
 change At _ _ E [R] _
 refine At.seq fun _ s_1=>At.region (aD (aC rfl) rfl rfl (aD (aC rfl) rfl rfl (aD (aC rfl) rfl rfl (aA (aB (s_1 (At.seq fun _ s_2=>At.block (At.seq fun _ s_3=>At.region (aE (aC rfl) rfl rfl (a7 (aC rfl) se22 rfl rfl (op_eql (aC rfl) rfl rfl rfl (aE (aC rfl) rfl rfl (At.partP (d:=9) rfl (fun g9=>?_) (fun g9=>?_))))))))))))))
 ·refine aN rfl rfl rfl rfl rfl rfl rfl (aN rfl rfl rfl rfl rfl rfl rfl (aN rfl rfl rfl rfl rfl rfl rfl (aN rfl rfl rfl rfl rfl rfl rfl (aN rfl rfl rfl rfl rfl rfl rfl (op_skipU rfl rfl rfl rfl rfl rfl (op_skipU rfl rfl rfl rfl rfl rfl (op_skipU rfl rfl rfl rfl rfl rfl (op_skipU rfl rfl rfl rfl rfl rfl (aN rfl rfl rfl rfl rfl rfl rfl (bN (aC rfl) rfl rfl rfl (aD (aC rfl) rfl rfl (aA (aB (s_3 (At.condT rfl (At.seq fun _ s_4=>At.region (aD (aC rfl) rfl rfl (aD (aC rfl) rfl rfl (aD (aC rfl) rfl rfl (aA ?_))))))))))))))))))))
  refine aB (s_4 (At.ret (bP (aJ ((aU (L1:= []) rfl (.tmp rfl (.tmp rfl (.tmp rfl .nil))) rfl (.refl _) (.refl _) ?_))))))
  exact .inl ⟨rfl,by rw [envF,if_pos (by omega)],rfl⟩
 refine aE (bF rfl rfl rfl rfl) rfl rfl (op_idx1 (bF rfl rfl rfl rfl) se22 rfl rfl (by assumption) (show _=((0:Nat):Int)from rfl) (by omega) rfl ?_)
 refine bK (bF rfl rfl rfl rfl) sc5 rfl (by assumption) (by first|exact get8 (by omega)|exact get64 (by omega)|exact get32 (by omega)) (by first|exact aP|exact bM|exact mem2|exact mem3|exact mem4|exact mem5|exact mem6|exact mem7|exact mem8|exact mem9) rfl ?_
 refine op_geq (bF rfl rfl rfl rfl) rfl rfl rfl (aE (bF rfl rfl rfl rfl) rfl rfl (At.partP (d:=14) rfl (fun g14=>?_) (fun g14=>?_)))
 ·refine aE (bF rfl rfl rfl rfl) rfl rfl (op_idx1 (bF rfl rfl rfl rfl) se22 rfl rfl (by assumption) (show _=((0:Nat):Int)from rfl) (by omega) rfl ?_)
  refine bK (bF rfl rfl rfl rfl) sc5 rfl (by assumption) (by first|exact get8 (by omega)|exact get64 (by omega)|exact get32 (by omega)) (by first|exact aP|exact bM|exact mem2|exact mem3|exact mem4|exact mem5|exact mem6|exact mem7|exact mem8|exact mem9) rfl ?_
  refine op_lss (bF rfl rfl rfl rfl) rfl rfl rfl (bN (bF rfl rfl rfl rfl) rfl rfl rfl (op_pickF (aC rfl) rfl rfl rfl (aD (aC rfl) rfl rfl (aA (aB (s_3 (aO rfl (fun c5=>?_) (fun c5=>?_))))))))
  ·refine At.seq fun _ s_5=>At.region (aD (aC rfl) rfl rfl (aD (aC rfl) rfl rfl (aD (aC rfl) rfl rfl (aA (aB (s_5 (At.ret (bP (aJ ((aU (L1:= []) rfl (.tmp rfl (.tmp rfl (.tmp rfl .nil))) rfl (.refl _) (.refl _) ?_)))))))))))
   exact .inl ⟨rfl,by rw [envF,if_pos (by omega)],rfl⟩
  refine At.seq fun _ s_6=>At.region (aE (aC rfl) rfl rfl (op_idx1 (aC rfl) se22 rfl rfl (by assumption) (show _=((0:Nat):Int)from rfl) (by omega) rfl ?_))
  refine bK (aC rfl) sc5 rfl (by assumption) (by first|exact get8 (by omega)|exact get64 (by omega)|exact get32 (by omega)) (by first|exact aP|exact bM|exact mem2|exact mem3|exact mem4|exact mem5|exact mem6|exact mem7|exact mem8|exact mem9) rfl ?_
  refine op_geq (aC rfl) rfl rfl rfl (aD (aC rfl) rfl rfl (aA (aB (s_6 (aO rfl (fun c21=>?_) (fun c21=>?_))))))
  ·refine At.seq fun _ s_7=>At.region (aE (aC rfl) rfl rfl ?_)
   refine op_append0 (aT rfl) Tryz.underlying22 Tryz.underlying22 te5 rfl rfl (by assumption) (by first|exact aP|exact bM|exact mem2|exact mem3|exact mem4|exact mem5|exact mem6|exact mem7|exact mem8|exact mem9) (by first|exact one_u8s _|exact one_u64s _|exact one_u32s _|(intro u hu;simp at hu;subst hu;rfl)) (by omega) (by omega) rfl (fun N27 a27 p27 r27=>?_)
   have s27:=r27.rsl
   refine aD (aC rfl) rfl rfl (aD (aC rfl) rfl rfl (aD (aC rfl) rfl rfl (aA (aB (s_7 (At.ret (bP (aJ ((aU (L1:= [N27]) rfl (.tmp rfl (.tmp rfl (.tmp rfl .nil))) rfl (.refl _) (.refl _) ?_))))))))))
   exact .inr (ok (by rw [envF,if_neg (by omega),if_pos (by omega)]) rfl r27.rsl)
  refine At.skip (bC (aB (s_2 (At.seq fun _ s_8=>At.drawn [] [0,1,2,3,4,5,6,7,8,9] (by kernel_rfl) (by kernel_rfl) (aE (aR rfl rfl rfl (by kernel_rfl)) rfl rfl (op_idx1 (aR rfl rfl rfl (by kernel_rfl)) se22 rfl rfl (by assumption) (show _=((0:Nat):Int)from rfl) (by omega) rfl ?_))))))
  refine bK (aR rfl rfl rfl (by kernel_rfl)) sc5 rfl (by assumption) (by first|exact get8 (by omega)|exact get64 (by omega)|exact get32 (by omega)) (by first|exact aP|exact bM|exact mem2|exact mem3|exact mem4|exact mem5|exact mem6|exact mem7|exact mem8|exact mem9) rfl ?_
  refine op_convI (aR rfl rfl rfl (by kernel_rfl)) (und_some Tryz.underlying5) Tryz.underlying3 rfl (by omega) (by omega) rfl (aE (aR rfl rfl rfl (by kernel_rfl)) rfl rfl (op_slice (aR rfl rfl rfl (by kernel_rfl)) se22 rfl (.some rfl (show _=((1:Nat):Int)from rfl)) .none .none (by omega) (by omega) (by omega) (by simp) rfl ?_))
  have s33:=h.drop8 (lo:=1) (by omega)
  refine op_append0 (nxoa rfl rfl rfl) Tryz.underlying22 Tryz.underlying22 te5 rfl rfl (by assumption) (by first|exact aP|exact bM|exact mem2|exact mem3|exact mem4|exact mem5|exact mem6|exact mem7|exact mem8|exact mem9) (by first|exact one_u8s _|exact one_u64s _|exact one_u32s _|(intro u hu;simp at hu;subst hu;rfl)) (by omega) (by omega) rfl (fun N34 a34 p34 r34=>?_)
  have s34:=r34.rsl
  refine aD (aR rfl rfl rfl (by kernel_rfl)) rfl rfl (aD (aR rfl rfl rfl (by kernel_rfl)) rfl rfl (aD (aR rfl rfl rfl (by kernel_rfl)) rfl rfl (At.oneNil (aB (s_8 (At.ret ((aU (L1:= [N34]) rfl (.tmp rfl (.tmp rfl (.tmp rfl .nil))) rfl (.refl _) (.refl _) ?_))))))))
  exfalso;omega
 refine aN rfl rfl rfl rfl rfl rfl rfl (aN rfl rfl rfl rfl rfl rfl rfl (aN rfl rfl rfl rfl rfl rfl rfl (aN rfl rfl rfl rfl rfl rfl rfl (op_pickF (bF rfl rfl rfl rfl) rfl rfl rfl (op_pickF (aC rfl) rfl rfl rfl (aD (aC rfl) rfl rfl (aA (aB (s_3 (At.condF rfl (At.seq fun _ s_9=>At.region (aE (aC rfl) rfl rfl (op_idx1 (aC rfl) se22 rfl rfl (by assumption) (show _=((0:Nat):Int)from rfl) (by omega) rfl ?_)))))))))))))
 refine bK (aC rfl) sc5 rfl (by assumption) (by first|exact get8 (by omega)|exact get64 (by omega)|exact get32 (by omega)) (by first|exact aP|exact bM|exact mem2|exact mem3|exact mem4|exact mem5|exact mem6|exact mem7|exact mem8|exact mem9) rfl ?_
 refine op_geq (aC rfl) rfl rfl rfl (aD (aC rfl) rfl rfl (aA (aB (s_9 (aO rfl (fun c21=>?_) (fun c21=>?_))))))
 ·refine At.seq fun _ s_10=>At.region (aE (aC rfl) rfl rfl ?_)
  refine op_append0 (aT rfl) Tryz.underlying22 Tryz.underlying22 te5 rfl rfl (by assumption) (by first|exact aP|exact bM|exact mem2|exact mem3|exact mem4|exact mem5|exact mem6|exact mem7|exact mem8|exact mem9) (by first|exact one_u8s _|exact one_u64s _|exact one_u32s _|(intro u hu;simp at hu;subst hu;rfl)) (by omega) (by omega) rfl (fun N27 a27 p27 r27=>?_)
  have s27:=r27.rsl
  refine aD (aC rfl) rfl rfl (aD (aC rfl) rfl rfl (aD (aC rfl) rfl rfl (aA (aB (s_10 (At.ret (bP (aJ ((aU (L1:= [N27]) rfl (.tmp rfl (.tmp rfl (.tmp rfl .nil))) rfl (.refl _) (.refl _) ?_))))))))))
  exfalso;omega
 refine At.skip (bC (aB (s_2 (At.seq fun _ s_11=>At.drawn [] [0,1,2,3,4,5,6,7,8,9] (by kernel_rfl) (by kernel_rfl) (aE (aR rfl rfl rfl (by kernel_rfl)) rfl rfl (op_idx1 (aR rfl rfl rfl (by kernel_rfl)) se22 rfl rfl (by assumption) (show _=((0:Nat):Int)from rfl) (by omega) rfl ?_))))))
 refine bK (aR rfl rfl rfl (by kernel_rfl)) sc5 rfl (by assumption) (by first|exact get8 (by omega)|exact get64 (by omega)|exact get32 (by omega)) (by first|exact aP|exact bM|exact mem2|exact mem3|exact mem4|exact mem5|exact mem6|exact mem7|exact mem8|exact mem9) rfl ?_
 refine op_convI (aR rfl rfl rfl (by kernel_rfl)) (und_some Tryz.underlying5) Tryz.underlying3 rfl (by omega) (by omega) rfl (aE (aR rfl rfl rfl (by kernel_rfl)) rfl rfl (op_slice (aR rfl rfl rfl (by kernel_rfl)) se22 rfl (.some rfl (show _=((1:Nat):Int)from rfl)) .none .none (by omega) (by omega) (by omega) (by simp) rfl ?_))
 have s33:=h.drop8 (lo:=1) (by omega)
 refine op_append0 (nxoa rfl rfl rfl) Tryz.underlying22 Tryz.underlying22 te5 rfl rfl (by assumption) (by first|exact aP|exact bM|exact mem2|exact mem3|exact mem4|exact mem5|exact mem6|exact mem7|exact mem8|exact mem9) (by first|exact one_u8s _|exact one_u64s _|exact one_u32s _|(intro u hu;simp at hu;subst hu;rfl)) (by omega) (by omega) rfl (fun N34 a34 p34 r34=>?_)
 have s34:=r34.rsl
 refine aD (aR rfl rfl rfl (by kernel_rfl)) rfl rfl (aD (aR rfl rfl rfl (by kernel_rfl)) rfl rfl (aD (aR rfl rfl rfl (by kernel_rfl)) rfl rfl (At.oneNil (aB (s_11 (At.ret ((aU (L1:= [N34]) rfl (.tmp rfl (.tmp rfl (.tmp rfl .nil))) rfl (.refl _) (.refl _) ?_))))))))
 exact .inr (ok (by rw [envF,if_neg (by omega),if_neg (by omega)]) rfl r34.rsl)
end Go.Proofs.YtjfagifjajielaaGreat
/- quarrylaw05.Same, the reference's Decode; quarrylaw05.RlpDecode answers true. No condition but that bytes are not longer than a machine holds. -/
namespace Go.Proofs.YtjfagifjajielaaGreat
open Go Go.RowKit
mutual
/-- The same item? -/
def It.same:It→It→Bool
 |.mk l bs its,.mk l' bs' its'=>decide (l=l')&&(decide (bs=bs')&&It.sames its its')
def It.sames:List It→List It→Bool
 | [],[]=>true
 |t::ts,u::us=>It.same t u&&It.sames ts us
 |_,_=>false
end
mutual
theorem It.same_self: ∀t:It,It.same t t=true
 |.mk l bs its=>by simp [It.same,It.sames_self its]
theorem It.sames_self: ∀ts:List It,It.sames ts ts=true
 | []=>by simp [It.sames]
 |t::ts=>by simp [It.sames,It.same_self t,It.sames_self ts]
end
end Go.Proofs.YtjfagifjajielaaGreat
