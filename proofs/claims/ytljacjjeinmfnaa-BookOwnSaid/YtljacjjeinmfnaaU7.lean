/- Several texts in one: see the remarks ahead of each part. No condition but those told there. -/
import Derived.Test.YtljacjjeinmfnaaU6
import Derived.Test.YtljacjjeinmfnaaU5
import Derived.Test.YtljacjjeinmfnaaU3
import Derived.Test.YtljacjjeinmfnaaU4
import Derived.Lib.Mul64
set_option linter.unusedSimpArgs false
set_option linter.unusedVariables false
/- rlp.encode, rlp.Encode write any item. No condition but that the form is not longer than a machine holds. -/
namespace Go.Proofs.Ytljacjjeinmfnaa
open Go Go.RowKit
set_option maxRecDepth 100000
theorem rlpHead_le (b n:Nat) (h:n<256^8):(rlpHead b n).length≤9:=by
 unfold rlpHead
 split
 ·simp
 ·have:=bytesOf_le h
  simp;omega
/-- What encode tells: the form, or that it is too deep. -/
def EncP (t:It) (lists:Nat) (v:Value) (L:List Heaplet):Prop:=
 (∃M a cap,v=.tuple #[.slice a t.form.length cap,.int .i64 0]∧L= [M]∧Row M 5 1 a t.form.length cap (u8s t.form)∧lists+t.depth≤1024)∨
 (v=.tuple #[.slice none 0 0,.int .i64 7]∧L= []∧ ¬lists+t.depth≤1024)
theorem encode_bs {N:Heaplet} {bs:List UInt8} {its:List It} {ab ai:Option Addr} {nb cb ni ci:Nat} (h:RSl N 1 ab nb cb (u8s bs)) (lists:Nat) (q:Int) (hl:lists≤1024) (hlen:(It.mk false bs its).form.length≤1099511627776):
 Fn Try.prog 115 #[.agg #[.bool false,.slice ab nb cb,.slice ai ni ci],.int .i64 q] [] [N] (EncP (.mk false bs its) lists):=by
 have hn:=h.len8
 have hcap:=h.cap63
 have hd:lists+(It.mk false bs its).depth≤1024:=by simpa [It.depth]using hl
 have hf:=form_false bs its
 have hsm:= @small_iffI bs
 have hub:small bs≠true→(rlpHead 128 nb).length+nb≤1099511627776:=fun e=>by rw [hf,if_neg e,List.length_append,hn]at hlen;exact hlen
 refine Fn.enter (vs:= [.agg #[.bool false,.slice ab nb cb,.slice ai ni ci],.int .i64 q]) Try.func115 rfl rfl rfl ?_
 intro E R hR
 have h:=h.le (hR N (by simp))
 change At _ _ E [R] _
 refine At.seq fun _ s_1=>At.region (op_box (aV rfl) rfl rfl rfl (fun N2 b2 B2=>aE (aC rfl) rfl rfl (aE (aC rfl) rfl rfl (aA (aB (s_1 (At.seq fun _ s_2=>At.seq fun _ s_3=>At.region (aF (aC rfl) fl92_0 rfl rfl (aH (aC rfl) sc4 rfl B2 (by first|rfl) aN rfl ?_)))))))))
 refine op_not (aC rfl) rfl rfl (aA (aB (s_3 (At.condT rfl (At.seq fun _ s_4=>At.seq fun _ s_5=>At.region (aF (aC rfl) fl92_1 rfl rfl (aH (aC rfl) sc27 rfl B2 (by first|rfl) aN rfl ?_)))))))
 refine bP (aC rfl) se27 rfl rfl (op_eql (aC rfl) rfl rfl rfl (aD (aC rfl) rfl rfl (bU (d:=18) rfl (fun g18=>?_) (fun g18=>?_))))
 ·refine aF (aS rfl rfl rfl rfl) fl92_1 rfl rfl (aH (aS rfl rfl rfl rfl) sc27 rfl B2 (by first|rfl) aN rfl ?_)
  refine op_idx1 (aS rfl rfl rfl rfl) se27 rfl rfl (by assumption) (show _=(((0:Nat)):Int)from by omega) (by omega) rfl ?_
  refine bS (aS rfl rfl rfl rfl) sc5 rfl (by assumption) (by first|exact get8 (by omega)|exact get64 (by omega)|exact get32 (by omega)) (by first|exact aN|exact bC|exact bV|exact mem3|exact mem4|exact mem5|exact mem6|exact mem7|exact mem8|exact mem9) rfl ?_
  refine op_lss (aS rfl rfl rfl rfl) rfl rfl rfl (bW (aC rfl) rfl rfl rfl (aA (aB (s_5 (aP rfl (fun c24=>?_) (fun c24=>?_))))))
  ·refine At.seq fun _ s_6=>At.region (aF (aC rfl) fl92_1 rfl rfl (aH (aC rfl) sc27 rfl B2 (by first|rfl) aN rfl ?_))
   refine op_idx1 (aC rfl) se27 rfl rfl (by assumption) (show _=((0:Nat):Int)from rfl) (by omega) rfl ?_
   refine bS (aC rfl) sc5 rfl (by assumption) (by first|exact get8 (by omega)|exact get64 (by omega)|exact get32 (by omega)) (by first|exact aN|exact bC|exact bV|exact mem3|exact mem4|exact mem5|exact mem6|exact mem7|exact mem8|exact mem9) rfl ?_
   refine op_lit (aV rfl) Try.underlying27 ze5 sz5 (.cons rfl .nil) rfl rfl (by simp [Value.cells]) rfl rfl rfl (fun N29 a29 r29=>?_)
   simp only [flatV,List.flatMap_cons,List.flatMap_nil,Value.cells,List.append_nil,List.cons_append,List.nil_append]at r29
   have s29:=r29.rsl
   refine aE (aC rfl) rfl rfl (aE (aC rfl) rfl rfl (aA (aB (s_6 (At.ret (aT (aT ((At.sub (L':= [N29,R]) (.cons_cons _ (.cons _ (.cons_cons _ (.slnil)))) (bF (L1:= [N29]) rfl (.tmp rfl (.tmp rfl .nil)) rfl (.refl _) (.refl _) ?_))))))))))
   have e:(It.mk false bs its).form= [bs.getD 0 0]:=by
    rw [hf,if_pos (hsm.2 ⟨by omega,by omega⟩)]
    exact one_eq (by omega)
   exact .inl ⟨N29,a29,1,by rw [e];rfl,rfl,by rw [e];exact r29,hd⟩
  refine At.skip (aB (s_4 (At.seq fun _ s_7=>At.drawn [6] [0,1,2,4,5,3,6,7,8] (by kernel_rfl) (by kernel_rfl) (aF (aY rfl rfl rfl (by kernel_rfl)) fl92_1 rfl rfl (aH (aY rfl rfl rfl (by kernel_rfl)) sc27 rfl B2 (by first|rfl) aN rfl ?_)))))
  refine bP (aY rfl rfl rfl (by kernel_rfl)) se27 rfl rfl (aF (aY rfl rfl rfl (by kernel_rfl)) fl92_1 rfl rfl (aH (aY rfl rfl rfl (by kernel_rfl)) sc27 rfl B2 (by first|rfl) aN rfl ?_))
  have hub':=hub (fun e=>by have:=hsm.1 e;omega)
  refine aR (nxoa rfl rfl rfl) (.cons rfl (.cons rfl .nil)) (head_f 128 nb (by omega) (by omega)) Try.func131 rfl rfl (by simp) rfl ?_
  rintro v33 L33 ⟨M33,a33,p33,rfl,rfl,r33⟩
  change At _ _ _ [M33,N2,R] _
  refine op_append (nxos rfl rfl rfl rfl) Try.underlying27 Try.underlying27 te5 rfl rfl r33 (by assumption) (by first|exact aN|exact bC|exact bV|exact mem3|exact mem4|exact mem5|exact mem6|exact mem7|exact mem8|exact mem9) (by first|exact one_u8s _|exact one_u64s _|exact one_u32s _|(intro u hu;simp at hu;subst hu;rfl)) (by omega) (by omega) sel0 rfl (fun N36 a36 p36 r36=>?_)
  have s36:=r36.rsl
  refine aE (aY rfl rfl rfl (by kernel_rfl)) rfl rfl (aE (aY rfl rfl rfl (by kernel_rfl)) rfl rfl (At.oneNil (aB (s_7 (At.ret (aT ((At.sub (L':= [N36,R]) (.cons_cons _ (.cons _ (.cons_cons _ (.slnil)))) (bF (L1:= [N36]) rfl (.tmp rfl (.tmp rfl .nil)) rfl (.refl _) (.refl _) ?_)))))))))
  have e:(It.mk false bs its).form=rlpHead 128 nb++bs:=by rw [hf,if_neg (fun e=>by have:=hsm.1 e;omega),hn]
  exact .inl ⟨N36,a36,p36,by rw [e,List.length_append,hn],rfl,by rw [e,List.length_append,hn,u8s,List.map_append];exact r36,hd⟩
 refine aJ rfl rfl rfl rfl rfl rfl rfl (aJ rfl rfl rfl rfl rfl rfl rfl (aJ rfl rfl rfl rfl rfl rfl rfl (aJ rfl rfl rfl rfl rfl rfl rfl (aJ rfl rfl rfl rfl rfl rfl rfl (bM (aC rfl) rfl rfl rfl (aA (aB (s_5 (At.condF rfl (At.skip (aB (s_4 (At.seq fun _ s_8=>At.drawn [6] [0,1,2,4,5,3,6,7,8] (by kernel_rfl) (by kernel_rfl) (aF (aY rfl rfl rfl (by kernel_rfl)) fl92_1 rfl rfl (aH (aY rfl rfl rfl (by kernel_rfl)) sc27 rfl B2 (by first|rfl) aN rfl ?_)))))))))))))))
 refine bP (aY rfl rfl rfl (by kernel_rfl)) se27 rfl rfl (aF (aY rfl rfl rfl (by kernel_rfl)) fl92_1 rfl rfl (aH (aY rfl rfl rfl (by kernel_rfl)) sc27 rfl B2 (by first|rfl) aN rfl ?_))
 have hub':=hub (fun e=>by have:=hsm.1 e;omega)
 refine aR (nxoa rfl rfl rfl) (.cons rfl (.cons rfl .nil)) (head_f 128 nb (by omega) (by omega)) Try.func131 rfl rfl (by simp) rfl ?_
 rintro v33 L33 ⟨M33,a33,p33,rfl,rfl,r33⟩
 change At _ _ _ [M33,N2,R] _
 refine op_append (nxos rfl rfl rfl rfl) Try.underlying27 Try.underlying27 te5 rfl rfl r33 (by assumption) (by first|exact aN|exact bC|exact bV|exact mem3|exact mem4|exact mem5|exact mem6|exact mem7|exact mem8|exact mem9) (by first|exact one_u8s _|exact one_u64s _|exact one_u32s _|(intro u hu;simp at hu;subst hu;rfl)) (by omega) (by omega) sel0 rfl (fun N36 a36 p36 r36=>?_)
 have s36:=r36.rsl
 refine aE (aY rfl rfl rfl (by kernel_rfl)) rfl rfl (aE (aY rfl rfl rfl (by kernel_rfl)) rfl rfl (At.oneNil (aB (s_8 (At.ret (aT ((At.sub (L':= [N36,R]) (.cons_cons _ (.cons _ (.cons_cons _ (.slnil)))) (bF (L1:= [N36]) rfl (.tmp rfl (.tmp rfl .nil)) rfl (.refl _) (.refl _) ?_)))))))))
 have e:(It.mk false bs its).form=rlpHead 128 nb++bs:=by rw [hf,if_neg (fun e=>by have:=hsm.1 e;omega),hn]
 exact .inl ⟨N36,a36,p36,by rw [e,List.length_append,hn],rfl,by rw [e,List.length_append,hn,u8s,List.map_append];exact r36,hd⟩
theorem encode_its {N:Heaplet} {its:List It} {xs:List IV} {ab ai:Option Addr} {nb cb ni ci:Nat} {bs:List UInt8} (hI:RSl N 3 ai ni ci (cellsI xs)) (hX:ItsN N its xs) (lists:Nat) (q:Int) (hq:q=lists) (hl:lists≤1024) (hlen:(It.mk true bs its).form.length≤1099511627776)
 (ih: ∀t∈its, ∀(N:Heaplet) (x:IV) (lists:Nat) (q:Int),ItN N t x→q=lists→lists≤1024→t.form.length≤1099511627776→Fn Try.prog 115 #[.agg #[.bool x.l,.slice x.ab x.nb x.cb,.slice x.ai x.ni x.ci],.int .i64 q] [] [N] (EncP t lists)):
 Fn Try.prog 115 #[.agg #[.bool true,.slice ab nb cb,.slice ai ni ci],.int .i64 q] [] [N] (EncP (.mk true bs its) lists):=by
 have hn:xs.length=ni:=by have:=hI.1;rw [length_cellsI]at this;omega
 have hn2:=hX.length
 have hcap:=hI.cap63
 have hf:=form_true bs its
 have hlf:(rlpHead 192 (It.forms its).length).length+(It.forms its).length≤1099511627776:=by rw [hf,List.length_append]at hlen;exact hlen
 have hdep:(It.mk true bs its).depth=It.depths its+1:=by simp [It.depth]
 refine Fn.enter (vs:= [.agg #[.bool true,.slice ab nb cb,.slice ai ni ci],.int .i64 q]) Try.func115 rfl rfl rfl ?_
 intro E R hR
 have hI:=hI.le (hR N (by simp))
 have hX:=hX.le (hR N (by simp))
 change At _ _ E [R] _
 refine At.seq fun _ s_1=>At.region (op_box (aV rfl) rfl rfl rfl (fun N2 b2 B2=>aE (aC rfl) rfl rfl (aE (aC rfl) rfl rfl (aA (aB (s_1 (At.seq fun _ s_2=>At.seq fun _ s_3=>At.region (aF (aC rfl) fl92_0 rfl rfl (aH (aC rfl) sc4 rfl B2 (by first|rfl) aN rfl ?_)))))))))
 refine op_not (aC rfl) rfl rfl (aA (aB (s_3 (At.condF rfl (At.skip (aB (s_2 (At.seq fun _ s_4=>At.seq fun _ s_5=>At.region (aD (aC rfl) rfl rfl (op_eql (aC rfl) rfl rfl rfl (aA (aB (s_5 (aP rfl (fun c38=>?_) (fun c38=>?_)))))))))))))))
 ·refine At.seq fun _ s_6=>At.region (aE (aC rfl) rfl rfl (aE (aC rfl) rfl rfl (aA (aB (s_6 (At.ret (aT ((At.sub (L':= [R]) (.cons _ (.cons_cons _ (.slnil))) (bF (L1:= []) rfl (.tmp rfl (.tmp rfl .nil)) rfl (.refl _) (.refl _) ?_))))))))))
  exact .inr ⟨rfl,rfl,by omega⟩
 refine At.skip (aB (s_4 (At.seq fun _ s_7=>At.region (aE (aC rfl) rfl rfl (aA (aB (s_7 (At.seq fun _ s_8=>At.seq fun _ s_9=>At.region (aF (aC rfl) fl92_2 rfl rfl (aH (aC rfl) sc90 rfl B2 (by first|rfl) aN rfl ?_))))))))))
 refine bP (aC rfl) se90 rfl rfl (aD (aC rfl) rfl rfl (aA (aB (s_9 (At.block (At.empty (At.perm aX (At.perm bZ (At.perm aX (At.loop (fun fr_ hp_ ms_=> ∃(k np:Nat) (ap:Option Addr) (cp:Nat) (Np:Heaplet),fr_= [(1,.int .i64 q),(2,.pointer (some ⟨b2,0,none⟩)),(6,.slice ap np cp),(40,.slice ai ni ci),(41,.int .i64 (ni:Int)),(42,.int .i64 (k:Int))]∧hp_= [N2,Np,R]∧ni- k=ms_∧(k≤ni)∧(np=(It.forms (its.take k)).length)∧(Row Np 5 1 ap np cp (u8s (It.forms (its.take k))))∧(∀t∈its.take k,lists+1+t.depth≤1024)) ?_ (.refl _) ⟨0,0,none,0,nilH,rfl,rfl,rfl,by omega,by simp [It.forms],by simpa [It.forms,u8s]using Row.nil nilH 5 1,by simp⟩ ?_))))))))))
 ·exact .cons (by first|exact bE rfl (by omega)|rfl) (.cons (by first|exact bE rfl (by omega)|rfl) (.cons (by first|exact bE rfl (by omega)|rfl) (.cons (by first|exact bE rfl (by omega)|rfl) (.cons (by first|exact bE rfl (by omega)|rfl) (.cons (by first|exact bE rfl (by omega)|rfl) .nil)))))
 rintro _ _ _ ⟨k,np,ap,cp,Np,rfl,rfl,rfl,hk,hnp,rp,hd⟩
 have sp:=rp.rsl
 have hle:=forms_take_le its k
 refine At.seq fun _ s_10=>At.region (op_lss (aC rfl) rfl rfl rfl (aA (aB (s_10 (At.seq fun _ s_11=>aP rfl (fun c43=>?_) (fun c43=>?_))))))
 ·have hlt:k<its.length:=by omega
  obtain⟨x,hx,hi⟩:=hX.get (List.getElem?_eq_getElem hlt)
  have hts:=forms_take_succ (List.getElem?_eq_getElem hlt)
  have hfe:=form_le (List.getElem_mem hlt)
  have hle2:=forms_take_le its (k+1)
  have hsum:np+(its[k]).form.length≤(It.forms its).length:=by rw [hts,List.length_append]at hle2;omega
  refine At.skip (aB (s_11 (At.seq fun _ s_12=>At.block (At.seq fun _ s_13=>At.region (op_idxE (aC rfl) se90 rfl rfl (by assumption) (show _=(((k:Nat)):Int)from by omega) (by omega) rfl ?_)))))
  refine op_loadAggE (aC rfl) ag92 rfl (by assumption) (by exact cells_at hx) (by rfl) (by omega) (by first|exact aN|exact bC|exact bV|exact mem3|exact mem4|exact mem5|exact mem6|exact mem7|exact mem8|exact mem9) rfl ?_
  refine aU (aV rfl) ze92 rfl (fun N8 b8 B8=>?_)
  change Blk N8 b8 _ [.bool false,.slice none 0 0,.slice none 0 0]at B8
  refine aG (nxl rfl) sz92 rfl rfl rfl rfl rfl B8 (by simp) sel0 (fun N8 B8=>?_)
  simp only [setL,List.set]at B8
  refine aA (aB (s_13 (At.seq fun _ s_14=>At.region (aL (ds:= [_,_,_]) (aC rfl) ag92 rfl B8 rfl rfl aN rfl (aD (aC rfl) rfl rfl (bI (aC rfl) rfl rfl (by omega) (by omega) rfl (aR (aV rfl) (.cons rfl (.cons rfl .nil)) (ih its[k] (List.getElem_mem hlt) R x (lists+1) (q+1) hi (by omega) (by omega) (by omega)) Try.func115 rfl rfl (by simp) rfl ?_)))))))
  rintro v50 L50 (⟨M50,a50,p50,rfl,rfl,r50,hd50⟩|⟨rfl,rfl,hd50⟩)
  ·change At _ _ _ [M50,N8,N2,Np,R] _
   have s50:=r50.rsl
   refine aD (aC rfl) rfl rfl (aM (aC rfl) rfl rfl rfl (aM (aC rfl) rfl rfl rfl (aE (aC rfl) rfl rfl (aE (aC rfl) rfl rfl (aA (aB (s_14 (At.seq fun _ s_15=>At.seq fun _ s_16=>At.region (aD (aC rfl) rfl rfl (op_neq (aC rfl) rfl rfl rfl (aA (aB (s_16 (At.condF rfl (At.skip (aB (s_15 (At.region (aD (aC rfl) rfl rfl (aD (aC rfl) rfl rfl ?_))))))))))))))))))))
   refine op_append (nxl rfl) Try.underlying27 Try.underlying27 te5 rfl rfl rp (by assumption) (by first|exact aN|exact bC|exact bV|exact mem3|exact mem4|exact mem5|exact mem6|exact mem7|exact mem8|exact mem9) (by first|exact one_u8s _|exact one_u64s _|exact one_u32s _|(intro u hu;simp at hu;subst hu;rfl)) (by omega) (by omega) aW rfl (fun N58 a58 p58 r58=>?_)
   have s58:=r58.rsl
   refine aE (aC rfl) rfl rfl (aA (bB (aB (s_12 (At.region (bI (aC rfl) rfl rfl (by omega) (by omega) rfl (aD (aC rfl) rfl rfl (aA (aB (At.sub (L':= [N58,N2,R]) (.cons_cons _ (.cons _ (.cons _ (.cons_cons _ (.cons_cons _ (.slnil)))))) (At.perm aX (At.perm bZ (At.perm aX ?_)))))))))))))
   refine At.back ?_ (.refl _) ⟨k+1,np+(its[k]).form.length,a58,p58,N58,rfl,rfl,rfl,by omega,by rw [hts,List.length_append,hnp],by rw [hts,u8s,List.map_append];exact r58,fun t ht=>by rw [List.take_succ_eq_append_getElem hlt,List.mem_append]at ht;rcases ht with ht|ht;exact hd t ht;rw [List.mem_singleton.1 ht];exact hd50⟩ ?_
   ·exact .cons (by first|exact bE rfl (by omega)|rfl) (.cons (by first|exact bE rfl (by omega)|rfl) (.cons (by first|exact bE rfl (by omega)|rfl) (.cons (by first|exact bE rfl (by omega)|rfl) (.cons (by first|exact bE rfl (by omega)|rfl) (.cons (by first|exact bE rfl (by omega)|rfl) .nil)))))
   ·omega
  change At _ _ _ [N8,N2,Np,R] _
  refine aD (aC rfl) rfl rfl (aM (aC rfl) rfl rfl rfl (aM (aC rfl) rfl rfl rfl (aE (aC rfl) rfl rfl (aE (aC rfl) rfl rfl (aA (aB (s_14 (At.seq fun _ s_17=>At.seq fun _ s_18=>At.region (aD (aC rfl) rfl rfl (op_neq (aC rfl) rfl rfl rfl (aA (aB (s_18 (At.condT rfl (At.seq fun _ s_19=>At.region (aD (aC rfl) rfl rfl (aE (aC rfl) rfl rfl (aE (aC rfl) rfl rfl (aA ?_)))))))))))))))))))
  refine aB (s_19 (At.ret (aT (At.inRet (aT (aT (At.inRet (aT ((At.sub (L':= [R]) (.cons _ (.cons _ (.cons _ (.cons_cons _ (.slnil))))) (bF (L1:= []) rfl (.tmp rfl (.tmp rfl .nil)) rfl (.refl _) (.refl _) (.inr ⟨rfl,rfl,fun h=>hd50 ?_⟩))))))))))))
  have:=depths_le.1 (Nat.le_refl _) _ (List.getElem_mem hlt)
  omega
 refine At.exit (aO (aO (At.inHit (aB (s_8 (At.seq fun _ s_20=>At.region (aD (aC rfl) rfl rfl (bP (aC rfl) se27 rfl rfl (aR (aV rfl) (.cons rfl (.cons rfl .nil)) (head_f 192 np (by omega) (by omega)) Try.func131 rfl rfl (by simp) rfl ?_)))))))))
 rintro v62 L62 ⟨M62,a62,p62,rfl,rfl,r62⟩
 change At _ _ _ [M62,N2,Np,R] _
 refine aD (aC rfl) rfl rfl ?_
 have h9:=rlpHead_le 192 np (by omega)
 refine op_append (nxl rfl) Try.underlying27 Try.underlying27 te5 rfl rfl r62 (by assumption) (by first|exact aN|exact bC|exact bV|exact mem3|exact mem4|exact mem5|exact mem6|exact mem7|exact mem8|exact mem9) (by first|exact one_u8s _|exact one_u64s _|exact one_u32s _|(intro u hu;simp at hu;subst hu;rfl)) (by omega) (by omega) sel0 rfl (fun N64 a64 p64 r64=>?_)
 have s64:=r64.rsl
 refine aE (aC rfl) rfl rfl (aE (aC rfl) rfl rfl (aA (aB (s_20 (At.ret ((At.sub (L':= [N64,R]) (.cons_cons _ (.cons _ (.cons _ (.cons_cons _ (.slnil))))) (bF (L1:= [N64]) rfl (.tmp rfl (.tmp rfl .nil)) rfl (.refl _) (.refl _) ?_))))))))
 obtain rfl:k=its.length:=by omega
 rw [List.take_length]at hnp hd r64
 subst hnp
 refine .inl ⟨N64,a64,p64,by rw [hf,List.length_append],rfl,by rw [hf,List.length_append,u8s,List.map_append];exact r64,?_⟩
 rw [hdep]
 by_cases hz:its= []
 ·subst hz;simp [It.depths];omega
 ·have:It.depths its≤1024- lists- 1:=depths_le.2 fun t ht=>by have:=hd t ht;omega
  obtain⟨t,ht⟩:=List.exists_mem_of_ne_nil _ hz
  have:=hd t ht
  omega
theorem encode_f (t:It): ∀(N:Heaplet) (x:IV) (lists:Nat) (q:Int),ItN N t x→q=lists→lists≤1024→t.form.length≤1099511627776→Fn Try.prog 115 #[.agg #[.bool x.l,.slice x.ab x.nb x.cb,.slice x.ai x.ni x.ci],.int .i64 q] [] [N] (EncP t lists):=by
 induction t using It.ind_it with|h l bs its ih=>?_
 intro N x lists q h hq hl hlen
 simp only [ItN]at h
 obtain⟨rfl,h1,xs,h2,h3⟩:=h
 cases hb:x.l with
 |false=>rw [hb]at hlen;exact encode_bs h1 lists q hl hlen
 |true=>rw [hb]at hlen;exact encode_its h2 h3 lists q hq hl hlen ih
theorem Encode_f {N:Heaplet} {t:It} {x:IV} (h:ItN N t x) (hlen:t.form.length≤1099511627776):Fn Try.prog 86 #[.agg #[.bool x.l,.slice x.ab x.nb x.cb,.slice x.ai x.ni x.ci]] [] [N] (EncP t 0):=by
 refine Fn.enter (vs:= [.agg #[.bool x.l,.slice x.ab x.nb x.cb,.slice x.ai x.ni x.ci]]) Try.func86 rfl rfl rfl ?_
 intro E R hR
 have h:=h.le (hR N (by simp))
 change At _ _ E [R] _
 refine At.seq fun _ s_1=>At.region (op_box (aV rfl) rfl rfl rfl (fun N1 b1 B1=>aE (aC rfl) rfl rfl (aE (aC rfl) rfl rfl (aA (aB (s_1 (At.seq fun _ s_2=>At.region (aL (ds:= [_,_,_]) (aC rfl) ag92 rfl B1 rfl rfl aN rfl (aR (aV rfl) (.cons rfl (.cons rfl .nil)) (encode_f t R x 0 0 h rfl (by omega) hlen) Try.func115 rfl rfl (by simp) rfl ?_)))))))))
 rintro v5 L5 (⟨M5,a5,p5,rfl,rfl,r5,hd5⟩|⟨rfl,rfl,hd5⟩)
 ·change At _ _ _ [M5,N1,R] _
  refine aM (aC rfl) rfl rfl rfl (aM (aC rfl) rfl rfl rfl (aE (aC rfl) rfl rfl (aE (aC rfl) rfl rfl (aA (aB (s_2 (At.ret ((At.sub (L':= [M5,R]) (.cons_cons _ (.cons _ (.cons_cons _ (.slnil)))) (bF (L1:= [M5]) rfl (.tmp rfl (.tmp rfl .nil)) rfl (.refl _) (.refl _) ?_))))))))))
  exact .inl ⟨M5,a5,p5,rfl,rfl,r5,hd5⟩
 change At _ _ _ [N1,R] _
 refine aM (aC rfl) rfl rfl rfl (aM (aC rfl) rfl rfl rfl (aE (aC rfl) rfl rfl (aE (aC rfl) rfl rfl (aA (aB (s_2 (At.ret ((At.sub (L':= [R]) (.cons _ (.cons_cons _ (.slnil))) (bF (L1:= []) rfl (.tmp rfl (.tmp rfl .nil)) rfl (.refl _) (.refl _) ?_))))))))))
 exact .inr ⟨rfl,rfl,hd5⟩
end Go.Proofs.Ytljacjjeinmfnaa
/- rlp.Decode; quarrylaw05.wakes holds. No condition but that bytes are not longer than a machine holds. -/
namespace Go.Proofs.Ytljacjjeinmfnaa
open Go Go.RowKit
/-- The item that bytes tell, or the error's number. -/
def decodeF (b:List UInt8):Except Nat It:=match decF 1024 b with
 |.error e=>.error e
 |.ok (t,q)=>if q.length=0 then .ok t else .error 2
def DecodeP (r:Except Nat It) (v:Value) (L:List Heaplet):Prop:=
 (∃t M, ∃x:IV,r=.ok t∧v=.tuple #[.agg #[.bool x.l,.slice x.ab x.nb x.cb,.slice x.ai x.ni x.ci],.int .i64 0]∧L= [M]∧ItN M t x)∨
 (∃e:Nat,r=.error e∧v=.tuple #[.agg #[.bool false,.slice none 0 0,.slice none 0 0],.int .i64 (e:Int)]∧L= []∧e≠0)
end Go.Proofs.Ytljacjjeinmfnaa
/- quarrylaw05.wakes holds. No condition. -/
namespace Go.Proofs.Ytljacjjeinmfnaa
open Go Go.RowKit
def wakeT:It:=.mk true [] [.mk true [] [],.mk false [97] []]
end Go.Proofs.Ytljacjjeinmfnaa
/- quarryref05's head, Depth, form, Encode: the document's forms of items. No condition but that the form is not longer than a machine holds. -/
namespace Go.Proofs.Ytljacjjeinmfnaa
open Go Go.RowKit
set_option maxRecDepth 100000
end Go.Proofs.Ytljacjjeinmfnaa
/- quarrykeep.Twin, and quarrylaw05's nested, Twin, cut. No condition. -/
namespace Go.Proofs.Ytljacjjeinmfnaa
open Go Go.RowKit
theorem KTwin_f {N:Heaplet} {ao:Option Addr} {n cap:Nat} {l:List UInt8} (h:RSl N 1 ao n cap (u8s l)) (m:Nat) (q:Int) (hq:q=(m:Int)) (hm:m≤140737488351232):
 Fn Try.prog 8 #[.slice ao n cap,.int .i64 q] [] [N] (fun v L=> ∃M a c,v=.slice a (l.take m).length c∧L= [M]∧Row M 5 1 a (l.take m).length c (u8s (l.take m))):=by
 have hlen:=h.len8
 have hcap:=h.cap63
 refine Fn.enter (vs:= [.slice ao n cap,.int .i64 q]) Try.func8 rfl rfl rfl ?_
 intro E R hR
 have h:=h.le (hR N (by simp))
 change At _ _ E [R] _
 refine At.seq fun _ s_1=>At.region (aE (aC rfl) rfl rfl (aA (aB (s_1 (At.seq fun _ s_2=>At.seq fun _ s_3=>At.region (aD (aC rfl) rfl rfl (bP (aC rfl) se27 rfl rfl (aD (aC rfl) rfl rfl (op_gtr (aC rfl) rfl rfl rfl (aA (aB (s_3 (aP rfl (fun c8=>?_) (fun c8=>?_))))))))))))))
 ·refine At.region (aD (aC rfl) rfl rfl (aD (aC rfl) rfl rfl (op_slice0 (aC rfl) se27 rfl (.some rfl (show _=(((m:Nat)):Int)from by omega)) .none (by omega) (by omega) (by simp) rfl ?_)))
  have s11:=h.take8 (hi:=m) (m:=cap) (by omega) (by omega) (by omega)
  refine aE (aC rfl) rfl rfl (aA (aB (s_2 (At.seq fun _ s_4=>At.region (op_lit (aV rfl) Try.underlying27 ze5 sz5 .nil rfl rfl (by simp [Value.cells]) rfl rfl rfl (fun N12 a12 r12=>?_))))))
  simp only [flatV,List.flatMap_cons,List.flatMap_nil,Value.cells,List.append_nil,List.cons_append,List.nil_append]at r12
  have s12:=r12.rsl
  refine aD (aC rfl) rfl rfl ?_
  refine op_append (nxl rfl) Try.underlying27 Try.underlying27 te5 rfl rfl r12 (by assumption) (by first|exact aN|exact bC|exact bV|exact mem3|exact mem4|exact mem5|exact mem6|exact mem7|exact mem8|exact mem9) (by first|exact one_u8s _|exact one_u64s _|exact one_u32s _|(intro u hu;simp at hu;subst hu;rfl)) (by omega) (by omega) sel0 rfl (fun N14 a14 p14 r14=>?_)
  have s14:=r14.rsl
  refine aE (aC rfl) rfl rfl (aA (aB (s_4 (At.ret ((aZ (L1:= [N14]) rfl (.tmp rfl .nil) (.refl _) (.refl _) ?_))))))
  rw [List.nil_append,Nat.zero_add]at r14
  exact⟨N14,a14,p14,by rw [List.length_take,hlen,Nat.min_eq_left (by omega),Nat.zero_add],rfl,by rw [List.length_take,hlen,Nat.min_eq_left (by omega)];exact r14⟩
 refine At.skip (aB (s_2 (At.seq fun _ s_5=>At.region (op_lit (aV rfl) Try.underlying27 ze5 sz5 .nil rfl rfl (by simp [Value.cells]) rfl rfl rfl (fun N12 a12 r12=>?_)))))
 simp only [flatV,List.flatMap_cons,List.flatMap_nil,Value.cells,List.append_nil,List.cons_append,List.nil_append]at r12
 have s12:=r12.rsl
 refine aD (aC rfl) rfl rfl ?_
 refine op_append (nxl rfl) Try.underlying27 Try.underlying27 te5 rfl rfl r12 (by assumption) (by first|exact aN|exact bC|exact bV|exact mem3|exact mem4|exact mem5|exact mem6|exact mem7|exact mem8|exact mem9) (by first|exact one_u8s _|exact one_u64s _|exact one_u32s _|(intro u hu;simp at hu;subst hu;rfl)) (by omega) (by omega) sel0 rfl (fun N14 a14 p14 r14=>?_)
 have s14:=r14.rsl
 refine aE (aC rfl) rfl rfl (aA (aB (s_5 (At.ret ((aZ (L1:= [N14]) rfl (.tmp rfl .nil) (.refl _) (.refl _) ?_))))))
 rw [List.nil_append,Nat.zero_add]at r14
 have e:l.take m=l:=List.take_of_length_le (by omega)
 exact⟨N14,a14,p14,by rw [e,hlen,Nat.zero_add],rfl,by rw [e,hlen];exact r14⟩
/-- So many lists around an item. -/
def nestN:Nat→It→It
 |0,t=>t
 |k+1,t=>.mk true [] [nestN k t]
end Go.Proofs.Ytljacjjeinmfnaa
/- quarrylaw05.RlpEnvelope answers true. No condition. -/
namespace Go.Proofs.Ytljacjjeinmfnaa
open Go Go.RowKit
/-- Kind and body. -/
def envF (b:List UInt8):Option (Nat×List UInt8):=
 if b.length=0∨(128≤(b.getD 0 0).toNat∧(b.getD 0 0).toNat<192)then none
 else if 192≤(b.getD 0 0).toNat then some (0,b)
 else some ((b.getD 0 0).toNat,b.drop 1)
/-- What is told of it. -/
def EnvP (N:Heaplet) (r:Option (Nat×List UInt8)) (v:Value):Prop:=
 (r=none∧v=.tuple #[.int .i64 0,.slice none 0 0,.int .i64 2])∨
 (∃k p a c,r=some (k,p)∧v=.tuple #[.int .i64 (k:Int),.slice a p.length c,.int .i64 0]∧RSl N 1 a p.length c (u8s p))
theorem EnvP.mk {N:Heaplet} {r:Option (Nat×List UInt8)} {k n c:Nat} {q:Int} {a:Option Addr} {p:List UInt8} (hr:r=some (k,p)) (hq:q=(k:Int)) (h:RSl N 1 a n c (u8s p)):EnvP N r (.tuple #[.int .i64 q,.slice a n c,.int .i64 0]):=by
 have e:=h.len8
 subst e;subst hq
 exact .inr ⟨k,p,a,c,hr,rfl,h⟩
theorem Envelope_f {N:Heaplet} {ao:Option Addr} {n cap:Nat} {b:List UInt8} (h:RSl N 1 ao n cap (u8s b)) (hn:n≤1099511627776):
 Fn Try.prog 64 #[.slice ao n cap] [] [N] (fun v L=>(L= []∧envF b=none∧v=.tuple #[.int .i64 0,.slice none 0 0,.int .i64 2])∨ ∃M k p a c,L= [M]∧envF b=some (k,p)∧v=.tuple #[.int .i64 (k:Int),.slice a p.length c,.int .i64 0]∧RSl M 1 a p.length c (u8s p)):=by
 have hlen:=h.len8
 have hcap:=h.cap63
 have ok: ∀ {M:Heaplet} {k n c:Nat} {q:Int} {a:Option Addr} {p:List UInt8},envF b=some (k,p)→q=(k:Int)→RSl M 1 a n c (u8s p)→
  ∃M' k p a' c',[M]= [M']∧envF b=some (k,p)∧(Value.tuple #[.int .i64 q,.slice a n c,.int .i64 0])=.tuple #[.int .i64 (k:Int),.slice a' p.length c',.int .i64 0]∧RSl M' 1 a' p.length c' (u8s p):=by
  intro M k n c q a p hr hq h
  have e:=h.len8
  subst e;subst hq
  exact⟨M,k,p,a,c,rfl,hr,rfl,h⟩
 refine Fn.enter (vs:= [.slice ao n cap]) Try.func64 rfl rfl rfl ?_
 intro E R hR
 have h:=h.le (hR N (by simp))
 change At _ _ E [R] _
 refine At.seq fun _ s_1=>At.region (aE (aC rfl) rfl rfl (aE (aC rfl) rfl rfl (aE (aC rfl) rfl rfl (aA (aB (s_1 (At.seq fun _ s_2=>At.block (At.seq fun _ s_3=>At.region (aD (aC rfl) rfl rfl (bP (aC rfl) se27 rfl rfl (op_eql (aC rfl) rfl rfl rfl (aD (aC rfl) rfl rfl (bU (d:=9) rfl (fun g9=>?_) (fun g9=>?_))))))))))))))
 ·refine aJ rfl rfl rfl rfl rfl rfl rfl (aJ rfl rfl rfl rfl rfl rfl rfl (aJ rfl rfl rfl rfl rfl rfl rfl (aJ rfl rfl rfl rfl rfl rfl rfl (aJ rfl rfl rfl rfl rfl rfl rfl (bO rfl rfl rfl rfl rfl rfl (bO rfl rfl rfl rfl rfl rfl (bO rfl rfl rfl rfl rfl rfl (bO rfl rfl rfl rfl rfl rfl (aJ rfl rfl rfl rfl rfl rfl rfl (bW (aC rfl) rfl rfl rfl (aE (aC rfl) rfl rfl (aA (aB (s_3 (At.condT rfl (At.seq fun _ s_4=>At.region (aE (aC rfl) rfl rfl (aE (aC rfl) rfl rfl (aE (aC rfl) rfl rfl (aA ?_))))))))))))))))))))
  refine aB (s_4 (At.ret (At.inRet (aT ((bF (L1:= []) rfl (.tmp rfl (.tmp rfl (.tmp rfl .nil))) rfl (.refl _) (.refl _) ?_))))))
  exact .inl ⟨rfl,by rw [envF,if_pos (by omega)],rfl⟩
 refine aD (aS rfl rfl rfl rfl) rfl rfl (op_idx1 (aS rfl rfl rfl rfl) se27 rfl rfl (by assumption) (show _=((0:Nat):Int)from rfl) (by omega) rfl ?_)
 refine bS (aS rfl rfl rfl rfl) sc5 rfl (by assumption) (by first|exact get8 (by omega)|exact get64 (by omega)|exact get32 (by omega)) (by first|exact aN|exact bC|exact bV|exact mem3|exact mem4|exact mem5|exact mem6|exact mem7|exact mem8|exact mem9) rfl ?_
 refine op_geq (aS rfl rfl rfl rfl) rfl rfl rfl (aD (aS rfl rfl rfl rfl) rfl rfl (bU (d:=14) rfl (fun g14=>?_) (fun g14=>?_)))
 ·refine aD (aS rfl rfl rfl rfl) rfl rfl (op_idx1 (aS rfl rfl rfl rfl) se27 rfl rfl (by assumption) (show _=((0:Nat):Int)from rfl) (by omega) rfl ?_)
  refine bS (aS rfl rfl rfl rfl) sc5 rfl (by assumption) (by first|exact get8 (by omega)|exact get64 (by omega)|exact get32 (by omega)) (by first|exact aN|exact bC|exact bV|exact mem3|exact mem4|exact mem5|exact mem6|exact mem7|exact mem8|exact mem9) rfl ?_
  refine op_lss (aS rfl rfl rfl rfl) rfl rfl rfl (bW (aS rfl rfl rfl rfl) rfl rfl rfl (bM (aC rfl) rfl rfl rfl (aE (aC rfl) rfl rfl (aA (aB (s_3 (aP rfl (fun c5=>?_) (fun c5=>?_))))))))
  ·refine At.seq fun _ s_5=>At.region (aE (aC rfl) rfl rfl (aE (aC rfl) rfl rfl (aE (aC rfl) rfl rfl (aA (aB (s_5 (At.ret (At.inRet (aT ((bF (L1:= []) rfl (.tmp rfl (.tmp rfl (.tmp rfl .nil))) rfl (.refl _) (.refl _) ?_)))))))))))
   exact .inl ⟨rfl,by rw [envF,if_pos (by omega)],rfl⟩
  refine At.seq fun _ s_6=>At.region (aD (aC rfl) rfl rfl (op_idx1 (aC rfl) se27 rfl rfl (by assumption) (show _=((0:Nat):Int)from rfl) (by omega) rfl ?_))
  refine bS (aC rfl) sc5 rfl (by assumption) (by first|exact get8 (by omega)|exact get64 (by omega)|exact get32 (by omega)) (by first|exact aN|exact bC|exact bV|exact mem3|exact mem4|exact mem5|exact mem6|exact mem7|exact mem8|exact mem9) rfl ?_
  refine op_geq (aC rfl) rfl rfl rfl (aE (aC rfl) rfl rfl (aA (aB (s_6 (aP rfl (fun c21=>?_) (fun c21=>?_))))))
  ·refine At.seq fun _ s_7=>At.region (aD (aC rfl) rfl rfl ?_)
   refine op_append0 (aV rfl) Try.underlying27 Try.underlying27 te5 rfl rfl (by assumption) (by first|exact aN|exact bC|exact bV|exact mem3|exact mem4|exact mem5|exact mem6|exact mem7|exact mem8|exact mem9) (by first|exact one_u8s _|exact one_u64s _|exact one_u32s _|(intro u hu;simp at hu;subst hu;rfl)) (by omega) (by omega) rfl (fun N27 a27 p27 r27=>?_)
   have s27:=r27.rsl
   refine aE (aC rfl) rfl rfl (aE (aC rfl) rfl rfl (aE (aC rfl) rfl rfl (aA (aB (s_7 (At.ret (At.inRet (aT ((bF (L1:= [N27]) rfl (.tmp rfl (.tmp rfl (.tmp rfl .nil))) rfl (.refl _) (.refl _) ?_))))))))))
   exact .inr (ok (by rw [envF,if_neg (by omega),if_pos (by omega)]) rfl r27.rsl)
  refine At.skip (bB (aB (s_2 (At.seq fun _ s_8=>At.drawn [] [0,1,2,3,4,5,6,7,8,9] (by kernel_rfl) (by kernel_rfl) (aD (aY rfl rfl rfl (by kernel_rfl)) rfl rfl (op_idx1 (aY rfl rfl rfl (by kernel_rfl)) se27 rfl rfl (by assumption) (show _=((0:Nat):Int)from rfl) (by omega) rfl ?_))))))
  refine bS (aY rfl rfl rfl (by kernel_rfl)) sc5 rfl (by assumption) (by first|exact get8 (by omega)|exact get64 (by omega)|exact get32 (by omega)) (by first|exact aN|exact bC|exact bV|exact mem3|exact mem4|exact mem5|exact mem6|exact mem7|exact mem8|exact mem9) rfl ?_
  refine op_convI (aY rfl rfl rfl (by kernel_rfl)) (und_some Try.underlying5) Try.underlying3 rfl (by omega) (by omega) rfl (aD (aY rfl rfl rfl (by kernel_rfl)) rfl rfl (op_slice (aY rfl rfl rfl (by kernel_rfl)) se27 rfl (.some rfl (show _=((1:Nat):Int)from rfl)) .none .none (by omega) (by omega) (by omega) (by simp) rfl ?_))
  have s33:=h.drop8 (lo:=1) (by omega)
  refine op_append0 (nxoa rfl rfl rfl) Try.underlying27 Try.underlying27 te5 rfl rfl (by assumption) (by first|exact aN|exact bC|exact bV|exact mem3|exact mem4|exact mem5|exact mem6|exact mem7|exact mem8|exact mem9) (by first|exact one_u8s _|exact one_u64s _|exact one_u32s _|(intro u hu;simp at hu;subst hu;rfl)) (by omega) (by omega) rfl (fun N34 a34 p34 r34=>?_)
  have s34:=r34.rsl
  refine aE (aY rfl rfl rfl (by kernel_rfl)) rfl rfl (aE (aY rfl rfl rfl (by kernel_rfl)) rfl rfl (aE (aY rfl rfl rfl (by kernel_rfl)) rfl rfl (At.oneNil (aB (s_8 (At.ret ((bF (L1:= [N34]) rfl (.tmp rfl (.tmp rfl (.tmp rfl .nil))) rfl (.refl _) (.refl _) ?_))))))))
  exfalso;omega
 refine aJ rfl rfl rfl rfl rfl rfl rfl (aJ rfl rfl rfl rfl rfl rfl rfl (aJ rfl rfl rfl rfl rfl rfl rfl (aJ rfl rfl rfl rfl rfl rfl rfl (bM (aS rfl rfl rfl rfl) rfl rfl rfl (bM (aC rfl) rfl rfl rfl (aE (aC rfl) rfl rfl (aA (aB (s_3 (At.condF rfl (At.seq fun _ s_9=>At.region (aD (aC rfl) rfl rfl (op_idx1 (aC rfl) se27 rfl rfl (by assumption) (show _=((0:Nat):Int)from rfl) (by omega) rfl ?_)))))))))))))
 refine bS (aC rfl) sc5 rfl (by assumption) (by first|exact get8 (by omega)|exact get64 (by omega)|exact get32 (by omega)) (by first|exact aN|exact bC|exact bV|exact mem3|exact mem4|exact mem5|exact mem6|exact mem7|exact mem8|exact mem9) rfl ?_
 refine op_geq (aC rfl) rfl rfl rfl (aE (aC rfl) rfl rfl (aA (aB (s_9 (aP rfl (fun c21=>?_) (fun c21=>?_))))))
 ·refine At.seq fun _ s_10=>At.region (aD (aC rfl) rfl rfl ?_)
  refine op_append0 (aV rfl) Try.underlying27 Try.underlying27 te5 rfl rfl (by assumption) (by first|exact aN|exact bC|exact bV|exact mem3|exact mem4|exact mem5|exact mem6|exact mem7|exact mem8|exact mem9) (by first|exact one_u8s _|exact one_u64s _|exact one_u32s _|(intro u hu;simp at hu;subst hu;rfl)) (by omega) (by omega) rfl (fun N27 a27 p27 r27=>?_)
  have s27:=r27.rsl
  refine aE (aC rfl) rfl rfl (aE (aC rfl) rfl rfl (aE (aC rfl) rfl rfl (aA (aB (s_10 (At.ret (At.inRet (aT ((bF (L1:= [N27]) rfl (.tmp rfl (.tmp rfl (.tmp rfl .nil))) rfl (.refl _) (.refl _) ?_))))))))))
  exfalso;omega
 refine At.skip (bB (aB (s_2 (At.seq fun _ s_11=>At.drawn [] [0,1,2,3,4,5,6,7,8,9] (by kernel_rfl) (by kernel_rfl) (aD (aY rfl rfl rfl (by kernel_rfl)) rfl rfl (op_idx1 (aY rfl rfl rfl (by kernel_rfl)) se27 rfl rfl (by assumption) (show _=((0:Nat):Int)from rfl) (by omega) rfl ?_))))))
 refine bS (aY rfl rfl rfl (by kernel_rfl)) sc5 rfl (by assumption) (by first|exact get8 (by omega)|exact get64 (by omega)|exact get32 (by omega)) (by first|exact aN|exact bC|exact bV|exact mem3|exact mem4|exact mem5|exact mem6|exact mem7|exact mem8|exact mem9) rfl ?_
 refine op_convI (aY rfl rfl rfl (by kernel_rfl)) (und_some Try.underlying5) Try.underlying3 rfl (by omega) (by omega) rfl (aD (aY rfl rfl rfl (by kernel_rfl)) rfl rfl (op_slice (aY rfl rfl rfl (by kernel_rfl)) se27 rfl (.some rfl (show _=((1:Nat):Int)from rfl)) .none .none (by omega) (by omega) (by omega) (by simp) rfl ?_))
 have s33:=h.drop8 (lo:=1) (by omega)
 refine op_append0 (nxoa rfl rfl rfl) Try.underlying27 Try.underlying27 te5 rfl rfl (by assumption) (by first|exact aN|exact bC|exact bV|exact mem3|exact mem4|exact mem5|exact mem6|exact mem7|exact mem8|exact mem9) (by first|exact one_u8s _|exact one_u64s _|exact one_u32s _|(intro u hu;simp at hu;subst hu;rfl)) (by omega) (by omega) rfl (fun N34 a34 p34 r34=>?_)
 have s34:=r34.rsl
 refine aE (aY rfl rfl rfl (by kernel_rfl)) rfl rfl (aE (aY rfl rfl rfl (by kernel_rfl)) rfl rfl (aE (aY rfl rfl rfl (by kernel_rfl)) rfl rfl (At.oneNil (aB (s_11 (At.ret ((bF (L1:= [N34]) rfl (.tmp rfl (.tmp rfl (.tmp rfl .nil))) rfl (.refl _) (.refl _) ?_))))))))
 exact .inr (ok (by rw [envF,if_neg (by omega),if_neg (by omega)]) rfl r34.rsl)
end Go.Proofs.Ytljacjjeinmfnaa
/- quarrylaw05.Same, the reference's Decode; quarrylaw05.RlpDecode answers true. No condition but that bytes are not longer than a machine holds. -/
namespace Go.Proofs.Ytljacjjeinmfnaa
open Go Go.RowKit
mutual
/-- The same item? -/
def It.same:It→It→Bool
 |.mk l bs its,.mk l' bs' its'=>decide (l=l')&&(decide (bs=bs')&&It.sames its its')
def It.sames:List It→List It→Bool
 | [],[]=>true
 |t::ts,u::us=>It.same t u&&It.sames ts us
 |_,_=>false
end
mutual
theorem It.same_self: ∀t:It,It.same t t=true
 |.mk l bs its=>by simp [It.same,It.sames_self its]
theorem It.sames_self: ∀ts:List It,It.sames ts ts=true
 | []=>by simp [It.sames]
 |t::ts=>by simp [It.sames,It.same_self t,It.sames_self ts]
end
end Go.Proofs.Ytljacjjeinmfnaa
/- Numbers: rlp.Number, rlp.Of and the reference's. No condition. -/
namespace Go.Proofs.Ytljacjjeinmfnaa
open Go Go.RowKit
/-- The error's number. -/
def numE (b:List UInt8):Nat:=if 0<b.length∧(b.getD 0 0).toNat=0 then 2 else if 32<b.length then 3 else 0
/-- The number. -/
def numV (b:List UInt8):Nat:=if numE b=0 then be b else 0
theorem numE2 {b:List UInt8} (h1:0<b.length) (h2:(b.getD 0 0).toNat=0):numE b=2:=by rw [numE,if_pos ⟨h1,h2⟩]
theorem numE3 {b:List UInt8} (h1: ¬(0<b.length∧(b.getD 0 0).toNat=0)) (h2:32<b.length):numE b=3:=by rw [numE,if_neg h1,if_pos h2]
theorem numE0 {b:List UInt8} (h1: ¬(0<b.length∧(b.getD 0 0).toNat=0)) (h2: ¬32<b.length):numE b=0:=by rw [numE,if_neg h1,if_neg h2]
def NumP (b:List UInt8) (v:Value) (L:List Heaplet):Prop:=
 ∃wa wb wc wd:UInt64,v=.tuple #[.agg #[.int .u64 (wa.toNat:Int),.int .u64 (wb.toNat:Int),.int .u64 (wc.toNat:Int),.int .u64 (wd.toNat:Int)],.int .i64 (numE b:Int)]∧L= []∧v64 [wa,wb,wc,wd]=numV b
theorem NumP.bad {b:List UInt8} {e:Nat} (h:numE b=e) (he:e≠0):NumP b (.tuple #[.agg #[.int .u64 0,.int .u64 0,.int .u64 0,.int .u64 0],.int .i64 (e:Int)]) []:=by
 refine⟨0,0,0,0,by rw [h];rfl,rfl,?_⟩
 rw [numV,if_neg (by omega)];rfl
theorem NumP.good {b:List UInt8} {wa wb wc wd:UInt64} (h:numE b=0) (hv:v64 [wa,wb,wc,wd]=be b):NumP b (.tuple #[.agg #[.int .u64 (wa.toNat:Int),.int .u64 (wb.toNat:Int),.int .u64 (wc.toNat:Int),.int .u64 (wd.toNat:Int)],.int .i64 0]) []:=
 ⟨wa,wb,wc,wd,by rw [h];rfl,rfl,by rw [numV,if_pos h,hv]⟩
theorem Number_s {N:Heaplet} {ao:Option Addr} {n cap:Nat} {b:List UInt8} (h:RSl N 1 ao n cap (u8s b)) (hn:n≤32):Fn Try.prog 125 #[.slice ao n cap] [] [N] (NumP b):=by
 have hlen:=h.len8
 have hcap:=h.cap63
 refine Fn.enter (vs:= [.slice ao n cap]) Try.func125 rfl rfl rfl ?_
 intro E R hR
 have h:=h.le (hR N (by simp))
 change At _ _ E [R] _
 refine At.seq fun _ s_1=>At.region (aU (aV rfl) ze26 rfl (fun N2 b2 B2=>?_))
 change Blk N2 b2 _ [.int .u64 0,.int .u64 0,.int .u64 0,.int .u64 0]at B2
 refine aE (aC rfl) rfl rfl (aA (aB (s_1 (At.seq fun _ s_2=>At.seq fun _ s_3=>At.region (aD (aC rfl) rfl rfl (bP (aC rfl) se27 rfl rfl (op_gtr (aC rfl) rfl rfl rfl (aD (aC rfl) rfl rfl (bU (d:=9) rfl (fun g9=>?_) (fun g9=>?_))))))))))
 ·refine aD (aS rfl rfl rfl rfl) rfl rfl (op_idx1 (aS rfl rfl rfl rfl) se27 rfl rfl (by assumption) (show _=((0:Nat):Int)from rfl) (by omega) rfl ?_)
  refine bS (aS rfl rfl rfl rfl) sc5 rfl (by assumption) (by first|exact get8 (by omega)|exact get64 (by omega)|exact get32 (by omega)) (by first|exact aN|exact bC|exact bV|exact mem3|exact mem4|exact mem5|exact mem6|exact mem7|exact mem8|exact mem9) rfl ?_
  refine op_eql (aS rfl rfl rfl rfl) rfl rfl rfl (bW (aC rfl) rfl rfl rfl (aA (aB (s_3 (aP rfl (fun c14=>?_) (fun c14=>?_))))))
  ·refine At.seq fun _ s_4=>At.region (op_buildA (out:= [.int .u64 0,.int .u64 0,.int .u64 0,.int .u64 0]) (aC rfl) ze26 ae26 .nil rfl rfl (aG (nxl rfl) sz26 rfl rfl rfl rfl rfl B2 (by simp) sel0 (fun N2 B2=>?_)))
   simp only [setL,List.set]at B2
   refine aE (aC rfl) rfl rfl (aA (aB (s_4 (At.ret (aT ((bF (L1:= []) rfl (.cell rfl (bH (ds:= [_,_,_,_]) ag26 B2 rfl rfl aN) (.tmp rfl .nil)) rfl (.cons _ (.refl _)) (.refl _) ?_)))))))
   exact NumP.bad (numE2 (by omega) (by omega)) (by decide)
  refine At.skip (aB (s_2 (At.seq fun _ s_5=>At.region (aD (aC rfl) rfl rfl (aR (aV rfl) (.cons rfl .nil) (WFrom_f h hn) Try.func142 rfl rfl (by simp) rfl ?_)))))
  rintro v18 L18 ⟨wa,wb,wc,wd,rfl,rfl,hw⟩
  change At _ _ _ [N2,R] _
  refine aD (aC rfl) rfl rfl (aM (aC rfl) rfl rfl rfl (aM (aC rfl) rfl rfl rfl (aU (aV rfl) ze26 rfl (fun N4 b4 B4=>?_))))
  change Blk N4 b4 _ [.int .u64 0,.int .u64 0,.int .u64 0,.int .u64 0]at B4
  refine aG (nxl rfl) sz26 rfl rfl rfl rfl rfl B4 (by simp) sel0 (fun N4 B4=>?_)
  simp only [setL,List.set]at B4
  refine aE (aC rfl) rfl rfl (aA (aB (s_5 (At.seq fun _ s_6=>At.seq fun _ s_7=>At.region (aD (aC rfl) rfl rfl (op_not (aC rfl) rfl rfl (aA (aB (s_7 (At.condF rfl (At.skip (aB (s_6 (At.seq fun _ s_8=>At.region (aL (ds:= [_,_,_,_]) (aC rfl) ag26 rfl B4 rfl rfl aN rfl (aG (nxl rfl) sz26 rfl rfl rfl rfl rfl B2 (by simp) bZ (fun N2 B2=>?_)))))))))))))))))
  simp only [setL,List.set]at B2
  refine aE (aC rfl) rfl rfl (aA (aB (s_8 (At.ret ((At.sub (L':= [N2,R]) (.cons_cons _ (.cons _ (.cons_cons _ (.slnil)))) (bF (L1:= []) rfl (.cell rfl (bH (ds:= [_,_,_,_]) ag26 B2 rfl rfl aN) (.tmp rfl .nil)) rfl (.cons _ (.refl _)) (.refl _) ?_)))))))
  exact NumP.good (numE0 (by omega) (by omega)) hw
 refine aJ rfl rfl rfl rfl rfl rfl rfl (aJ rfl rfl rfl rfl rfl rfl rfl (aJ rfl rfl rfl rfl rfl rfl rfl (aJ rfl rfl rfl rfl rfl rfl rfl (bM (aC rfl) rfl rfl rfl (aA (aB (s_3 (At.condF rfl (At.skip (aB (s_2 (At.seq fun _ s_9=>At.region (aD (aC rfl) rfl rfl (aR (aV rfl) (.cons rfl .nil) (WFrom_f h hn) Try.func142 rfl rfl (by simp) rfl ?_))))))))))))))
 rintro v18 L18 ⟨wa,wb,wc,wd,rfl,rfl,hw⟩
 change At _ _ _ [N2,R] _
 refine aD (aC rfl) rfl rfl (aM (aC rfl) rfl rfl rfl (aM (aC rfl) rfl rfl rfl (aU (aV rfl) ze26 rfl (fun N4 b4 B4=>?_))))
 change Blk N4 b4 _ [.int .u64 0,.int .u64 0,.int .u64 0,.int .u64 0]at B4
 refine aG (nxl rfl) sz26 rfl rfl rfl rfl rfl B4 (by simp) sel0 (fun N4 B4=>?_)
 simp only [setL,List.set]at B4
 refine aE (aC rfl) rfl rfl (aA (aB (s_9 (At.seq fun _ s_10=>At.seq fun _ s_11=>At.region (aD (aC rfl) rfl rfl (op_not (aC rfl) rfl rfl (aA (aB (s_11 (At.condF rfl (At.skip (aB (s_10 (At.seq fun _ s_12=>At.region (aL (ds:= [_,_,_,_]) (aC rfl) ag26 rfl B4 rfl rfl aN rfl (aG (nxl rfl) sz26 rfl rfl rfl rfl rfl B2 (by simp) bZ (fun N2 B2=>?_)))))))))))))))))
 simp only [setL,List.set]at B2
 refine aE (aC rfl) rfl rfl (aA (aB (s_12 (At.ret ((At.sub (L':= [N2,R]) (.cons_cons _ (.cons _ (.cons_cons _ (.slnil)))) (bF (L1:= []) rfl (.cell rfl (bH (ds:= [_,_,_,_]) ag26 B2 rfl rfl aN) (.tmp rfl .nil)) rfl (.cons _ (.refl _)) (.refl _) ?_)))))))
 exact NumP.good (numE0 (by omega) (by omega)) hw
theorem Number_l {N:Heaplet} {ao:Option Addr} {n cap:Nat} {b:List UInt8} (h:RSl N 1 ao n cap (u8s b)) (hn:32<n):Fn Try.prog 125 #[.slice ao n cap] [] [N] (NumP b):=by
 have hlen:=h.len8
 have hcap:=h.cap63
 refine Fn.enter (vs:= [.slice ao n cap]) Try.func125 rfl rfl rfl ?_
 intro E R hR
 have h:=h.le (hR N (by simp))
 change At _ _ E [R] _
 refine At.seq fun _ s_1=>At.region (aU (aV rfl) ze26 rfl (fun N2 b2 B2=>?_))
 change Blk N2 b2 _ [.int .u64 0,.int .u64 0,.int .u64 0,.int .u64 0]at B2
 refine aE (aC rfl) rfl rfl (aA (aB (s_1 (At.seq fun _ s_2=>At.seq fun _ s_3=>At.region (aD (aC rfl) rfl rfl (bP (aC rfl) se27 rfl rfl (op_gtr (aC rfl) rfl rfl rfl (aD (aC rfl) rfl rfl (bU (d:=9) rfl (fun g9=>?_) (fun g9=>?_))))))))))
 ·refine aD (aS rfl rfl rfl rfl) rfl rfl (op_idx1 (aS rfl rfl rfl rfl) se27 rfl rfl (by assumption) (show _=((0:Nat):Int)from rfl) (by omega) rfl ?_)
  refine bS (aS rfl rfl rfl rfl) sc5 rfl (by assumption) (by first|exact get8 (by omega)|exact get64 (by omega)|exact get32 (by omega)) (by first|exact aN|exact bC|exact bV|exact mem3|exact mem4|exact mem5|exact mem6|exact mem7|exact mem8|exact mem9) rfl ?_
  refine op_eql (aS rfl rfl rfl rfl) rfl rfl rfl (bW (aC rfl) rfl rfl rfl (aA (aB (s_3 (aP rfl (fun c14=>?_) (fun c14=>?_))))))
  ·refine At.seq fun _ s_4=>At.region (op_buildA (out:= [.int .u64 0,.int .u64 0,.int .u64 0,.int .u64 0]) (aC rfl) ze26 ae26 .nil rfl rfl (aG (nxl rfl) sz26 rfl rfl rfl rfl rfl B2 (by simp) sel0 (fun N2 B2=>?_)))
   simp only [setL,List.set]at B2
   refine aE (aC rfl) rfl rfl (aA (aB (s_4 (At.ret (aT ((bF (L1:= []) rfl (.cell rfl (bH (ds:= [_,_,_,_]) ag26 B2 rfl rfl aN) (.tmp rfl .nil)) rfl (.cons _ (.refl _)) (.refl _) ?_)))))))
   exact NumP.bad (numE2 (by omega) (by omega)) (by decide)
  refine At.skip (aB (s_2 (At.seq fun _ s_5=>At.region (aD (aC rfl) rfl rfl (aR (aV rfl) (.cons rfl .nil) (WFrom_long h hn) Try.func142 rfl rfl (by simp) rfl ?_)))))
  rintro v18 L18 ⟨rfl,rfl⟩
  change At _ _ _ [N2,R] _
  refine aD (aC rfl) rfl rfl (aM (aC rfl) rfl rfl rfl (aM (aC rfl) rfl rfl rfl (aU (aV rfl) ze26 rfl (fun N4 b4 B4=>?_))))
  change Blk N4 b4 _ [.int .u64 0,.int .u64 0,.int .u64 0,.int .u64 0]at B4
  refine aG (nxl rfl) sz26 rfl rfl rfl rfl rfl B4 (by simp) sel0 (fun N4 B4=>?_)
  simp only [setL,List.set]at B4
  refine aE (aC rfl) rfl rfl (aA (aB (s_5 (At.seq fun _ s_6=>At.seq fun _ s_7=>At.region (aD (aC rfl) rfl rfl (op_not (aC rfl) rfl rfl (aA (aB (s_7 (At.condT rfl (At.seq fun _ s_8=>At.region (op_buildA (out:= [.int .u64 0,.int .u64 0,.int .u64 0,.int .u64 0]) (aC rfl) ze26 ae26 .nil rfl rfl (aG (nxl rfl) sz26 rfl rfl rfl rfl rfl B2 (by simp) bZ (fun N2 B2=>?_))))))))))))))
  simp only [setL,List.set]at B2
  refine aE (aC rfl) rfl rfl (aA (aB (s_8 (At.ret (aT ((At.sub (L':= [N2,R]) (.cons_cons _ (.cons _ (.cons_cons _ (.slnil)))) (bF (L1:= []) rfl (.cell rfl (bH (ds:= [_,_,_,_]) ag26 B2 rfl rfl aN) (.tmp rfl .nil)) rfl (.cons _ (.refl _)) (.refl _) ?_))))))))
  exact NumP.bad (numE3 (by omega) (by omega)) (by decide)
 refine aJ rfl rfl rfl rfl rfl rfl rfl (aJ rfl rfl rfl rfl rfl rfl rfl (aJ rfl rfl rfl rfl rfl rfl rfl (aJ rfl rfl rfl rfl rfl rfl rfl (bM (aC rfl) rfl rfl rfl (aA (aB (s_3 (At.condF rfl (At.skip (aB (s_2 (At.seq fun _ s_9=>At.region (aD (aC rfl) rfl rfl (aR (aV rfl) (.cons rfl .nil) (WFrom_long h hn) Try.func142 rfl rfl (by simp) rfl ?_))))))))))))))
 rintro v18 L18 ⟨rfl,rfl⟩
 change At _ _ _ [N2,R] _
 refine aD (aC rfl) rfl rfl (aM (aC rfl) rfl rfl rfl (aM (aC rfl) rfl rfl rfl (aU (aV rfl) ze26 rfl (fun N4 b4 B4=>?_))))
 change Blk N4 b4 _ [.int .u64 0,.int .u64 0,.int .u64 0,.int .u64 0]at B4
 refine aG (nxl rfl) sz26 rfl rfl rfl rfl rfl B4 (by simp) sel0 (fun N4 B4=>?_)
 simp only [setL,List.set]at B4
 refine aE (aC rfl) rfl rfl (aA (aB (s_9 (At.seq fun _ s_10=>At.seq fun _ s_11=>At.region (aD (aC rfl) rfl rfl (op_not (aC rfl) rfl rfl (aA (aB (s_11 (At.condT rfl (At.seq fun _ s_12=>At.region (op_buildA (out:= [.int .u64 0,.int .u64 0,.int .u64 0,.int .u64 0]) (aC rfl) ze26 ae26 .nil rfl rfl (aG (nxl rfl) sz26 rfl rfl rfl rfl rfl B2 (by simp) bZ (fun N2 B2=>?_))))))))))))))
 simp only [setL,List.set]at B2
 refine aE (aC rfl) rfl rfl (aA (aB (s_12 (At.ret (aT ((At.sub (L':= [N2,R]) (.cons_cons _ (.cons _ (.cons_cons _ (.slnil)))) (bF (L1:= []) rfl (.cell rfl (bH (ds:= [_,_,_,_]) ag26 B2 rfl rfl aN) (.tmp rfl .nil)) rfl (.cons _ (.refl _)) (.refl _) ?_))))))))
 exact NumP.bad (numE3 (by omega) (by omega)) (by decide)
theorem Number_f {N:Heaplet} {ao:Option Addr} {n cap:Nat} {b:List UInt8} (h:RSl N 1 ao n cap (u8s b)):Fn Try.prog 125 #[.slice ao n cap] [] [N] (NumP b):=by
 rcases Nat.lt_or_ge 32 n with hn|hn
 ·exact Number_l h hn
 ·exact Number_s h hn
def OfP (a b c d:UInt64) (v:Value) (L:List Heaplet):Prop:=
 ∃M p k,v=.agg #[.bool false,.slice p (bytesOf (v64 [a,b,c,d])).length k,.slice none 0 0]∧L= [M]∧Row M 5 1 p (bytesOf (v64 [a,b,c,d])).length k (u8s (bytesOf (v64 [a,b,c,d])))
theorem Of_f (a b c d:UInt64):Fn Try.prog 59 #[.agg #[.int .u64 (a.toNat:Int),.int .u64 (b.toNat:Int),.int .u64 (c.toNat:Int),.int .u64 (d.toNat:Int)]] [] [] (OfP a b c d):=by
 refine Fn.enter (vs:= [.agg #[.int .u64 (a.toNat:Int),.int .u64 (b.toNat:Int),.int .u64 (c.toNat:Int),.int .u64 (d.toNat:Int)]]) Try.func59 rfl rfl rfl ?_
 intro E R hR
 change At _ _ E [R] _
 refine At.seq fun _ s_1=>At.region (op_box (aV rfl) rfl rfl rfl (fun N1 b1 B1=>aU (aV rfl) ze92 rfl (fun N2 b2 B2=>?_)))
 change Blk N2 b2 _ [.bool false,.slice none 0 0,.slice none 0 0]at B2
 refine aA (aB (s_1 (At.seq fun _ s_2=>At.region (aL (ds:= [_,_,_,_]) (aC rfl) ag26 rfl B1 rfl rfl bC rfl (aR (aV rfl) (.cons rfl .nil) (WShort_f a b c d) Try.func101 rfl rfl (by simp) rfl ?_)))))
 rintro v4 L4 ⟨M4,p,k,rfl,rfl,r4⟩
 change At _ _ _ [M4,N2,N1,R] _
 refine op_build (out:= [.bool false,_,.slice none 0 0]) (aC rfl) ze92 pl92 (.cons rfl .nil) rfl rfl (aG (nxl rfl) sz92 rfl rfl rfl rfl rfl B2 (by simp) bZ (fun N2 B2=>?_))
 simp only [setL,List.set]at B2
 refine aA (aB (s_2 (At.ret ((At.sub (L':= [N2,M4,R]) (.cons_cons _ (.cons_cons _ (.cons _ (.cons_cons _ (.slnil))))) (aZ (L1:= [M4]) rfl (.cell rfl (bH (ds:= [_,_,_]) ag92 B2 rfl rfl aN) .nil) (.cons _ (.refl _)) (.refl _) ?_))))))
 exact⟨M4,p,k,rfl,rfl,r4⟩
end Go.Proofs.Ytljacjjeinmfnaa
/- Layer 14: check, must, the closure that recovers, ReadTx of no bytes. No condition. -/
namespace Go.Proofs.Ytljacjjeinmfnaa
open Go Go.RowKit
set_option maxRecDepth 100000
/-- What a reader gives up with. -/
def gaveV (e:Int):Value:=.iface 117 (.agg #[.int .i64 e])
theorem FCheck_e {e:Int} (h:e≠0):FnE Try.prog 65 #[.int .i64 e] [] [] (fun _ _=>False) (fun v L=>v=gaveV e∧L= []):=by
 refine FnE.enter (vs:= [.int .i64 e]) Try.func65 rfl rfl rfl ?_
 intro E R hR
 change At _ _ E [R] _
 refine At.seq fun _ s_1=>At.region (aD (aC rfl) rfl rfl (op_neq (aC rfl) rfl rfl rfl (aA (aB (s_1 (aP rfl (fun c3=>?_) (fun c3=>?_)))))))
 rotate_left
 ·exact absurd h c3
 refine At.region (aD (aC rfl) rfl rfl (op_build (out:= [_]) (aC rfl) ze117 pl117 (.cons rfl .nil) rfl rfl (op_mkI (aC rfl) (by kernel_rfl) rfl rfl (op_panic rfl (fun _=>rfl) (a0 (L1:= []) (.refl _) (.refl _) ?_)))))
 exact⟨rfl,rfl⟩
theorem FCheck_0:Fn Try.prog 65 #[.int .i64 0] [] [] (fun v L=>v=.tuple #[]∧L= []):=by
 refine Fn.enter (vs:= [.int .i64 0]) Try.func65 rfl rfl rfl ?_
 intro E R hR
 change At _ _ E [R] _
 refine At.seq fun _ s_1=>At.region (aD (aC rfl) rfl rfl (op_neq (aC rfl) rfl rfl rfl (aA (aB (s_1 (aP rfl (fun c3=>?_) (fun c3=>?_)))))))
 ·exact absurd rfl c3
 refine At.skip (At.retNE (L1:= []) rfl .nil rfl (.refl _) (.refl _) ?_)
 exact⟨rfl,rfl⟩
theorem FMust_t:Fn Try.prog 66 #[.bool true] [] [] (fun v L=>v=.tuple #[]∧L= []):=by
 refine Fn.enter (vs:= [.bool true]) Try.func66 rfl rfl rfl ?_
 intro E R hR
 change At _ _ E [R] _
 refine At.seq fun _ s_1=>At.region (aD (aC rfl) rfl rfl (op_not (aC rfl) rfl rfl (aA (aB (s_1 (At.condF rfl (At.skip (At.retNE (L1:= []) rfl .nil rfl (.refl _) (.refl _) ?_))))))))
 exact⟨rfl,rfl⟩
theorem field_gave (e:Int) (w:World):(Instr.field 117 (.agg #[.int .i64 e]) 0).run Try.prog w=.ok (.int .i64 e) w:=by
 simp [Instr.field,Sem.run_bind,run_underlying Try.underlying117,part,isAgg,run_underlying Try.underlying49,asAgg]
/-- Not so: given up with ErrForm. -/
theorem FMust_f:FnE Try.prog 66 #[.bool false] [] [] (fun _ _=>False) (fun v L=>v=gaveV 2∧L= []):=by
 refine FnE.enter (vs:= [.bool false]) Try.func66 rfl rfl rfl ?_
 intro E R hR
 change At _ _ E [R] _
 refine At.seq fun _ s_1=>At.region (aD (aC rfl) rfl rfl (op_not (aC rfl) rfl rfl (aA (aB (s_1 (At.condT rfl (At.region (aQ (.cons rfl .nil) (FCheck_e (by decide)) (F:= [R]) Try.func65 rfl rfl (.refl _) (by simp) rfl ?_ ?_))))))))
 ·rintro v4 L4 ⟨rfl,rfl⟩
  change At _ _ _ [R] _
  refine a0 (L1:= []) (.refl _) (.refl _) ?_
  exact⟨rfl,rfl⟩
 intro _ _ h_;exact h_.elim
theorem tk_all {cs:List Value} {k:Nat} (h:cs.length=k):(cs.drop 0).take k=cs:=by rw [List.drop_zero,List.take_of_length_le (by omega)]
section
variable {bt be : Nat} {Nt Ne : Heaplet} {cs : List Value} {x : Value} {e : Int}
/-- The closure of ReadTx, where a reader gave up. -/
theorem FRecTx (Bt:Blk Nt bt 58 cs) (hcs:cs.length=53) (Be:Blk Ne be 49 [x]):FnRec Try.prog 63 #[.pointer (some ⟨bt,0,none⟩),.pointer (some ⟨be,0,none⟩)] (gaveV e) [Nt,Ne] (fun L=> ∃Nt Ne,L= [Nt,Ne]∧Blk Nt bt 58 z58∧Blk Ne be 49 [.int .i64 e]):=by
 unfold gaveV
 refine FnRec.enter (vs:= [.pointer (some ⟨bt,0,none⟩),.pointer (some ⟨be,0,none⟩)]) Try.func63 rfl rfl rfl rfl rfl ?_
 intro E R
 change At _ _ E [Nt,Ne,R] _
 refine At.seq fun _ s_1=>At.region (aD (aC rfl) rfl rfl (op_neNilF (aC rfl) (by kernel_rfl) rfl rfl (aA (aB (s_1 (At.condT rfl (At.planS [R] (.take 0 (.take 1 (.fork 2 false (.take 3 (.fork 4 false (.fork 5 true .done .nofork) .nofork)) (.fork 4 false (.fork 2 false (.take 3 (.fork 5 true .done .nofork)) .nofork) .nofork)))) (by kernel_rfl) (by kernel_rfl) (.cons _ (.cons _ (.refl _))) (op_build (out:=z58) (nxpf rfl rfl) ze58 pl58 .nil rfl rfl (aD (nxpf rfl rfl) rfl rfl (At.fork ?_ ?_))))))))))
 rotate_left
 ·refine At.fork ?_ ?_
  rotate_left
  ·exact At.pNo
  refine aG (nxpa rfl rfl) sz58 rfl rfl rfl rfl rfl Bt (by rw [z58_len,hcs];omega) sel0 (fun Nt Bt=>?_)
  rw [bD (by rw [z58_len,hcs])]at Bt
  refine At.andS (.cons _ (.cons _ (.refl _))) (At.fork ?_ ?_)
  rotate_left
  ·exact At.pNo
  refine op_assert1 (Nx.float (nxpa rfl rfl)) (by kernel_rfl) rfl rfl (At.andS (.cons _ (.cons _ (.refl _))) (op_field (cs:= [.int .i64 e]) (v:=.int .i64 e) (fo:=0) (nxpf rfl rfl) (fun w=>field_gave e w) rfl rfl (At.fork ?_ ?_)))
  rotate_left
  ·exact At.pNo
  refine aG (nxpl rfl rfl) sz49 rfl rfl rfl rfl rfl Be (by simp) bZ (fun Ne Be=>?_)
  simp only [setL,List.set]at Be
  refine At.pDone (At.perm aX (At.perm bZ (At.perm aX (At.retNE (L1:= [Nt,Ne]) rfl .nil rfl (.refl _) (.refl _) ?_))))
  exact⟨Nt,Ne,rfl,Bt,Be⟩
 refine op_assert1 (Nx.float (nxpa rfl rfl)) (by kernel_rfl) rfl rfl (At.andS (.cons _ (.cons _ (.refl _))) (op_field (cs:= [.int .i64 e]) (v:=.int .i64 e) (fo:=0) (nxpf rfl rfl) (fun w=>field_gave e w) rfl rfl (At.fork ?_ ?_)))
 rotate_left
 ·exact At.pNo
 refine aG (nxpa rfl rfl) sz58 rfl rfl rfl rfl rfl Bt (by rw [z58_len,hcs];omega) sel0 (fun Nt Bt=>?_)
 rw [bD (by rw [z58_len,hcs])]at Bt
 refine At.andS (.cons _ (.cons _ (.refl _))) (At.fork ?_ ?_)
 rotate_left
 ·exact At.pNo
 refine aG (nxpl rfl rfl) sz49 rfl rfl rfl rfl rfl Be (by simp) bZ (fun Ne Be=>?_)
 simp only [setL,List.set]at Be
 refine At.pDone (At.perm aX (At.perm bZ (At.perm aX (At.retNE (L1:= [Nt,Ne]) rfl .nil rfl (.refl _) (.refl _) ?_))))
 exact⟨Nt,Ne,rfl,Bt,Be⟩
theorem FRetTx (a b:Value):FnRet Try.prog 63 #[a,b]:=by
 refine FnRet.enter (vs:= [a,b]) Try.func63 rfl rfl rfl rfl rfl ?_
 intro E R
 change At _ _ E [R] _
 refine At.seq fun _ s_1=>At.region (aD (aC rfl) rfl rfl (op_neNilT (aC rfl) (by kernel_rfl) rfl rfl (aA (aB (s_1 (At.condF rfl (At.skip (At.retNE (L1:= []) rfl .nil rfl (.refl _) (.refl _) ?_))))))))
 exact rfl
end
theorem FEnv_nil {R:Heaplet} :Fn Try.prog 64 #[.slice none 0 0] [] [R] (fun v L=>v=.tuple #[.int .i64 0,.slice none 0 0,.int .i64 2]∧L= []):=
 (Envelope_f (b:= []) (RSl.nil R 1) (by decide)).mono fun v L h=>by
  rcases h with ⟨rfl,_,rfl⟩|⟨_,_,_,_,_,_,h,_⟩
  ·exact⟨rfl,rfl⟩
  ·cases h
/-- No bytes are no transaction. -/
theorem FReadTx_nil:Fn Try.prog 27 #[.slice none 0 0] [] [] (fun v L=>v=.tuple #[.agg z58.toArray,.int .i64 2]∧L= []):=by
 have hl:=z58_len
 refine Fn.enterD (vs:= [.slice none 0 0]) Try.func27 rfl rfl rfl ?_
 intro E R hR hE
 change At _ _ E [R] _
 refine At.seq fun _ s_1=>At.region (aU (aV rfl) ze58 rfl (fun N2 b2 B2=>?_))
 change Blk N2 b2 _ z58 at B2
 refine aU (aV rfl) ze49 rfl (fun N3 b3 B3=>?_)
 change Blk N3 b3 _ [.int .i64 0]at B3
 refine aA (aB (s_1 (At.seq fun _ s_2=>At.region (op_mkF (aC rfl) .nil (.cons rfl (.cons rfl .nil)) rfl (op_defer rfl hE (aA (aB (s_2 (At.seq fun _ s_3=>At.region (aD (aC rfl) rfl rfl (aR (aV rfl) (.cons rfl .nil) (FEnv_nil (R:=R)) Try.func64 rfl rfl (by simp) rfl ?_)))))))))))
 rintro v10 L10 ⟨rfl,rfl⟩
 change At _ _ _ [N3,N2,R] _
 refine aD (aC rfl) rfl rfl (aM (aC rfl) rfl rfl rfl (aM (aC rfl) rfl rfl rfl (aM (aC rfl) rfl rfl rfl (aE (aC rfl) rfl rfl (aE (aC rfl) rfl rfl (aG (nxl rfl) sz49 rfl rfl rfl rfl rfl B3 (by simp) sel0 (fun N3 B3=>?_)))))))
 simp only [setL,List.set]at B3
 refine aA (aB (s_3 (At.seq fun _ s_4=>At.region (aH (aC rfl) sc49 rfl B3 (by first|rfl) aN rfl ?_))))
 refine aQ (.cons rfl .nil) (FCheck_e (by decide)) (F:= [N3,N2,R]) Try.func65 rfl rfl (.refl _) (by simp) rfl ?_ ?_
 ·rintro v15 L15 ⟨rfl,rfl⟩
  change At _ _ _ [N3,N2,R] _
  refine aI ((At.perm aX (At.perm bZ (At.perm aX (At.panD (F:= [R]) hE (FRecTx B2 hl B3) Try.func63 rfl rfl (.refl _) ?_)))))
  rintro L_ ⟨N2,N3,rfl,B2,B3⟩
  change At _ _ _ [N2,N3,R] _
  refine bF (L1:= []) rfl (.cell rfl (bH (ds:=z58) ag58 B2 (tk_all hl) hl aN) (.cell rfl (res_scal sc49 B3 rfl bC) .nil)) rfl (.cons _ (.cons _ (.refl _))) (.refl _) ?_
  exact⟨rfl,rfl⟩
 intro _ _ h_;exact h_.elim
end Go.Proofs.Ytljacjjeinmfnaa
/- Plain laws: sums, differences and products of limbs, as package math/bits reckons them. No condition. -/
namespace Go.Proofs.Ytljacjjeinmfnaa
open Go Go.RowKit
/-- The sum and what is carried. -/
def addS (x y c:UInt64):UInt64:=UInt64.ofNat ((x.toNat+y.toNat+c.toNat) % 2^64)
def addC (x y c:UInt64):UInt64:=UInt64.ofNat ((x.toNat+y.toNat+c.toNat)/2^64)
theorem addS_nat (x y c:UInt64):(addS x y c).toNat=(x.toNat+y.toNat+c.toNat) % 2^64:=by rw [addS,UInt64.toNat_ofNat',Nat.mod_mod]
theorem addC_nat (x y c:UInt64) (hc:c.toNat≤1):(addC x y c).toNat=(x.toNat+y.toNat+c.toNat)/2^64:=by
 have hx:=x.toNat_lt
 have hy:=y.toNat_lt
 rw [addC,UInt64.toNat_ofNat',Nat.mod_eq_of_lt]
 omega
theorem add64_law (x y c:UInt64) (hc:c.toNat≤1):(addS x y c).toNat+(addC x y c).toNat*2^64=x.toNat+y.toNat+c.toNat∧(addC x y c).toNat≤1:=by
 have hx:=x.toNat_lt
 have hy:=y.toNat_lt
 rw [addS_nat,addC_nat _ _ _ hc]
 constructor<;>omega
/-- The difference and what is borrowed. -/
def subS (x y c:UInt64):UInt64:=UInt64.ofNat ((x.toNat+2^64- y.toNat- c.toNat) % 2^64)
def subC (x y c:UInt64):UInt64:=if x.toNat<y.toNat+c.toNat then 1 else 0
theorem subS_nat (x y c:UInt64):(subS x y c).toNat=(x.toNat+2^64- y.toNat- c.toNat) % 2^64:=by rw [subS,UInt64.toNat_ofNat',Nat.mod_mod]
theorem subC_nat (x y c:UInt64):(subC x y c).toNat=if x.toNat<y.toNat+c.toNat then 1 else 0:=by
 unfold subC;split<;>rfl
theorem sub64_law (x y c:UInt64) (hc:c.toNat≤1):(subS x y c).toNat+y.toNat+c.toNat=x.toNat+(subC x y c).toNat*2^64∧(subC x y c).toNat≤1:=by
 have hx:=x.toNat_lt
 have hy:=y.toNat_lt
 rw [subS_nat,subC_nat]
 split<;>constructor<;>omega
/-- The product's upper half. -/
def mulH (x y:UInt64):UInt64:=UInt64.ofNat (x.toNat*y.toNat/2^64)
theorem mul_lt64 (x y:UInt64):x.toNat*y.toNat<2^64*2^64:=Nat.mul_lt_mul'' x.toNat_lt y.toNat_lt
theorem mul64_law (x y:UInt64):(mulH x y).toNat*2^64+(x*y).toNat=x.toNat*y.toNat:=by
 have h:=mul_lt64 x y
 rw [mulH,UInt64.toNat_ofNat',UInt64.toNat_mul,Nat.mod_eq_of_lt (Nat.div_lt_of_lt_mul h)]
 exact Nat.div_add_mod' _ _
/-- As the text reckons it. -/
theorem mulH_eq (x y:UInt64):
 shr64 x 32*shr64 y 32+shr64 (shr64 x 32*(y&&&4294967295)+shr64 ((x&&&4294967295)*(y&&&4294967295)) 32) 32+
  shr64 ((shr64 x 32*(y&&&4294967295)+shr64 ((x&&&4294967295)*(y&&&4294967295)) 32&&&4294967295)+(x&&&4294967295)*shr64 y 32) 32=mulH x y:=by
 have hx:=x.toNat_lt
 have hy:=y.toNat_lt
 obtain⟨h1,h2,h3,h4⟩:=Lib.mul64_hi x.toNat y.toNat hx hy
 have hand: ∀z:UInt64,(z&&&4294967295).toNat=z.toNat % 4294967296:=fun z=>by
  rw [UInt64.toNat_and];exact Nat.and_two_pow_sub_one_eq_mod z.toNat 32
 have hshr: ∀z:UInt64,(shr64 z 32).toNat=z.toNat/4294967296:=fun z=>by
  rw [shr64,UInt64.toNat_ofNat'];have:=z.toNat_lt;omega
 apply UInt64.toNat_inj.1
 have hm:(mulH x y).toNat=x.toNat*y.toNat/18446744073709551616:=by
  have h:=mul_lt64 x y
  rw [mulH,UInt64.toNat_ofNat',Nat.mod_eq_of_lt (Nat.div_lt_of_lt_mul h)]
 have hm2:=(mulH x y).toNat_lt
 rw [hm]at hm2⊢
 simp only [UInt64.toNat_add,UInt64.toNat_mul,hand,hshr]
 rw [←h4]at hm2⊢
 rw [Nat.mod_eq_of_lt h1]
 have p1:=Lib.half_mul_le (a:=x.toNat/4294967296) (b:=y.toNat/4294967296) (by omega) (by omega)
 have p2:=Lib.half_mul_le (a:=x.toNat/4294967296) (b:=y.toNat % 4294967296) (by omega) (by omega)
 have p3:=Lib.half_mul_le (a:=x.toNat % 4294967296) (b:=y.toNat/4294967296) (by omega) (by omega)
 have p4:=Lib.half_mul_le (a:=x.toNat % 4294967296) (b:=y.toNat % 4294967296) (by omega) (by omega)
 generalize x.toNat/4294967296*(y.toNat/4294967296)=a at*
 generalize x.toNat/4294967296*(y.toNat % 4294967296)=b at*
 generalize x.toNat % 4294967296*(y.toNat/4294967296)=c at*
 generalize x.toNat % 4294967296*(y.toNat % 4294967296)=d at*
 omega
end Go.Proofs.Ytljacjjeinmfnaa
/- Plain laws: sums, differences and products of numbers in limbs, limb by limb. No condition. -/
namespace Go.Proofs.Ytljacjjeinmfnaa
theorem v64_snoc (w:List UInt64) (x:UInt64):v64 (w++ [x])=v64 w+2^(64*w.length)*x.toNat:=by
 rw [v64_append]
 simp only [v64,n64,val,List.map_cons,List.map_nil,Nat.mul_zero,Nat.add_zero]
theorem v64_take_all {l:List UInt64} {k:Nat} (h:l.length≤k):v64 (l.take k)=v64 l:=by rw [List.take_of_length_le h]
theorem v64_take_succD (l:List UInt64) (k:Nat):v64 (l.take (k+1))=v64 (l.take k)+2^(64*k)*(l.getD k 0).toNat:=by
 rcases Nat.lt_or_ge k l.length with h|h
 ·exact v64_take_succ h
 ·rw [v64_take_all h,v64_take_all (by omega),List.getD_eq_getElem?_getD,List.getElem?_eq_none h]
  simp
theorem set_mid {α:Type} {A B:List α} {x y:α} {j:Nat} (h:A.length=j):(A++x::B).set j y=(A++ [y])++B:=by
 subst h;simp
theorem getD_mid {α:Type} {A B:List α} {x z:α} {j:Nat} (h:A.length=j):(A++x::B).getD j z=x:=by
 subst h;simp
theorem pow64 (k:Nat):(2:Nat)^(64*(k+1))=2^(64*k)*18446744073709551616:=by rw [show 64*(k+1)=64*k+64 by omega,Nat.pow_add]
theorem add_round {w a b:List UInt64} {k:Nat} {c:UInt64} (hw:w.length=k) (hc:c.toNat≤1) (hv:v64 w+c.toNat*2^(64*k)=v64 (a.take k)+v64 (b.take k)):
 v64 (w++ [addS (a.getD k 0) (b.getD k 0) c])+(addC (a.getD k 0) (b.getD k 0) c).toNat*2^(64*(k+1))=v64 (a.take (k+1))+v64 (b.take (k+1)):=by
 have h:=(add64_law (a.getD k 0) (b.getD k 0) c hc).1
 rw [v64_snoc,hw,v64_take_succD,v64_take_succD,pow64]
 have h2:=congrArg (2^(64*k)* ·) h
 simp only [Nat.mul_add]at h2
 generalize (addS (a.getD k 0) (b.getD k 0) c).toNat=s at*
 generalize (addC (a.getD k 0) (b.getD k 0) c).toNat=t at*
 have e:t*(2^(64*k)*18446744073709551616)=2^(64*k)*(t*2^64):=by rw [Nat.mul_left_comm]
 rw [e]
 rw [Nat.mul_comm c.toNat]at hv
 omega
theorem sub_round {w a b:List UInt64} {k:Nat} {c:UInt64} (hw:w.length=k) (hc:c.toNat≤1) (hv:v64 w+v64 (b.take k)=v64 (a.take k)+c.toNat*2^(64*k)):
 v64 (w++ [subS (a.getD k 0) (b.getD k 0) c])+v64 (b.take (k+1))=v64 (a.take (k+1))+(subC (a.getD k 0) (b.getD k 0) c).toNat*2^(64*(k+1)):=by
 have h:=(sub64_law (a.getD k 0) (b.getD k 0) c hc).1
 rw [v64_snoc,hw,v64_take_succD,v64_take_succD,pow64]
 have h2:=congrArg (2^(64*k)* ·) h
 simp only [Nat.mul_add]at h2
 generalize (subS (a.getD k 0) (b.getD k 0) c).toNat=s at*
 generalize (subC (a.getD k 0) (b.getD k 0) c).toNat=t at*
 have e:t*(2^(64*k)*18446744073709551616)=2^(64*k)*(t*2^64):=by rw [Nat.mul_left_comm]
 rw [e]
 rw [Nat.mul_comm c.toNat]at hv
 omega
theorem mul_le64 (x y:UInt64):x.toNat*y.toNat≤340282366920938463426481119284349108225:=
 Nat.mul_le_mul (show x.toNat≤18446744073709551615 by have:=x.toNat_lt;omega) (show y.toNat≤18446744073709551615 by have:=y.toNat_lt;omega)
theorem cell_nat {P H l s1 c1 s2 c2 z c:Nat} (h1:s1+c1*2^64=l+z) (h2:s2+c2*2^64=s1+c) (h3:H*2^64+l=P) (h4:P≤340282366920938463426481119284349108225) (hz:z<2^64) (hc:c<2^64):
 s2+((H+c1) % 2^64+c2) % 2^64*2^64=P+z+c:=by
 have e:s2+(H+c1+c2)*2^64=P+z+c:=by rw [Nat.add_mul,Nat.add_mul];exact Nat.le_antisymm (by omega) (by omega)
 have b:H+c1+c2<2^64:=by omega
 rw [Nat.mod_eq_of_lt (show H+c1<2^64 by omega),Nat.mod_eq_of_lt b,e]
theorem mul_cell (x y z c:UInt64):(addS (addS (x*y) z 0) c 0).toNat+(mulH x y+addC (x*y) z 0+addC (addS (x*y) z 0) c 0).toNat*2^64=x.toNat*y.toNat+z.toNat+c.toNat:=by
 obtain⟨h1,k1⟩:=add64_law (x*y) z 0 (by decide)
 obtain⟨h2,k2⟩:=add64_law (addS (x*y) z 0) c 0 (by decide)
 rw [UInt64.toNat_add,UInt64.toNat_add]
 exact cell_nat h1 h2 (mul64_law x y) (mul_le64 x y) z.toNat_lt c.toNat_lt
theorem v64_setD {p:List UInt64} {j:Nat} {y:UInt64} (h:j<p.length):v64 (p.set j y)+(p.getD j 0).toNat*2^(64*j)=v64 p+y.toNat*2^(64*j):=by
 have:=v64_set (y:=y) h
 rwa [List.getD_eq_getElem?_getD,List.getElem?_eq_getElem h]
theorem mul_round {p b:List UInt64} {i k V:Nat} {x c:UInt64} (hj:i+k<p.length) (hv:v64 p+c.toNat*2^(64*(i+k))=V+2^(64*i)*(x.toNat*v64 (b.take k))):
 v64 (p.set (i+k) (addS (addS (x*b.getD k 0) (p.getD (i+k) 0) 0) c 0))+(mulH x (b.getD k 0)+addC (x*b.getD k 0) (p.getD (i+k) 0) 0+addC (addS (x*b.getD k 0) (p.getD (i+k) 0) 0) c 0).toNat*2^(64*(i+(k+1)))=
  V+2^(64*i)*(x.toNat*v64 (b.take (k+1))):=by
 have h:=mul_cell x (b.getD k 0) (p.getD (i+k) 0) c
 generalize hs:addS (addS (x*b.getD k 0) (p.getD (i+k) 0) 0) c 0=s at*
 generalize hm:(mulH x (b.getD k 0)+addC (x*b.getD k 0) (p.getD (i+k) 0) 0+addC (addS (x*b.getD k 0) (p.getD (i+k) 0) 0) c 0).toNat=m at*
 have h1:=v64_setD (y:=s) hj
 have eE:2^(64*i)*2^(64*k)=2^(64*(i+k)):=by rw [←Nat.pow_add,Nat.mul_add]
 rw [v64_take_succD, ←Nat.add_assoc,pow64]
 have e1:2^(64*i)*(x.toNat*(v64 (b.take k)+2^(64*k)*(b.getD k 0).toNat))=2^(64*i)*(x.toNat*v64 (b.take k))+2^(64*(i+k))*(x.toNat*(b.getD k 0).toNat):=by
  rw [←eE,Nat.mul_add,Nat.mul_add,Nat.mul_left_comm x.toNat, ←Nat.mul_assoc _ (2^(64*k))]
 rw [e1]
 generalize 2^(64*(i+k))=T at*
 have h2:=congrArg (T* ·) h
 simp only [Nat.mul_add]at h2
 have e2:m*(T*18446744073709551616)=T*(m*2^64):=by rw [Nat.mul_left_comm]
 rw [e2]
 rw [Nat.mul_comm c.toNat]at hv
 rw [Nat.mul_comm (p.getD (i+k) 0).toNat,Nat.mul_comm s.toNat]at h1
 omega
theorem mul_outer {p a b:List UInt64} {i:Nat} {c:UInt64} (hp:p.length=i+b.length) (hv:v64 p+c.toNat*2^(64*(i+b.length))=v64 (a.take i)*v64 b+2^(64*i)*((a.getD i 0).toNat*v64 (b.take b.length))):
 v64 (p++ [c])=v64 (a.take (i+1))*v64 b:=by
 rw [v64_snoc,hp,v64_take_succD,Nat.add_mul,Nat.mul_assoc,Nat.mul_comm _ c.toNat,hv,List.take_length]
/-! Shifts: two limbs that lie side by side give one. -/
theorem shl64_nat (x:UInt64) (s:Nat):(shl64 x s).toNat=x.toNat*2^s % 2^64:=by rw [shl64,UInt64.toNat_ofNat']
theorem shr64_nat (x:UInt64) (s:Nat):(shr64 x s).toNat=x.toNat/2^s:=by
 rw [shr64,UInt64.toNat_ofNat',Nat.mod_eq_of_lt (Nat.lt_of_le_of_lt (Nat.div_le_self _ _) x.toNat_lt)]
theorem limb_mid {x y:UInt64} {W r:Nat} (hr:r≤64) (hy:W % 2^64=y.toNat):(x.toNat+2^64*W)/2^r % 2^64=(shr64 x r |||shl64 y (64- r)).toNat:=by
 have hx:=x.toNat_lt
 rw [UInt64.toNat_or,shr64_nat,shl64_nat, ←hy]
 have e1:(2:Nat)^64=2^r*2^(64- r):=by rw [←Nat.pow_add];congr 1;omega
 have hp:0<2^r:=Nat.pow_pos (by decide)
 have e2:(x.toNat+2^64*W)/2^r=x.toNat/2^r+2^(64- r)*W:=by
  rw [e1,Nat.mul_assoc,Nat.add_mul_div_left _ _ hp]
 have e3:W % 2^64*2^(64- r) % 2^64=W % 2^r*2^(64- r):=by
  have:W % 2^64*2^(64- r) % 2^64=W % 2^64*2^(64- r) % (2^r*2^(64- r)):=by rw [←e1]
  rw [this,Nat.mul_mod_mul_right,Nat.mod_mod_of_dvd _ (Nat.pow_dvd_pow 2 hr)]
 have e4:2^(64- r)*W % 2^64=W % 2^r*2^(64- r):=by
  have:2^(64- r)*W % 2^64=W*2^(64- r) % (2^r*2^(64- r)):=by rw [←e1,Nat.mul_comm]
  rw [this,Nat.mul_mod_mul_right]
 have hlt:x.toNat/2^r<2^(64- r):=by
  rw [Nat.div_lt_iff_lt_mul hp, ←Nat.pow_add,show 64- r+r=64 by omega];exact hx
 have hsum:x.toNat/2^r+W % 2^r*2^(64- r)<2^64:=by
  have h1:W % 2^r+1≤2^r:=Nat.mod_lt _ hp
  have h2:=Nat.mul_le_mul_right (2^(64- r)) h1
  rw [←e1,Nat.add_mul]at h2
  omega
 rw [e2,e3,Nat.add_mod,e4,Nat.mod_eq_of_lt (Nat.lt_of_le_of_lt (Nat.div_le_self _ _) hx),Nat.mod_eq_of_lt hsum]
 rw [Nat.or_comm,Nat.mul_comm (W % 2^r)]
 rw [Nat.add_comm,Nat.two_pow_add_eq_or_of_lt hlt]
end Go.Proofs.Ytljacjjeinmfnaa
