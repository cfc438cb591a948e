/- Several texts in one: see the remarks ahead of each part. No condition but those told there. -/
import Derived.Test.YtjfagifjajielaaGreatX1
import Derived.Test.YtjfagifjajielaaGreatX6
import Derived.Test.YtjfagifjajielaaGreatX9
import Derived.Test.YtjfagifjajielaaGreatX8
import Derived.Test.YtjfagifjajielaaGreatX4
set_option linter.unusedSimpArgs false
set_option linter.unusedVariables false
namespace Go.Proofs.YtjfagifjajielaaGreat
open Go Go.RowKit
set_option maxRecDepth 100000
theorem rlpHead_le (b n:Nat) (h:n<256^8):(rlpHead b n).length≤9:=by
 unfold rlpHead
 split
 ·simp
 ·have:=bytesOf_le h
  simp;omega
def EncP (t:It) (lists:Nat) (v:Value) (L:List Heaplet):Prop:=
 (∃M a cap,v=.tuple #[.slice a t.form.length cap,.int .i64 0]∧L= [M]∧Row M 5 1 a t.form.length cap (u8s t.form)∧lists+t.depth≤1024)∨
 (v=.tuple #[.slice none 0 0,.int .i64 7]∧L= []∧ ¬lists+t.depth≤1024)
theorem encode_bs {N:Heaplet} {bs:List UInt8} {its:List It} {ab ai:Option Addr} {nb cb ni ci:Nat} (h:RSl N 1 ab nb cb (u8s bs)) (lists:Nat) (q:Int) (hl:lists≤1024) (hlen:(It.mk false bs its).form.length≤1099511627776):
 Fn Tryz.prog 114 #[.agg #[.bool false,.slice ab nb cb,.slice ai ni ci],.int .i64 q] [] [N] (EncP (.mk false bs its) lists):=by
 have hn:=h.len8
 have hcap:=h.cap63
 have hd:lists+(It.mk false bs its).depth≤1024:=by simpa [It.depth]using hl
 have hf:=form_false bs its
 have hsm:= @small_iffI bs
 have hub:small bs≠true→(rlpHead 128 nb).length+nb≤1099511627776:=fun e=>by rw [hf,if_neg e,List.length_append,hn]at hlen;exact hlen
 refine Fn.enter (vs:= [.agg #[.bool false,.slice ab nb cb,.slice ai ni ci],.int .i64 q]) Tryz.func114 U U U ?_
 intro E R hR
 have h:=h.le (hR N (by simp))
 change At _ _ E [R] _
 refine aC fun _ s_1=>aA (op_box aZ U U U (fun N2 b2 B2=>aG U U (aG U U (aB (s_1 (aC fun _ s_2=>aC fun _ s_3=>aA (aI aD fl91_0 U U (aV aD sc4 U B2 U bZ U ?_))))))))
 refine op_not aD U U (aB (s_3 (At.condT U (aC fun _ s_4=>aC fun _ s_5=>aA (aI aD fl91_1 U U (aV aD sc22 U B2 U bZ U ?_))))))
 refine bG aD se22 U U (op_eql aD U U U (aF U U (cJ (d:=18) U (fun g18=>?_) (fun g18=>?_))))
 ·refine aI (cL U U U U) fl91_1 U U (aV (cL U U U U) sc22 U B2 U bZ U ?_)
  refine bU (cL U U U U) se22 U U (by assumption) (show _=(((0:Nat)):Int)from by omega) (by omega) U ?_
  refine cC (cL U U U U) sc5 U (by assumption) (by first|exact get8 (by omega)|exact get64 (by omega)|exact get32 (by omega)) (by simp) U ?_
  refine op_lss (cL U U U U) U U U (bO aD U U U (aB (s_5 (aO U (fun c24=>?_) (fun c24=>?_)))))
  ·refine aC fun _ s_6=>aA (aI aD fl91_1 U U (aV aD sc22 U B2 U bZ U ?_))
   refine bU aD se22 U U (by assumption) (show _=((0:Nat):Int)from U) (by omega) U ?_
   refine cC aD sc5 U (by assumption) (by first|exact get8 (by omega)|exact get64 (by omega)|exact get32 (by omega)) (by simp) U ?_
   refine op_lit aZ Tryz.underlying22 ze5 sz5 (.cons U .nil) U U (by simp [Value.cells]) U U U (fun N29 a29 r29=>?_)
   simp only [flatV,List.flatMap_cons,List.flatMap_nil,Value.cells,List.append_nil,List.cons_append,List.nil_append]at r29
   have s29:=r29.rsl
   refine aG U U (aG U U (aB (s_6 (aR (aJ (aJ ((a7 (bV (L1:= [N29]) U (.tmp U (.tmp U .nil)) U (.refl _) aM ?_)))))))))
   have e:(It.mk false bs its).form= [bs.getD 0 0]:=by
    rw [hf,if_pos (hsm.2 ⟨by omega,by omega⟩)]
    exact one_eq (by omega)
   exact .inl ⟨N29,a29,1,by rw [e];rfl,rfl,by rw [e];exact r29,hd⟩
  refine aQ (aE (s_4 (aC fun _ s_7=>At.drawn [6] [0,1,2,4,5,3,6,7,8] (by kernel_rfl) (by kernel_rfl) (aI (aS U U U (by kernel_rfl)) fl91_1 U U (aV (aS U U U (by kernel_rfl)) sc22 U B2 U bZ U ?_)))))
  refine bG (aS U U U (by kernel_rfl)) se22 U U (aI (aS U U U (by kernel_rfl)) fl91_1 U U (aV (aS U U U (by kernel_rfl)) sc22 U B2 U bZ U ?_))
  have hub':=hub (fun e=>by have:=hsm.1 e;omega)
  refine aH (nxoa U U U) (.cons U (.cons U .nil)) (head_f 128 nb (by omega) (by omega)) Tryz.func153 U U (by simp) U ?_
  rintro _ _ ⟨M33,a33,p33,rfl,rfl,r33⟩
  show At _ _ _ [M33,N2,R] _
  refine op_append (nxos rfl rfl rfl rfl) Tryz.underlying22 Tryz.underlying22 te5 rfl rfl r33 (by assumption) (by simp) (by first|exact one_u8s _|exact one_u64s _|exact one_u32s _|(intro u hu;simp at hu;subst hu;rfl)) (by omega) (by omega) sel0 rfl (fun N36 a36 p36 r36=>?_)
  have s36:=r36.rsl
  refine bX (aS U U U (by kernel_rfl)) U U (bX (aS U U U (by kernel_rfl)) U U (cG (aE (s_7 (aR (aJ ((a7 (bV (L1:= [N36]) U (.tmp U (.tmp U .nil)) U (.refl _) aM ?_)))))))))
  have e:(It.mk false bs its).form=rlpHead 128 nb++bs:=by rw [hf,if_neg (fun e=>by have:=hsm.1 e;omega),hn]
  exact .inl ⟨N36,a36,p36,by rw [e,List.length_append,hn],rfl,by rw [e,List.length_append,hn,u8s,List.map_append];exact r36,hd⟩
 refine aU U U U U U U U (aU U U U U U U U (aU U U U U U U U (aU U U U U U U U (aU U U U U U U U (cB aD U U U (aB (s_5 (At.condF U (aQ (aE (s_4 (aC fun _ s_8=>At.drawn [6] [0,1,2,4,5,3,6,7,8] (by kernel_rfl) (by kernel_rfl) (aI (aS U U U (by kernel_rfl)) fl91_1 U U (aV (aS U U U (by kernel_rfl)) sc22 U B2 U bZ U ?_))))))))))))))
 refine bG (aS U U U (by kernel_rfl)) se22 U U (aI (aS U U U (by kernel_rfl)) fl91_1 U U (aV (aS U U U (by kernel_rfl)) sc22 U B2 U bZ U ?_))
 have hub':=hub (fun e=>by have:=hsm.1 e;omega)
 refine aH (nxoa U U U) (.cons U (.cons U .nil)) (head_f 128 nb (by omega) (by omega)) Tryz.func153 U U (by simp) U ?_
 rintro _ _ ⟨M33,a33,p33,rfl,rfl,r33⟩
 show At _ _ _ [M33,N2,R] _
 refine op_append (nxos rfl rfl rfl rfl) Tryz.underlying22 Tryz.underlying22 te5 rfl rfl r33 (by assumption) (by simp) (by first|exact one_u8s _|exact one_u64s _|exact one_u32s _|(intro u hu;simp at hu;subst hu;rfl)) (by omega) (by omega) sel0 rfl (fun N36 a36 p36 r36=>?_)
 have s36:=r36.rsl
 refine bX (aS U U U (by kernel_rfl)) U U (bX (aS U U U (by kernel_rfl)) U U (cG (aE (s_8 (aR (aJ ((a7 (bV (L1:= [N36]) U (.tmp U (.tmp U .nil)) U (.refl _) aM ?_)))))))))
 have e:(It.mk false bs its).form=rlpHead 128 nb++bs:=by rw [hf,if_neg (fun e=>by have:=hsm.1 e;omega),hn]
 exact .inl ⟨N36,a36,p36,by rw [e,List.length_append,hn],rfl,by rw [e,List.length_append,hn,u8s,List.map_append];exact r36,hd⟩
theorem encode_its {N:Heaplet} {its:List It} {xs:List IV} {ab ai:Option Addr} {nb cb ni ci:Nat} {bs:List UInt8} (hI:RSl N 3 ai ni ci (cellsI xs)) (hX:ItsN N its xs) (lists:Nat) (q:Int) (hq:q=lists) (hl:lists≤1024) (hlen:(It.mk true bs its).form.length≤1099511627776)
 (ih: ∀t∈its, ∀(N:Heaplet) (x:IV) (lists:Nat) (q:Int),ItN N t x→q=lists→lists≤1024→t.form.length≤1099511627776→Fn Tryz.prog 114 #[.agg #[.bool x.l,.slice x.ab x.nb x.cb,.slice x.ai x.ni x.ci],.int .i64 q] [] [N] (EncP t lists)):
 Fn Tryz.prog 114 #[.agg #[.bool true,.slice ab nb cb,.slice ai ni ci],.int .i64 q] [] [N] (EncP (.mk true bs its) lists):=by
 have hn:xs.length=ni:=by have:=hI.1;rw [length_cellsI]at this;omega
 have hn2:=hX.length
 have hcap:=hI.cap63
 have hf:=form_true bs its
 have hlf:(rlpHead 192 (It.forms its).length).length+(It.forms its).length≤1099511627776:=by rw [hf,List.length_append]at hlen;exact hlen
 have hdep:(It.mk true bs its).depth=It.depths its+1:=by simp [It.depth]
 refine Fn.enter (vs:= [.agg #[.bool true,.slice ab nb cb,.slice ai ni ci],.int .i64 q]) Tryz.func114 U U U ?_
 intro E R hR
 have hI:=hI.le (hR N (by simp))
 have hX:=hX.le (hR N (by simp))
 change At _ _ E [R] _
 refine aC fun _ s_1=>aA (op_box aZ U U U (fun N2 b2 B2=>aG U U (aG U U (aB (s_1 (aC fun _ s_2=>aC fun _ s_3=>aA (aI aD fl91_0 U U (aV aD sc4 U B2 U bZ U ?_))))))))
 refine op_not aD U U (aB (s_3 (At.condF U (aQ (aE (s_2 (aC fun _ s_4=>aC fun _ s_5=>aA (aF U U (op_eql aD U U U (aB (s_5 (aO U (fun c38=>?_) (fun c38=>?_)))))))))))))
 ·refine aC fun _ s_6=>aA (aG U U (aG U U (aB (s_6 (aR (aJ ((bP (bV (L1:= []) U (.tmp U (.tmp U .nil)) U (.refl _) aM ?_)))))))))
  exact .inr ⟨rfl,rfl,by omega⟩
 refine aQ (aE (s_4 (aC fun _ s_7=>aA (aG U U (aB (s_7 (aC fun _ s_8=>aC fun _ s_9=>aA (aI aD fl91_2 U U (aV aD sc89 U B2 U bZ U ?_)))))))))
 refine bG aD se89 U U (aF U U (aB (s_9 (aT (At.empty (bR (permSel1 (bR (cF (fun fr_ hp_ ms_=> ∃(k np:Nat) (ap:Option Addr) (cp:Nat) (Np:Heaplet),fr_= [(1,.int .i64 q),(2,.pointer (some ⟨b2,0,none⟩)),(6,.slice ap np cp),(40,.slice ai ni ci),(41,.int .i64 (ni:Int)),(42,.int .i64 (k:Int))]∧hp_= [N2,Np,R]∧ni- k=ms_∧(k≤ni)∧(np=(It.forms (its.take k)).length)∧(Row Np 5 1 ap np cp (u8s (It.forms (its.take k))))∧(∀t∈its.take k,lists+1+t.depth≤1024)) ?_ aM ⟨0,0,none,0,nilH,rfl,rfl,rfl,by omega,by simp [It.forms],by simpa [It.forms,u8s]using Row.nil nilH 5 1,by simp⟩ ?_)))))))))
 ·repeat first|apply bD|exact .nil|exact lkI rfl (by omega)|rfl
 rintro _ _ _ ⟨k,np,ap,cp,Np,rfl,rfl,rfl,hk,hnp,rp,hd⟩
 have sp:=rp.rsl
 have hle:=forms_take_le its k
 refine aC fun _ s_10=>aA (op_lss aD U U U (aB (s_10 (aC fun _ s_11=>aO U (fun c43=>?_) (fun c43=>?_)))))
 ·have hlt:k<its.length:=by omega
  obtain⟨x,hx,hi⟩:=hX.get (List.getElem?_eq_getElem hlt)
  have hts:=forms_take_succ (List.getElem?_eq_getElem hlt)
  have hfe:=form_le (List.getElem_mem hlt)
  have hle2:=forms_take_le its (k+1)
  have hsum:np+(its[k]).form.length≤(It.forms its).length:=by rw [hts,List.length_append]at hle2;omega
  refine aQ (aE (s_11 (aC fun _ s_12=>aT (aC fun _ s_13=>aA (op_idxE aD se89 U U (by assumption) (show _=(((k:Nat)):Int)from by omega) (by omega) U ?_)))))
  refine op_loadAggE aD ag91 U (by assumption) (by exact cells_at hx) (by rfl) (by omega) (by simp) U ?_
  refine bE aZ ze91 U (fun N8 b8 B8=>?_)
  change Blk N8 b8 _ [.bool false,.slice none 0 0,.slice none 0 0]at B8
  refine aX nxQ sz91 U U U U U B8 (by simp) sel0 (fun N8 B8=>?_)
  simp only [setL,List.set]at B8
  refine aB (s_13 (aC fun _ s_14=>aA (aY (ds:= [_,_,_]) aD ag91 U B8 U U bZ U (aF U U (a6 aD U U (by omega) (by omega) U (aH aZ (.cons U (.cons U .nil)) (ih its[k] (List.getElem_mem hlt) R x (lists+1) (q+1) hi (by omega) (by omega) (by omega)) Tryz.func114 U U (by simp) U ?_))))))
  rintro _ _ (⟨M50,a50,p50,rfl,rfl,r50,hd50⟩|⟨rfl,rfl,hd50⟩)
  ·show At _ _ _ [M50,N8,N2,Np,R] _
   have s50:=r50.rsl
   refine aF U U (aN aD U U U (aN aD U U U (aG U U (aG U U (aB (s_14 (aC fun _ s_15=>aC fun _ s_16=>aA (aF U U (op_neq aD U U U (aB (s_16 (At.condF U (aQ (aE (s_15 (aA (aF U U (aF U U ?_))))))))))))))))))
   refine op_append nxQ Tryz.underlying22 Tryz.underlying22 te5 rfl rfl rp (by assumption) (by simp) (by first|exact one_u8s _|exact one_u64s _|exact one_u32s _|(intro u hu;simp at hu;subst hu;rfl)) (by omega) (by omega) sel3 rfl (fun N58 a58 p58 r58=>?_)
   have s58:=r58.rsl
   refine aG U U (At.opsNil (a0 (aE (s_12 (aA (a6 aD U U (by omega) (by omega) U (aF U U (aB (cA (a7 (bR (permSel1 (bR ?_)))))))))))))
   refine bQ ?_ aM ⟨k+1,np+(its[k]).form.length,a58,p58,N58,rfl,rfl,rfl,by omega,by rw [hts,List.length_append,hnp],by rw [hts,u8s,List.map_append];exact r58,fun t ht=>by rw [List.take_succ_eq_append_getElem hlt,List.mem_append]at ht;rcases ht with ht|ht;exact hd t ht;rw [List.mem_singleton.1 ht];exact hd50⟩ ?_
   ·repeat first|apply bD|exact .nil|exact lkI rfl (by omega)|rfl
   ·omega
  show At _ _ _ [N8,N2,Np,R] _
  refine aF U U (aN aD U U U (aN aD U U U (aG U U (aG U U (aB (s_14 (aC fun _ s_17=>aC fun _ s_18=>aA (aF U U (op_neq aD U U U (aB (s_18 (At.condT U (aC fun _ s_19=>aA (aF U U (aG U U (aG U U (aB (s_19 (aR (aJ (b9 (aJ (aJ (b9 (aJ ((cA (a7 (bP (bV (L1:= []) U (.tmp U (.tmp U .nil)) U (.refl _) aM (.inr ⟨rfl,rfl,fun h=>hd50 ?_⟩)))))))))))))))))))))))))))))))
  have:=depths_le.1 (Nat.le_refl _) _ (List.getElem_mem hlt)
  omega
 refine bW (aK (aK (bH (aE (s_8 (aC fun _ s_20=>aA (aF U U (bG aD se22 U U (aH aZ (.cons U (.cons U .nil)) (head_f 192 np (by omega) (by omega)) Tryz.func153 U U (by simp) U ?_)))))))))
 rintro _ _ ⟨M62,a62,p62,rfl,rfl,r62⟩
 show At _ _ _ [M62,N2,Np,R] _
 refine aF U U ?_
 have h9:=rlpHead_le 192 np (by omega)
 refine op_append nxQ Tryz.underlying22 Tryz.underlying22 te5 rfl rfl r62 (by assumption) (by simp) (by first|exact one_u8s _|exact one_u64s _|exact one_u32s _|(intro u hu;simp at hu;subst hu;rfl)) (by omega) (by omega) sel0 rfl (fun N64 a64 p64 r64=>?_)
 have s64:=r64.rsl
 refine aG U U (aG U U (aB (s_20 (aR ((cA (a7 (bV (L1:= [N64]) U (.tmp U (.tmp U .nil)) U (.refl _) aM ?_))))))))
 obtain rfl:k=its.length:=by omega
 rw [List.take_length]at hnp hd r64
 subst hnp
 refine .inl ⟨N64,a64,p64,by rw [hf,List.length_append],rfl,by rw [hf,List.length_append,u8s,List.map_append];exact r64,?_⟩
 rw [hdep]
 by_cases hz:its= []
 ·subst hz;simp [It.depths];omega
 ·have:It.depths its≤1024- lists- 1:=depths_le.2 fun t ht=>by have:=hd t ht;omega
  obtain⟨t,ht⟩:=List.exists_mem_of_ne_nil _ hz
  have:=hd t ht
  omega
theorem encode_f (t:It): ∀(N:Heaplet) (x:IV) (lists:Nat) (q:Int),ItN N t x→q=lists→lists≤1024→t.form.length≤1099511627776→Fn Tryz.prog 114 #[.agg #[.bool x.l,.slice x.ab x.nb x.cb,.slice x.ai x.ni x.ci],.int .i64 q] [] [N] (EncP t lists):=by
 induction t using It.ind_it with|h l bs its ih=>?_
 intro N x lists q h hq hl hlen
 simp only [ItN]at h
 obtain⟨rfl,h1,xs,h2,h3⟩:=h
 cases hb:x.l with
 |false=>rw [hb]at hlen;exact encode_bs h1 lists q hl hlen
 |true=>rw [hb]at hlen;exact encode_its h2 h3 lists q hq hl hlen ih
theorem Encode_f {N:Heaplet} {t:It} {x:IV} (h:ItN N t x) (hlen:t.form.length≤1099511627776):Fn Tryz.prog 69 #[.agg #[.bool x.l,.slice x.ab x.nb x.cb,.slice x.ai x.ni x.ci]] [] [N] (EncP t 0):=by
 refine Fn.enter (vs:= [.agg #[.bool x.l,.slice x.ab x.nb x.cb,.slice x.ai x.ni x.ci]]) Tryz.func69 U U U ?_
 intro E R hR
 have h:=h.le (hR N (by simp))
 change At _ _ E [R] _
 refine aC fun _ s_1=>aA (op_box aZ U U U (fun N1 b1 B1=>aG U U (aG U U (aB (s_1 (aC fun _ s_2=>aA (aY (ds:= [_,_,_]) aD ag91 U B1 U U bZ U (aH aZ (.cons U (.cons U .nil)) (encode_f t R x 0 0 h U (by omega) hlen) Tryz.func114 U U (by simp) U ?_))))))))
 rintro _ _ (⟨M5,a5,p5,rfl,rfl,r5,hd5⟩|⟨rfl,rfl,hd5⟩)
 ·show At _ _ _ [M5,N1,R] _
  refine aN aD U U U (aN aD U U U (aG U U (aG U U (aB (s_2 (aR ((a7 (bV (L1:= [M5]) U (.tmp U (.tmp U .nil)) U (.refl _) aM ?_)))))))))
  exact .inl ⟨M5,a5,p5,rfl,rfl,r5,hd5⟩
 show At _ _ _ [N1,R] _
 refine aN aD U U U (aN aD U U U (aG U U (aG U U (aB (s_2 (aR ((bP (bV (L1:= []) U (.tmp U (.tmp U .nil)) U (.refl _) aM ?_)))))))))
 exact .inr ⟨rfl,rfl,hd5⟩
def decodeF (b:List UInt8):Except Nat It:=match decF 1024 b with
 |.error e=>.error e
 |.ok (t,q)=>if q.length=0 then .ok t else .error 2
def DecodeP (r:Except Nat It) (v:Value) (L:List Heaplet):Prop:=
 (∃t M, ∃x:IV,r=.ok t∧v=.tuple #[.agg #[.bool x.l,.slice x.ab x.nb x.cb,.slice x.ai x.ni x.ci],.int .i64 0]∧L= [M]∧ItN M t x)∨
 (∃e:Nat,r=.error e∧v=.tuple #[.agg #[.bool false,.slice none 0 0,.slice none 0 0],.int .i64 (e:Int)]∧L= []∧e≠0)
theorem Decode_f {N:Heaplet} {ao:Option Addr} {n cap:Nat} {b:List UInt8} (h:RSl N 1 ao n cap (u8s b)) (hn:n≤1099511627776):
 Fn Tryz.prog 32 #[.slice ao n cap] [] [N] (DecodeP (decodeF b)):=by
 refine Fn.enter (vs:= [.slice ao n cap]) Tryz.func32 U U U ?_
 intro E R hR
 have h:=h.le (hR N (by simp))
 change At _ _ E [R] _
 refine aC fun _ s_1=>aA (bE aZ ze91 U (fun N2 b2 B2=>?_))
 change Blk N2 b2 _ [.bool false,.slice none 0 0,.slice none 0 0]at B2
 refine aG U U (aB (s_1 (aC fun _ s_2=>aA (aF U U (aH aZ (.cons U (.cons U .nil)) (decode_f 1024 R ao n cap b 0 h hn (by omega) (by omega)) Tryz.func87 U U (by simp) U ?_)))))
 rintro _ _ (⟨t,q,M9,x,aq,cq,he,rfl,rfl,hi,hq⟩|⟨e,he,rfl,rfl,hne⟩)
 ·show At _ _ _ [M9,N2,R] _
  refine aF U U (aN aD U U U (aN aD U U U (aN aD U U U (bE aZ ze91 U (fun N4 b4 B4=>?_)))))
  change Blk N4 b4 _ [.bool false,.slice none 0 0,.slice none 0 0]at B4
  refine aX nxQ sz91 U U U U U B4 (by simp) sel0 (fun N4 B4=>?_)
  simp only [setL,List.set]at B4
  refine aG U U (aG U U (aB (s_2 (aC fun _ s_3=>aC fun _ s_4=>aA (aF U U (op_eql aD U U U (aF U U (cJ (d:=15) U (fun g15=>?_) (fun g15=>?_)))))))))
  rotate_left
  ·exact absurd U g15
  refine aL (cL U U U U) U U (bG (cL U U U U) se22 U U (op_gtr (cL U U U U) U U U (bO aD U U U (aB (s_4 (aO U (fun c19=>?_) (fun c19=>?_)))))))
  ·refine aC fun _ s_5=>aA (op_build (out:= [.bool false,.slice none 0 0,.slice none 0 0]) aD ze91 pl91 .nil U U (aX nxQ sz91 U U U U U B2 (by simp) sel2 (fun N2 B2=>?_)))
   simp only [setL,List.set]at B2
   refine aG U U (aB (s_5 (aR (aJ ((cA (a7 (bV (L1:= []) U (.cell U (res_agg (ds:= [_,_,_]) ag91 B2 U U bZ) (.tmp U .nil)) U (.cons _ (.refl _)) aM ?_))))))))
   exact .inr ⟨2,by rw [decodeF,he];simp only;rw [if_neg (by omega)],rfl,rfl,by decide⟩
  refine aQ (aE (s_3 (aC fun _ s_6=>aA (aY (ds:= [_,_,_]) aD ag91 U B4 U U bZ U (aF U U (aX nxQ sz91 U U U U U B2 (by simp) sel2 (fun N2 B2=>?_)))))))
  simp only [setL,List.set]at B2
  refine aG U U (aB (s_6 (aR ((a7 (bV (L1:= [M9]) U (.cell U (res_agg (ds:= [_,_,_]) ag91 B2 U U bZ) (.tmp U .nil)) U (.cons _ (.refl _)) aM ?_))))))
  exact .inl ⟨t,M9,x,by rw [decodeF,he];simp only;rw [if_pos (by omega)],rfl,rfl,hi⟩
 show At _ _ _ [N2,R] _
 refine aF U U (aN aD U U U (aN aD U U U (aN aD U U U (bE aZ ze91 U (fun N4 b4 B4=>?_)))))
 change Blk N4 b4 _ [.bool false,.slice none 0 0,.slice none 0 0]at B4
 refine aX nxQ sz91 U U U U U B4 (by simp) sel0 (fun N4 B4=>?_)
 simp only [setL,List.set]at B4
 refine aG U U (aG U U (aB (s_2 (aC fun _ s_7=>aC fun _ s_8=>aA (aF U U (op_eql aD U U U (aF U U (cJ (d:=15) U (fun g15=>?_) (fun g15=>?_)))))))))
 ·exfalso;omega
 refine aU U U U U U U U (aU U U U U U U U (aU U U U U U U U (cB aD U U U (aB (s_8 (At.condF U (aQ (aE (s_7 (aC fun _ s_9=>aA (aY (ds:= [_,_,_]) aD ag91 U B4 U U bZ U (aF U U (aX nxQ sz91 U U U U U B2 (by simp) sel1 (fun N2 B2=>?_))))))))))))))
 simp only [setL,List.set]at B2
 refine aG U U (aB (s_9 (aR ((a7 (bV (L1:= []) U (.cell U (res_agg (ds:= [_,_,_]) ag91 B2 U U bZ) (.tmp U .nil)) U (.cons _ (.refl _)) aM ?_))))))
 exact .inr ⟨e,by rw [decodeF,he],rfl,rfl,hne⟩
def wakeT:It:=.mk true [] [.mk true [] [],.mk false [97] []]
theorem Encode_ok {N:Heaplet} {t:It} {x:IV} (h:ItN N t x) (hlen:t.form.length≤1099511627776) (hd:t.depth≤1024):Fn Tryz.prog 69 #[.agg #[.bool x.l,.slice x.ab x.nb x.cb,.slice x.ai x.ni x.ci]] [] [N] (fun v L=> ∃M a cap,v=.tuple #[.slice a t.form.length cap,.int .i64 0]∧L= [M]∧Row M 5 1 a t.form.length cap (u8s t.form)):=
 (Encode_f h hlen).mono fun v L hp=>by
  rcases hp with ⟨M,a,cap,h1,h2,h3,_⟩|⟨_,_,h3⟩
  ·exact⟨M,a,cap,h1,h2,h3⟩
  ·exact absurd (by omega) h3
theorem rhead_f (b n:Nat) (hb:b≤192) (hn:n≤1099511627776):
 Fn Tryz.prog 151 #[.int .i64 (b:Int),.int .i64 (n:Int)] [] [] (fun v L=> ∃M a cap,v=.slice a (rlpHead b n).length cap∧L= [M]∧Row M 5 1 a (rlpHead b n).length cap (u8s (rlpHead b n))):=by
 have h8:=bytesOf_le (n:=n) (k:=8) (by omega)
 have hn64:(UInt64.ofNat n).toNat=n:=by rw [UInt64.toNat_ofNat'];exact Nat.mod_eq_of_lt (by omega)
 refine Fn.enter (vs:= [.int .i64 (b:Int),.int .i64 (n:Int)]) Tryz.func151 U U U ?_
 intro E R hR
 change At _ _ E [R] _
 refine aC fun _ s_1=>aA (aG U U (aB (s_1 (aC fun _ s_2=>aC fun _ s_3=>aA (aF U U (op_leq aD U U U (aB (s_3 (aO U (fun c7=>?_) (fun c7=>?_))))))))))
 ·refine aC fun _ s_4=>aA (aF U U (aF U U (a6 aD U U (by omega) (by omega) U (op_conv8 aD (und_some Tryz.underlying3) Tryz.underlying5 U (show _=(((b+n:Nat)):Int)from by omega) U ?_))))
  refine op_lit aZ Tryz.underlying22 ze5 sz5 (.cons U .nil) U U (by simp [Value.cells]) U U U (fun N12 a12 r12=>?_)
  simp only [flatV,List.flatMap_cons,List.flatMap_nil,Value.cells,List.append_nil,List.cons_append,List.nil_append]at r12
  have s12:=r12.rsl
  refine aG U U (aB (s_4 (aR (aJ ((aW (L1:= [N12]) U (.tmp U .nil) (.refl _) aM ?_))))))
  have e:rlpHead b n= [UInt8.ofNat (b+n)]:=by rw [rlpHead,if_pos (by omega)]
  rw [e]
  exact⟨N12,a12,1,rfl,rfl,r12⟩
 refine aQ (aE (s_2 (aC fun _ s_5=>aA (aF U U (op_conv64 aD (und_some Tryz.underlying3) Tryz.underlying24 U (show _=(((n:Nat)):Int)from by omega) U ?_)))))
 refine aH aZ (.cons U .nil) (Of32_f (UInt64.ofNat n)) Tryz.func100 U U (by simp) U ?_
 rintro _ _ ⟨M15,a15,p15,rfl,rfl,s15⟩
 show At _ _ _ [M15,R] _
 have hl15:=s15.len32
 have hdl:(digsOf (UInt64.ofNat n).toNat).length≤2:=by rw [length_digsOf];exact digLen_le.2 (UInt64.toNat_lt _)
 refine aH aZ (.cons U .nil) (Bytes32_f s15 (by omega)) Tryz.func171 U U (by simp) U ?_
 rintro _ _ ⟨M16,a16,p16,rfl,rfl,r16⟩
 show At _ _ _ [M16,M15,R] _
 rw [v32_digsOf,hn64]at r16⊢
 have s16:=r16.rsl
 refine aG U U (aB (s_5 (aC fun _ s_6=>aA (aF U U (a6 aD U U (by omega) (by omega) U (aF U U (bG aD se22 U U (a6 aD U U (by omega) (by omega) U (op_conv8 aD (und_some Tryz.underlying3) Tryz.underlying5 U (show _=(((b+55+(bytesOf n).length:Nat)):Int)from by omega) U ?_)))))))))
 refine op_lit aZ Tryz.underlying22 ze5 sz5 (.cons U .nil) U U (by simp [Value.cells]) U U U (fun N23 a23 r23=>?_)
 simp only [flatV,List.flatMap_cons,List.flatMap_nil,Value.cells,List.append_nil,List.cons_append,List.nil_append]at r23
 have s23:=r23.rsl
 refine aF U U ?_
 refine op_append nxQ Tryz.underlying22 Tryz.underlying22 te5 rfl rfl r23 (by assumption) (by simp) (by first|exact one_u8s _|exact one_u64s _|exact one_u32s _|(intro u hu;simp at hu;subst hu;rfl)) (by omega) (by omega) sel0 rfl (fun N25 a25 p25 r25=>?_)
 have s25:=r25.rsl
 refine aG U U (aB (s_6 (aR ((cA (a7 (aW (L1:= [N25]) U (.tmp U .nil) (.refl _) aM ?_)))))))
 have e:rlpHead b n=UInt8.ofNat (b+55+(bytesOf n).length)::bytesOf n:=by rw [rlpHead,if_neg (by omega)]
 rw [e,List.length_cons,Nat.add_comm (bytesOf n).length 1]
 exact⟨N25,a25,p25,rfl,rfl,r25⟩
theorem form_f (t:It): ∀(N:Heaplet) (x:IV),ItN N t x→t.form.length≤1099511627776→Fn Tryz.prog 109 #[.agg #[.bool x.l,.slice x.ab x.nb x.cb,.slice x.ai x.ni x.ci]] [] [N] (fun v L=> ∃M a cap,v=.slice a t.form.length cap∧L= [M]∧Row M 5 1 a t.form.length cap (u8s t.form)):=by
 induction t using It.ind_it with|h l bs its ih=>?_
 intro N x h hlen
 simp only [ItN]at h
 obtain⟨rfl,h1,xs,hI,hX⟩:=h
 have hn:xs.length=x.ni:=by have:=hI.1;rw [length_cellsI]at this;omega
 have hn2:=hX.length
 have hcap:=hI.cap63
 cases hb:x.l with
 |false=>
  rw [hb]at hlen
  have hnb:=h1.len8
  have hcb:=h1.cap63
  have hf:=form_false bs its
  have hsm:= @small_iffI bs
  have hub:small bs≠true→(rlpHead 128 x.nb).length+x.nb≤1099511627776:=fun e=>by rw [hf,if_neg e,List.length_append,hnb]at hlen;exact hlen
  refine Fn.enter (vs:= [.agg #[.bool false,.slice x.ab x.nb x.cb,.slice x.ai x.ni x.ci]]) Tryz.func109 U U U ?_
  intro E R hR
  have h1:=h1.le (hR N (by simp))
  change At _ _ E [R] _
  refine aC fun _ s_1=>aA (op_box aZ U U U (fun N1 b1 B1=>aG U U (aB (s_1 (aC fun _ s_2=>aC fun _ s_3=>aA (aI aD fl91_0 U U (aV aD sc4 U B1 U bZ U ?_)))))))
  refine op_not aD U U (aB (s_3 (At.condT U (aC fun _ s_4=>aC fun _ s_5=>aA (aI aD fl91_1 U U (aV aD sc22 U B1 U bZ U ?_))))))
  refine bG aD se22 U U (op_eql aD U U U (aF U U (cJ (d:=12) U (fun g12=>?_) (fun g12=>?_))))
  ·refine aI (cL U U U U) fl91_1 U U (aV (cL U U U U) sc22 U B1 U bZ U ?_)
   refine bU (cL U U U U) se22 U U (by assumption) (show _=(((0:Nat)):Int)from by omega) (by omega) U ?_
   refine cC (cL U U U U) sc5 U (by assumption) (by first|exact get8 (by omega)|exact get64 (by omega)|exact get32 (by omega)) (by simp) U ?_
   refine op_lss (cL U U U U) U U U (bO aD U U U (aB (s_5 (aO U (fun c18=>?_) (fun c18=>?_)))))
   ·refine aC fun _ s_6=>aA (op_lit aZ Tryz.underlying22 ze5 sz5 .nil U U (by simp [Value.cells]) U U U (fun N19 a19 r19=>?_))
    simp only [flatV,List.flatMap_cons,List.flatMap_nil,Value.cells,List.append_nil,List.cons_append,List.nil_append]at r19
    have s19:=r19.rsl
    refine aI aD fl91_1 U U (aV aD sc22 U B1 U mem1 U ?_)
    refine op_append nxQ Tryz.underlying22 Tryz.underlying22 te5 rfl rfl r19 (by assumption) (by simp) (by first|exact one_u8s _|exact one_u64s _|exact one_u32s _|(intro u hu;simp at hu;subst hu;rfl)) (by omega) (by omega) sel0 rfl (fun N22 a22 p22 r22=>?_)
    have s22:=r22.rsl
    refine aG U U (aB (s_6 (aR (aJ (aJ ((a7 (aW (L1:= [N22]) U (.tmp U .nil) (.refl _) aM ?_))))))))
    have e:(It.mk false bs its).form=bs:=by rw [hf,if_pos (hsm.2 ⟨by omega,by omega⟩)]
    rw [List.nil_append,Nat.zero_add]at r22
    exact⟨N22,a22,p22,by rw [e,hnb,Nat.zero_add],rfl,by rw [e,hnb];exact r22⟩
   refine aQ (aE (s_4 (aC fun _ s_7=>At.drawn [6] [0,1,2,4,5,3,6,7] (by kernel_rfl) (by kernel_rfl) (aI (aS U U U (by kernel_rfl)) fl91_1 U U (aV (aS U U U (by kernel_rfl)) sc22 U B1 U bZ U ?_)))))
   refine bG (aS U U U (by kernel_rfl)) se22 U U (aI (aS U U U (by kernel_rfl)) fl91_1 U U (aV (aS U U U (by kernel_rfl)) sc22 U B1 U bZ U ?_))
   have hub':=hub (fun e=>by have:=hsm.1 e;omega)
   refine aH (nxoa U U U) (.cons U (.cons U .nil)) (rhead_f 128 x.nb (by omega) (by omega)) Tryz.func151 U U (by simp) U ?_
   rintro _ _ ⟨M26,a26,p26,rfl,rfl,r26⟩
   show At _ _ _ [M26,N1,R] _
   refine op_append (nxos rfl rfl rfl rfl) Tryz.underlying22 Tryz.underlying22 te5 rfl rfl r26 (by assumption) (by simp) (by first|exact one_u8s _|exact one_u64s _|exact one_u32s _|(intro u hu;simp at hu;subst hu;rfl)) (by omega) (by omega) sel0 rfl (fun N29 a29 p29 r29=>?_)
   have s29:=r29.rsl
   refine bX (aS U U U (by kernel_rfl)) U U (cG (aE (s_7 (aR (aJ ((a7 (aW (L1:= [N29]) U (.tmp U .nil) (.refl _) aM ?_))))))))
   have e:(It.mk false bs its).form=rlpHead 128 x.nb++bs:=by rw [hf,if_neg (fun e=>by have:=hsm.1 e;omega),hnb]
   exact⟨N29,a29,p29,by rw [e,List.length_append,hnb],rfl,by rw [e,List.length_append,hnb,u8s,List.map_append];exact r29⟩
  refine aU U U U U U U U (aU U U U U U U U (aU U U U U U U U (aU U U U U U U U (aU U U U U U U U (cB aD U U U (aB (s_5 (At.condF U (aQ (aE (s_4 (aC fun _ s_8=>At.drawn [6] [0,1,2,4,5,3,6,7] (by kernel_rfl) (by kernel_rfl) (aI (aS U U U (by kernel_rfl)) fl91_1 U U (aV (aS U U U (by kernel_rfl)) sc22 U B1 U bZ U ?_))))))))))))))
  refine bG (aS U U U (by kernel_rfl)) se22 U U (aI (aS U U U (by kernel_rfl)) fl91_1 U U (aV (aS U U U (by kernel_rfl)) sc22 U B1 U bZ U ?_))
  have hub':=hub (fun e=>by have:=hsm.1 e;omega)
  refine aH (nxoa U U U) (.cons U (.cons U .nil)) (rhead_f 128 x.nb (by omega) (by omega)) Tryz.func151 U U (by simp) U ?_
  rintro _ _ ⟨M26,a26,p26,rfl,rfl,r26⟩
  show At _ _ _ [M26,N1,R] _
  refine op_append (nxos rfl rfl rfl rfl) Tryz.underlying22 Tryz.underlying22 te5 rfl rfl r26 (by assumption) (by simp) (by first|exact one_u8s _|exact one_u64s _|exact one_u32s _|(intro u hu;simp at hu;subst hu;rfl)) (by omega) (by omega) sel0 rfl (fun N29 a29 p29 r29=>?_)
  have s29:=r29.rsl
  refine bX (aS U U U (by kernel_rfl)) U U (cG (aE (s_8 (aR (aJ ((a7 (aW (L1:= [N29]) U (.tmp U .nil) (.refl _) aM ?_))))))))
  have e:(It.mk false bs its).form=rlpHead 128 x.nb++bs:=by rw [hf,if_neg (fun e=>by have:=hsm.1 e;omega),hnb]
  exact⟨N29,a29,p29,by rw [e,List.length_append,hnb],rfl,by rw [e,List.length_append,hnb,u8s,List.map_append];exact r29⟩
 |true=>
  rw [hb]at hlen
  have hf:=form_true bs its
  have hlf:(rlpHead 192 (It.forms its).length).length+(It.forms its).length≤1099511627776:=by rw [hf,List.length_append]at hlen;exact hlen
  refine Fn.enter (vs:= [.agg #[.bool true,.slice x.ab x.nb x.cb,.slice x.ai x.ni x.ci]]) Tryz.func109 U U U ?_
  intro E R hR
  have hI:=hI.le (hR N (by simp))
  have hX:=hX.le (hR N (by simp))
  change At _ _ E [R] _
  refine aC fun _ s_1=>aA (op_box aZ U U U (fun N1 b1 B1=>aG U U (aB (s_1 (aC fun _ s_2=>aC fun _ s_3=>aA (aI aD fl91_0 U U (aV aD sc4 U B1 U bZ U ?_)))))))
  refine op_not aD U U (aB (s_3 (At.condF U (aQ (aE (s_2 (aC fun _ s_4=>aA (aG U U (aB (s_4 (aC fun _ s_5=>aC fun _ s_6=>aA (aG U U (aB (s_6 (aT (At.empty (bR (permSel1 (bR (cF (fun fr_ hp_ ms_=> ∃(k np:Nat) (ap:Option Addr) (cp:Nat) (Np:Heaplet),fr_= [(1,.pointer (some ⟨b1,0,none⟩)),(3,.slice ap np cp),(4,.int .i64 (k:Int))]∧hp_= [N1,Np,R]∧x.ni- k=ms_∧(k≤x.ni)∧(np=(It.forms (its.take k)).length)∧(Row Np 5 1 ap np cp (u8s (It.forms (its.take k))))) ?_ aM ⟨0,0,none,0,nilH,rfl,rfl,rfl,by omega,by simp [It.forms],by simpa [It.forms,u8s]using Row.nil nilH 5 1⟩ ?_))))))))))))))))))))
  ·repeat first|apply bD|exact .nil|exact lkI rfl (by omega)|rfl
  rintro _ _ _ ⟨k,np,ap,cp,Np,rfl,rfl,rfl,hk,hnp,rp⟩
  have sp:=rp.rsl
  have hle:=forms_take_le its k
  refine aC fun _ s_7=>aC fun _ s_8=>aA (aF U U (aI aD fl91_2 U U (aV aD sc89 U B1 U bZ U ?_)))
  refine bG aD se89 U U (op_lss aD U U U (aB (s_8 (aO U (fun c34=>?_) (fun c34=>?_)))))
  ·have hlt:k<its.length:=by omega
   obtain⟨y,hy,hi⟩:=hX.get (List.getElem?_eq_getElem hlt)
   have hts:=forms_take_succ (List.getElem?_eq_getElem hlt)
   have hfe:=form_le (List.getElem_mem hlt)
   have hle2:=forms_take_le its (k+1)
   have hsum:np+(its[k]).form.length≤(It.forms its).length:=by rw [hts,List.length_append]at hle2;omega
   refine aQ (aE (s_7 (aC fun _ s_9=>aT (aA (aF U U (aI aD fl91_2 U U (aV aD sc89 U B1 U bZ U ?_)))))))
   refine aF U U (op_idxE aD se89 U U (by assumption) (show _=(((k:Nat)):Int)from by omega) (by omega) U ?_)
   refine op_loadAggE aD ag91 U (by assumption) (by exact cells_at hy) (by rfl) (by omega) (by simp) U ?_
   refine aH aZ (.cons U .nil) (ih its[k] (List.getElem_mem hlt) R y hi (by omega)) Tryz.func109 U U (by simp) U ?_
   rintro _ _ ⟨M43,a43,p43,rfl,rfl,r43⟩
   show At _ _ _ [M43,N1,Np,R] _
   have s43:=r43.rsl
   refine op_append nxQ Tryz.underlying22 Tryz.underlying22 te5 rfl rfl rp (by assumption) (by simp) (by first|exact one_u8s _|exact one_u64s _|exact one_u32s _|(intro u hu;simp at hu;subst hu;rfl)) (by omega) (by omega) sel2 rfl (fun N44 a44 p44 r44=>?_)
   have s44:=r44.rsl
   refine aG U U (At.opsNil (a0 (aE (s_9 (aA (aF U U (a6 aD U U (by omega) (by omega) U (aG U U (aB (a7 (bR (permSel1 (bR ?_)))))))))))))
   refine bQ ?_ aM ⟨k+1,np+(its[k]).form.length,a44,p44,N44,rfl,rfl,rfl,by omega,by rw [hts,List.length_append,hnp],by rw [hts,u8s,List.map_append];exact r44⟩ ?_
   ·repeat first|apply bD|exact .nil|exact lkI rfl (by omega)|rfl
   ·omega
  refine bW (aK (aK (bH (aE (s_5 (aC fun _ s_10=>aA (aF U U (bG aD se22 U U (aH aZ (.cons U (.cons U .nil)) (rhead_f 192 np (by omega) (by omega)) Tryz.func151 U U (by simp) U ?_)))))))))
  rintro _ _ ⟨M47,a47,p47,rfl,rfl,r47⟩
  show At _ _ _ [M47,N1,Np,R] _
  refine aF U U ?_
  have h9:=rlpHead_le 192 np (by omega)
  refine op_append nxQ Tryz.underlying22 Tryz.underlying22 te5 rfl rfl r47 (by assumption) (by simp) (by first|exact one_u8s _|exact one_u64s _|exact one_u32s _|(intro u hu;simp at hu;subst hu;rfl)) (by omega) (by omega) sel0 rfl (fun N49 a49 p49 r49=>?_)
  have s49:=r49.rsl
  refine aG U U (aB (s_10 (aR ((cA (a7 (aW (L1:= [N49]) U (.tmp U .nil) (.refl _) aM ?_)))))))
  obtain rfl:k=its.length:=by omega
  rw [List.take_length]at hnp r49
  subst hnp
  exact⟨N49,a49,p49,by rw [hf,List.length_append],rfl,by rw [hf,List.length_append,u8s,List.map_append];exact r49⟩
theorem KTwin_f {N:Heaplet} {ao:Option Addr} {n cap:Nat} {l:List UInt8} (h:RSl N 1 ao n cap (u8s l)) (m:Nat) (q:Int) (hq:q=(m:Int)) (hm:m≤140737488351232):
 Fn Tryz.prog 6 #[.slice ao n cap,.int .i64 q] [] [N] (fun v L=> ∃M a c,v=.slice a (l.take m).length c∧L= [M]∧Row M 5 1 a (l.take m).length c (u8s (l.take m))):=by
 have hlen:=h.len8
 have hcap:=h.cap63
 refine Fn.enter (vs:= [.slice ao n cap,.int .i64 q]) Tryz.func6 U U U ?_
 intro E R hR
 have h:=h.le (hR N (by simp))
 change At _ _ E [R] _
 refine aC fun _ s_1=>aA (aG U U (aB (s_1 (aC fun _ s_2=>aC fun _ s_3=>aA (aF U U (bG aD se22 U U (aF U U (op_gtr aD U U U (aB (s_3 (aO U (fun c8=>?_) (fun c8=>?_))))))))))))
 ·refine aA (aF U U (aF U U (op_slice0 aD se22 U (.some U (show _=(((m:Nat)):Int)from by omega)) .none (by omega) (by omega) (by simp) U ?_)))
  have s11:=h.take8 (hi:=m) (m:=cap) (by omega) (by omega) (by omega)
  refine aG U U (aB (s_2 (aC fun _ s_4=>aA (op_lit aZ Tryz.underlying22 ze5 sz5 .nil U U (by simp [Value.cells]) U U U (fun N12 a12 r12=>?_)))))
  simp only [flatV,List.flatMap_cons,List.flatMap_nil,Value.cells,List.append_nil,List.cons_append,List.nil_append]at r12
  have s12:=r12.rsl
  refine aF U U ?_
  refine op_append nxQ Tryz.underlying22 Tryz.underlying22 te5 rfl rfl r12 (by assumption) (by simp) (by first|exact one_u8s _|exact one_u64s _|exact one_u32s _|(intro u hu;simp at hu;subst hu;rfl)) (by omega) (by omega) sel0 rfl (fun N14 a14 p14 r14=>?_)
  have s14:=r14.rsl
  refine aG U U (aB (s_4 (aR ((aW (L1:= [N14]) U (.tmp U .nil) (.refl _) aM ?_)))))
  rw [List.nil_append,Nat.zero_add]at r14
  exact⟨N14,a14,p14,by rw [List.length_take,hlen,Nat.min_eq_left (by omega),Nat.zero_add],rfl,by rw [List.length_take,hlen,Nat.min_eq_left (by omega)];exact r14⟩
 refine aQ (aE (s_2 (aC fun _ s_5=>aA (op_lit aZ Tryz.underlying22 ze5 sz5 .nil U U (by simp [Value.cells]) U U U (fun N12 a12 r12=>?_)))))
 simp only [flatV,List.flatMap_cons,List.flatMap_nil,Value.cells,List.append_nil,List.cons_append,List.nil_append]at r12
 have s12:=r12.rsl
 refine aF U U ?_
 refine op_append nxQ Tryz.underlying22 Tryz.underlying22 te5 rfl rfl r12 (by assumption) (by simp) (by first|exact one_u8s _|exact one_u64s _|exact one_u32s _|(intro u hu;simp at hu;subst hu;rfl)) (by omega) (by omega) sel0 rfl (fun N14 a14 p14 r14=>?_)
 have s14:=r14.rsl
 refine aG U U (aB (s_5 (aR ((aW (L1:= [N14]) U (.tmp U .nil) (.refl _) aM ?_)))))
 rw [List.nil_append,Nat.zero_add]at r14
 have e:l.take m=l:=List.take_of_length_le (by omega)
 exact⟨N14,a14,p14,by rw [e,hlen,Nat.zero_add],rfl,by rw [e,hlen];exact r14⟩
def nestN:Nat→It→It
 |0,t=>t
 |k+1,t=>.mk true [] [nestN k t]
def envF (b:List UInt8):Option (Nat×List UInt8):=
 if b.length=0∨(128≤(b.getD 0 0).toNat∧(b.getD 0 0).toNat<192)then none
 else if 192≤(b.getD 0 0).toNat then some (0,b)
 else some ((b.getD 0 0).toNat,b.drop 1)
def EnvP (N:Heaplet) (r:Option (Nat×List UInt8)) (v:Value):Prop:=
 (r=none∧v=.tuple #[.int .i64 0,.slice none 0 0,.int .i64 2])∨
 (∃k p a c,r=some (k,p)∧v=.tuple #[.int .i64 (k:Int),.slice a p.length c,.int .i64 0]∧RSl N 1 a p.length c (u8s p))
theorem EnvP.mk {N:Heaplet} {r:Option (Nat×List UInt8)} {k n c:Nat} {q:Int} {a:Option Addr} {p:List UInt8} (hr:r=some (k,p)) (hq:q=(k:Int)) (h:RSl N 1 a n c (u8s p)):EnvP N r (.tuple #[.int .i64 q,.slice a n c,.int .i64 0]):=by
 have e:=h.len8
 subst e;subst hq
 exact .inr ⟨k,p,a,c,hr,rfl,h⟩
mutual
def It.same:It→It→Bool
 |.mk l bs its,.mk l' bs' its'=>decide (l=l')&&(decide (bs=bs')&&It.sames its its')
def It.sames:List It→List It→Bool
 | [],[]=>true
 |t::ts,u::us=>It.same t u&&It.sames ts us
 |_,_=>false
end
mutual
theorem It.same_self: ∀t:It,It.same t t=true
 |.mk l bs its=>by simp [It.same,It.sames_self its]
theorem It.sames_self: ∀ts:List It,It.sames ts ts=true
 | []=>by simp [It.sames]
 |t::ts=>by simp [It.sames,It.same_self t,It.sames_self ts]
end
end Go.Proofs.YtjfagifjajielaaGreat
