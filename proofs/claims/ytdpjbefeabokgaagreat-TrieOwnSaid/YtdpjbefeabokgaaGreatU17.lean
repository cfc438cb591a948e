/- Several texts in one: see the remarks ahead of each part. No condition but those told there. -/
import Derived.Test.YtdpjbefeabokgaaGreatU16
import Derived.Test.YtdpjbefeabokgaaGreatU10
import Derived.Test.YtdpjbefeabokgaaGreatU5
import Derived.Test.YtdpjbefeabokgaaGreatU4
import Derived.Test.YtdpjbefeabokgaaGreatU6
set_option linter.unusedSimpArgs false
set_option linter.unusedVariables false
/- Layer 12: a proof is read at any node. Conditions: a node's form has at most 1000000000 bytes. -/
namespace Go.Proofs.YtdpjbefeabokgaaGreat
open Go Go.RowKit
set_option maxRecDepth 100000
theorem cells_j {xs:List IV} {i j:Nat} {x:IV} (h:xs[i]? =some x) (hj:j<3):(cellsI xs)[i*3+j]? =x.cells[j]? :=by
 have h1:((cellsI xs).drop (i*3)).take 3=x.cells:=cells_at h
 rw [←h1,List.getElem?_take,if_pos hj,List.getElem?_drop]
theorem bytes_form {t:It} (h:isL t=false):t.bytes.length≤t.form.length:=by
 cases t with
 |mk l bs its=>
  obtain rfl:l=false:=h
  rw [form_false]
  show bs.length≤_
  split
  ·exact Nat.le_refl _
  ·rw [List.length_append];omega
theorem forms_mem: ∀ {l:List It} {u:It},u∈l→u.form.length≤(It.forms l).length
 |t::ts,u,h=>by
  rw [It.forms,List.length_append]
  rcases List.mem_cons.1 h with rfl|h
  ·omega
  ·have:=forms_mem h;omega
theorem sub_form {t u:It} (h:isL t=true) (hu:u∈t.items):u.form.length≤t.form.length∧u.depth<t.depth:=by
 cases t with
 |mk l bs its=>
  obtain rfl:l=true:=h
  have hu:u∈its:=hu
  have h1:=forms_mem hu
  refine⟨by rw [form_true,List.length_append];omega,?_⟩
  rw [It.depth]
  exact Nat.lt_succ_of_le (depths_le.1 (Nat.le_refl _) u hu)
section
variable {x a s : It} {row p : List UInt8} {leaf : Bool}
theorem at_no (h:isL x=false):atF x row=none:=by unfold atF;exact if_pos h
theorem at_17 (h1:isL x=true) (h:x.items.length=17):atF x row=branF x.items row:=by
 unfold atF;rw [if_neg (by rw [h1];simp)]
 split
 ·rename_i e;rw [e]at h;simp at h
 ·exact if_pos h
theorem at_other (h:x.items.length≠17) (h2:x.items.length≠2):atF x row=none:=by
 unfold atF
 split
 ·rfl
 ·split
  ·rename_i e;rw [e]at h2;simp at h2
  ·exact if_neg h
theorem at_two (h1:isL x=true) (h:x.items= [a,s]):atF x row=twoF a s row:=by
 unfold atF;rw [if_neg (by rw [h1];simp),h]
theorem two_l (h:isL a=true):twoF a s row=none:=by unfold twoF;exact if_pos h
theorem two_e (h:expF a.bytes=none):twoF a s row=none:=by
 unfold twoF
 split
 ·rfl
 ·rw [h]
theorem two_bad (h:expF a.bytes=some (p,leaf)) (hb:(leaf=true∧(isL s=true∨s.bytes= []))∨(leaf=false∧innerI s=false)):twoF a s row=none:=by
 unfold twoF
 split
 ·rfl
 ·rw [h];exact if_pos hb
theorem two_hit (h0:isL a=false) (h:expF a.bytes=some (row,true)) (h1:isL s=false) (h2:s.bytes≠ []):twoF a s row=some (.inl s.bytes):=by
 unfold twoF;rw [if_neg (by rw [h0];simp),h]
 simp [h1,h2]
theorem two_end_l (h0:isL a=false) (h:expF a.bytes=some (p,true)) (h1:isL s=false) (h2:s.bytes≠ []) (hp:p≠row):twoF a s row=some (.inl []):=by
 unfold twoF;rw [if_neg (by rw [h0];simp),h]
 simp [h1,h2,hp]
theorem two_end (h0:isL a=false) (h:expF a.bytes=some (p,false)) (h1:innerI s=true) (hp: ¬p<+:row):twoF a s row=some (.inl []):=by
 unfold twoF;rw [if_neg (by rw [h0];simp),h]
 simp [h1,hp]
theorem two_go (h0:isL a=false) (h:expF a.bytes=some (p,false)) (h1:innerI s=true) (hp:p<+:row):twoF a s row=some (.inr (s,row.drop p.length)):=by
 unfold twoF;rw [if_neg (by rw [h0];simp),h]
 simp [h1,hp]
end
/-- A path read: a leaf's, another's, none. -/
def Exp3 (b:List UInt8) (v:Value) (L:List Heaplet):Prop:=
 (∃p,expF b=some (p,true)∧ ∃M a c,v=.tuple #[.slice a p.length c,.bool true,.int .i64 0]∧L= [M]∧RSl M 1 a p.length c (u8s p))∨
 (∃p,expF b=some (p,false)∧ ∃M a c,v=.tuple #[.slice a p.length c,.bool false,.int .i64 0]∧L= [M]∧RSl M 1 a p.length c (u8s p))∨
 (expF b=none∧v=.tuple #[.slice none 0 0,.bool false,.int .i64 2]∧L= [])
theorem FExp3 {N:Heaplet} {ao:Option Addr} {n cap:Nat} {l:List UInt8} (h:RSl N 1 ao n cap (u8s l)) (hn:n≤1000000000):Fn Tryz.prog 98 #[.slice ao n cap] [] [N] (Exp3 l):=
 (FExpand h hn).mono fun v L hv=>by
  rcases hv with ⟨p,leaf,h1,M,a,c,h2,h3,h4⟩|⟨h1,h2,h3⟩
  ·cases leaf
   ·exact .inr (.inl ⟨p,h1,M,a,c,h2,h3,h4.rsl⟩)
   ·exact .inl ⟨p,h1,M,a,c,h2,h3,h4.rsl⟩
  ·exact .inr (.inr ⟨h1,h2,h3⟩)
section
variable {Nw Jp Jr M : Heaplet} {bw : Nat} {q : List (List UInt8)} {row : List UInt8} {t : It} {x : IV}
set_option maxHeartbeats 2000000 in
theorem FAt (hw:WayS Nw Jp Jr bw q row) (hx:ItN M t x) (hnb:Nib row) (hsz:t.form.length≤1000000000):Fn Tryz.prog 75 #[.pointer (some ⟨bw,0,none⟩),.agg #[.bool x.l,.slice x.ab x.nb x.cb,.slice x.ai x.ni x.ci]] [Nw] [Jr,M] (AtY Jp Jr M bw q (atF t row)):=by
 have hw0:=hw
 obtain⟨pa,pc,ra,rc,us,Bw,hp,hB,hr⟩:=hw
 obtain⟨o1,o2,xs,hI,hX⟩:=it_open hx
 obtain⟨l,ab,nb,cb,ai,ni,ci⟩:=x
 have o1:l=isL t:=o1
 have hI:RSl M 3 ai ni ci (cellsI xs):=hI
 have hxl:=hX.length
 have hn:xs.length=ni:=by have:=hI.1;rw [length_cellsI]at this;omega
 have hcap:=hI.cap63
 have hrc:=hr.cap63
 refine Fn.enter (vs:= [.pointer (some ⟨bw,0,none⟩),.agg #[.bool l,.slice ab nb cb,.slice ai ni ci]]) Tryz.func75 rfl rfl rfl ?_
 intro E R hR
 have hIR:=hI.le (hR M (by simp))
 have hrR:=hr.le (hR Jr (by simp))
 have hXR:=hX.le (hR M (by simp))
 have hRJ: ∀N∈ [Jr,M],N.le R:=fun N hN=>hR N (by simpa using hN)
 change At _ _ E [Nw,R] _
 refine At.seq fun _ s_1=>At.region (op_box (bA rfl) rfl rfl rfl (fun N3 b3 B3=>bO (bA rfl) ze123 rfl (fun N4 b4 B4=>?_)))
 change Blk N4 b4 _ [.bool false,.slice none 0 0,.bool false,.slice none 0 0,.slice none 0 0]at B4
 refine aE (aD rfl) rfl rfl (aA (aB (s_1 (At.seq fun _ s_2=>At.block (At.seq fun _ s_3=>At.region (aF (aD rfl) fl68_0 rfl rfl (aI (aD rfl) sc4 rfl B3 (by first|rfl) aZ rfl ?_)))))))
 refine op_not (aD rfl) rfl rfl (aE (aD rfl) rfl rfl (aA (aB (s_3 (At.condB rfl (fun c10=>?_) (fun c10=>?_))))))
 ·refine At.seq fun _ s_4=>At.region (op_build (out:= [.bool false,.slice none 0 0,.bool false,.slice none 0 0,.slice none 0 0]) (aD rfl) ze123 pl123 .nil rfl rfl (aO (nxl rfl) sz123 rfl rfl rfl rfl rfl B4 (by simp) sel0 (fun N4 B4=>?_)))
  simp only [setL,List.set]at B4
  refine aE (aD rfl) rfl rfl (aA (aB (s_4 (At.ret (At.inRet (aM ((At.sub (L':= [N4,Nw,R]) (.cons_cons _ (.cons _ (.cons_cons _ (.cons_cons _ (.slnil))))) (bP (L1:= [Nw]) rfl (.cell rfl (res_agg (ds:= [_,_,_,_,_]) ag123 B4 rfl rfl aL) (.tmp rfl .nil)) rfl (.cons _ (.refl _)) (.refl _) ?_)))))))))
  exact aty_no (at_no (by rw [←o1];simpa using c10)) hw0
 refine At.seq fun _ s_5=>At.region (aF (aD rfl) fl68_2 rfl rfl (aI (aD rfl) sc66 rfl B3 (by first|rfl) aZ rfl ?_))
 refine aU (aD rfl) se66 rfl rfl (op_eql (aD rfl) rfl rfl rfl (aE (aD rfl) rfl rfl (aA (aB (s_5 (aK rfl (fun c15=>?_) (fun c15=>?_)))))))
 ·refine At.seq fun _ s_6=>At.region (aC (aD rfl) rfl rfl (aF (aD rfl) fl68_2 rfl rfl (aI (aD rfl) sc66 rfl B3 (by first|rfl) aZ rfl ?_)))
  refine At.perm sel3 (At.perm sel2 (At.perm sel2 (At.perm sel3 (op_call (nxl rfl) (.cons rfl (.cons rfl .nil)) ((FBranch hw0 hI hX (by omega) hnb).liftN hRJ) (F:= [N4,N3,R]) Tryz.func97 rfl rfl (.refl _) (by simp) rfl ?_))))
  rintro v23 L23 ⟨N23,row2,e23,a23,n23,c23,z23,ok23,rfl,rfl,hW2,hA2⟩
  change At _ _ _ [N23,N4,N3,R] _
  refine aS (aD rfl) rfl rfl rfl (aS (aD rfl) rfl rfl rfl (aO (nxl rfl) sz123 rfl rfl rfl rfl rfl B4 (by simp) sel1 (fun N4 B4=>?_)))
  simp only [setL,List.set]at B4
  refine aE (aD rfl) rfl rfl (aA (aB (s_6 (At.ret (At.inRet (aM ((At.sub (L':= [N4,N23,R]) (.cons_cons _ (.cons_cons _ (.cons _ (.cons_cons _ (.slnil))))) (bP (L1:= [N23]) rfl (.cell rfl (res_agg (ds:= [_,_,_,_,_]) ag123 B4 rfl rfl aL) (.tmp rfl .nil)) rfl (.cons _ (.refl _)) (.refl _) ?_)))))))))
  exact⟨N23,row2,e23,a23,n23,c23,z23,ok23,rfl,rfl,hW2,by rw [at_17 (by rw [←o1];simpa using c10) (by omega)];exact hA2⟩
 refine At.seq fun _ s_7=>At.region (aF (aD rfl) fl68_2 rfl rfl (aI (aD rfl) sc66 rfl B3 (by first|rfl) aZ rfl ?_))
 refine aU (aD rfl) se66 rfl rfl (op_neq (aD rfl) rfl rfl rfl (aC (aD rfl) rfl rfl (At.partP (d:=31) rfl (fun g31=>?_) (fun g31=>?_))))
 ·refine aH rfl rfl rfl rfl rfl rfl rfl (aH rfl rfl rfl rfl rfl rfl rfl (aH rfl rfl rfl rfl rfl rfl rfl (aH rfl rfl rfl rfl rfl rfl rfl (aH rfl rfl rfl rfl rfl rfl rfl (bS (aD rfl) rfl rfl rfl (aE (aD rfl) rfl rfl (aA (aB (s_7 (At.condT rfl (At.seq fun _ s_8=>At.region (op_build (out:= [.bool false,.slice none 0 0,.bool false,.slice none 0 0,.slice none 0 0]) (aD rfl) ze123 pl123 .nil rfl rfl (aO (nxl rfl) sz123 rfl rfl rfl rfl rfl B4 (by simp) sel0 (fun N4 B4=>?_))))))))))))))
  simp only [setL,List.set]at B4
  refine aE (aD rfl) rfl rfl (aA (aB (s_8 (At.ret (At.inRet (aM ((At.sub (L':= [N4,Nw,R]) (.cons_cons _ (.cons _ (.cons_cons _ (.cons_cons _ (.slnil))))) (bP (L1:= [Nw]) rfl (.cell rfl (res_agg (ds:= [_,_,_,_,_]) ag123 B4 rfl rfl aL) (.tmp rfl .nil)) rfl (.cons _ (.refl _)) (.refl _) ?_)))))))))
  exact aty_no (at_other (by omega) (by omega)) hw0
 obtain⟨a,s,ha⟩: ∃a s,t.items= [a,s]:=by
  match h:t.items,hxl with
  | [],e=>simp only [List.length_nil]at e;omega
  | [_],e=>simp only [List.length_cons,List.length_nil]at e;omega
  | [a,s],e=>exact⟨a,s,rfl⟩
  |_::_::_::_,e=>simp only [List.length_cons]at e;omega
 obtain⟨x0,hx0,hi0⟩:=hX.get (k:=0) (t:=a) (by rw [ha];rfl)
 obtain⟨x1,hx1,hi1⟩:=hX.get (k:=1) (t:=s) (by rw [ha];rfl)
 obtain⟨a1,a2,_⟩:=it_open hi0
 obtain⟨s1,s2,_⟩:=it_open hi1
 have hin:=inner_x hi1
 have htl:isL t=true:=by rw [←o1];simpa using c10
 have hsm:=hI.isSome (by omega)
 have hn1:=s2.len8
 have hsm1:=sub_form htl (u:=a) (by rw [ha];simp)
 refine aF (aY rfl rfl rfl rfl) fl68_2 rfl rfl (aI (aY rfl rfl rfl rfl) sc66 rfl B3 (by first|rfl) aZ rfl ?_)
 refine op_idxE (aY rfl rfl rfl rfl) se66 rfl rfl hIR (show _=(((0:Nat)):Int)from by omega) (by omega) rfl ?_
 refine bQ (aY rfl rfl rfl rfl) fl68_0 rfl (by first|rfl|assumption) rfl ?_
 refine aT (aY rfl rfl rfl rfl) sc4 rfl hIR (by first|exact get8 (by omega)|exact bT (by omega)|exact bU (by omega)|exact cells_j hx0 (j:=0) (by decide)) (by first|exact aL|exact aZ|exact bB|exact bF|exact bG|exact bH|exact bL|exact bK|exact bJ|exact bM) rfl ?_
 refine bR (aD rfl) rfl rfl rfl (aE (aD rfl) rfl rfl (aA (aB (s_7 (At.condB rfl (fun c26=>?_) (fun c26=>?_))))))
 ·refine At.seq fun _ s_9=>At.region (op_build (out:= [.bool false,.slice none 0 0,.bool false,.slice none 0 0,.slice none 0 0]) (aD rfl) ze123 pl123 .nil rfl rfl (aO (nxl rfl) sz123 rfl rfl rfl rfl rfl B4 (by simp) sel0 (fun N4 B4=>?_)))
  simp only [setL,List.set]at B4
  refine aE (aD rfl) rfl rfl (aA (aB (s_9 (At.ret (At.inRet (aM ((At.sub (L':= [N4,Nw,R]) (.cons_cons _ (.cons _ (.cons_cons _ (.cons_cons _ (.slnil))))) (bP (L1:= [Nw]) rfl (.cell rfl (res_agg (ds:= [_,_,_,_,_]) ag123 B4 rfl rfl aL) (.tmp rfl .nil)) rfl (.cons _ (.refl _)) (.refl _) ?_)))))))))
  exact aty_no (by rw [at_two htl ha];exact two_l (by rw [←a1];exact c26)) hw0
 refine At.skip (aR (aB (s_2 (At.seq fun _ s_10=>At.region (aF (aD rfl) fl68_2 rfl rfl (aI (aD rfl) sc66 rfl B3 (by first|rfl) aZ rfl ?_))))))
 refine op_idxE (aD rfl) se66 rfl rfl hIR (show _=(((0:Nat)):Int)from by omega) (by omega) rfl ?_
 refine bQ (aD rfl) fl68_1 rfl (by first|rfl|assumption) rfl ?_
 refine aT (aD rfl) sc23 rfl hIR (by first|exact get8 (by omega)|exact bT (by omega)|exact bU (by omega)|exact cells_j hx0 (j:=1) (by decide)) (by first|exact aL|exact aZ|exact bB|exact bF|exact bG|exact bH|exact bL|exact bK|exact bJ|exact bM) rfl ?_
 refine aJ (bA rfl) (.cons rfl .nil) (FExp3 (a2.le (hR M (by simp))) (by have:=bytes_form (t:=a) (by rw [←a1];simpa using c26);have:=a2.len8;omega)) Tryz.func98 rfl rfl (by simp) rfl ?_
 rintro v45 L45 (⟨p,he,N45,a45,c45,rfl,rfl,r45⟩|⟨p,he,N45,a45,c45,rfl,rfl,r45⟩|⟨he,rfl,rfl⟩)
 ·change At _ _ _ [N45,N4,N3,Nw,R] _
  refine aC (aD rfl) rfl rfl (aS (aD rfl) rfl rfl rfl (aS (aD rfl) rfl rfl rfl (aS (aD rfl) rfl rfl rfl (aE (aD rfl) rfl rfl (aE (aD rfl) rfl rfl (aE (aD rfl) rfl rfl (aA (aB (s_10 (At.seq fun _ s_11=>At.region (aF (aD rfl) fl68_2 rfl rfl (aI (aD rfl) sc66 rfl B3 (by first|rfl) bB rfl ?_))))))))))))
  refine op_idxE (aD rfl) se66 rfl rfl hIR (show _=(((1:Nat)):Int)from by omega) (by omega) rfl ?_
  refine op_loadAggE (ds:= [.bool x1.l,.slice x1.ab x1.nb x1.cb,.slice x1.ai x1.ni x1.ci]) (aD rfl) ag68 rfl hIR (by exact cells_at hx1) (by rfl) (by omega) (by first|exact aL|exact aZ|exact bB|exact bF|exact bG|exact bH|exact bL|exact bK|exact bJ|exact bM) rfl ?_
  refine bO (bA rfl) ze68 rfl (fun N9 b9 B9=>?_)
  change Blk N9 b9 _ [.bool false,.slice none 0 0,.slice none 0 0]at B9
  refine aO (nxl rfl) sz68 rfl rfl rfl rfl rfl B9 (by simp) sel0 (fun N9 B9=>?_)
  simp only [setL,List.set]at B9
  refine aA (aB (s_11 (At.seq fun _ s_12=>At.block (At.seq fun _ s_13=>At.region (aC (aD rfl) rfl rfl (op_neq (aD rfl) rfl rfl rfl (aC (aD rfl) rfl rfl (At.partP (d:=56) rfl (fun g56=>?_) (fun g56=>?_)))))))))
  ·exact absurd rfl g56
  refine aC (aY rfl rfl rfl rfl) rfl rfl (aC (aY rfl rfl rfl rfl) rfl rfl (aF (aY rfl rfl rfl rfl) fl68_0 rfl rfl (aI (aY rfl rfl rfl rfl) sc4 rfl B9 (by first|rfl) aL rfl ?_)))
  refine aC (aY rfl rfl rfl rfl) rfl rfl (At.part (d:=61) rfl (fun g61=>?_) (fun g61=>?_))
  ·refine aH rfl rfl rfl rfl rfl rfl rfl (aH rfl rfl rfl rfl rfl rfl rfl (aH rfl rfl rfl rfl rfl rfl rfl (aH rfl rfl rfl rfl rfl rfl rfl (bS (aY rfl rfl rfl rfl) rfl rfl rfl (bS (aY rfl rfl rfl rfl) rfl rfl rfl (bR (aD rfl) rfl rfl rfl (aC (aD rfl) rfl rfl (aH rfl rfl rfl rfl rfl rfl rfl (aH rfl rfl rfl rfl rfl rfl rfl (aH rfl rfl rfl rfl rfl rfl rfl (op_skipU rfl rfl rfl rfl rfl rfl (op_skipU rfl rfl rfl rfl rfl rfl (op_skipU rfl rfl rfl rfl rfl rfl (aH rfl rfl rfl rfl rfl rfl rfl (bS (aD rfl) rfl rfl rfl (aE (aD rfl) rfl rfl (aA (aB (s_13 (At.condT rfl (At.seq fun _ s_14=>?_)))))))))))))))))))))
   refine At.region (op_build (out:= [.bool false,.slice none 0 0,.bool false,.slice none 0 0,.slice none 0 0]) (aD rfl) ze123 pl123 .nil rfl rfl (aO (nxl rfl) sz123 rfl rfl rfl rfl rfl B4 (by simp) sel2 (fun N4 B4=>?_)))
   simp only [setL,List.set]at B4
   refine aE (aD rfl) rfl rfl (aA (aB (s_14 (At.ret (At.inRet (aM ((At.sub (L':= [N4,Nw,R]) (.cons_cons _ (.cons _ (.cons _ (.cons _ (.cons_cons _ (.cons_cons _ (.slnil))))))) (bP (L1:= [Nw]) rfl (.cell rfl (res_agg (ds:= [_,_,_,_,_]) ag123 B4 rfl rfl aL) (.tmp rfl .nil)) rfl (.cons _ (.refl _)) (.refl _) ?_)))))))))
   exact aty_no (by rw [at_two htl ha];exact two_bad he (.inl ⟨rfl,.inl (by rw [←s1];exact g61)⟩)) hw0
  refine aF (aY rfl rfl rfl rfl) fl68_1 rfl rfl (aI (aY rfl rfl rfl rfl) sc23 rfl B9 (by first|rfl) aL rfl ?_)
  refine aU (aY rfl rfl rfl rfl) se23 rfl rfl (op_eql (aY rfl rfl rfl rfl) rfl rfl rfl (bR (aY rfl rfl rfl rfl) rfl rfl rfl (bS (aY rfl rfl rfl rfl) rfl rfl rfl (bR (aD rfl) rfl rfl rfl (aC (aD rfl) rfl rfl (At.partP (d:=69) rfl (fun g69=>?_) (fun g69=>?_)))))))
  ·refine aH rfl rfl rfl rfl rfl rfl rfl (aH rfl rfl rfl rfl rfl rfl rfl (aH rfl rfl rfl rfl rfl rfl rfl (op_skipU rfl rfl rfl rfl rfl rfl (op_skipU rfl rfl rfl rfl rfl rfl (op_skipU rfl rfl rfl rfl rfl rfl (aH rfl rfl rfl rfl rfl rfl rfl (bS (aD rfl) rfl rfl rfl (aE (aD rfl) rfl rfl (aA (aB (s_13 (At.condT rfl (At.seq fun _ s_15=>At.region (op_build (out:= [.bool false,.slice none 0 0,.bool false,.slice none 0 0,.slice none 0 0]) (aD rfl) ze123 pl123 .nil rfl rfl (aO (nxl rfl) sz123 rfl rfl rfl rfl rfl B4 (by simp) sel2 (fun N4 B4=>?_))))))))))))))))
   simp only [setL,List.set]at B4
   refine aE (aD rfl) rfl rfl (aA (aB (s_15 (At.ret (At.inRet (aM ((At.sub (L':= [N4,Nw,R]) (.cons_cons _ (.cons _ (.cons _ (.cons _ (.cons_cons _ (.cons_cons _ (.slnil))))))) (bP (L1:= [Nw]) rfl (.cell rfl (res_agg (ds:= [_,_,_,_,_]) ag123 B4 rfl rfl aL) (.tmp rfl .nil)) rfl (.cons _ (.refl _)) (.refl _) ?_)))))))))
   exact aty_no (by rw [at_two htl ha];exact two_bad he (.inl ⟨rfl,.inr (List.eq_nil_of_length_eq_zero (by omega))⟩)) hw0
  refine aC (aY rfl rfl rfl rfl) rfl rfl (op_not (aY rfl rfl rfl rfl) rfl rfl (aC (aY rfl rfl rfl rfl) rfl rfl (aH rfl rfl rfl rfl rfl rfl rfl (aH rfl rfl rfl rfl rfl rfl rfl (aH rfl rfl rfl rfl rfl rfl rfl (bR (aY rfl rfl rfl rfl) rfl rfl rfl (bR (aD rfl) rfl rfl rfl (aE (aD rfl) rfl rfl (aA (aB (s_13 (At.condF rfl (At.seq fun _ s_16=>At.region (aC (aD rfl) rfl rfl (aC (aD rfl) rfl rfl (aC (aY rfl rfl rfl rfl) rfl rfl (aC (aY rfl rfl rfl rfl) rfl rfl (aQ (aY rfl rfl rfl rfl) rfl rfl (aF (aY rfl rfl rfl rfl) fl95_1 rfl rfl (aI (aY rfl rfl rfl rfl) sc23 rfl Bw (by first|rfl) bG rfl ?_))))))))))))))))))))
  refine aJ (nxga rfl rfl rfl rfl) (.cons rfl (.cons rfl .nil)) (FEqualP r45 hrR) Tryz.func95 rfl rfl (by simp) rfl ?_
  rintro v87 L87 ⟨rfl,rfl⟩
  change At _ _ _ [N9,N45,N4,N3,Nw,R] _
  refine bS (aD rfl) rfl rfl rfl (aE (aD rfl) rfl rfl (aA (aB (s_16 (aK rfl (fun c79=>?_) (fun c79=>?_))))))
  ·refine At.seq fun _ s_17=>At.region (aF (aD rfl) fl68_1 rfl rfl (aI (aD rfl) sc23 rfl B9 (by first|rfl) aL rfl ?_))
   refine op_build (out:= [_,_,.bool false,.slice none 0 0,.slice none 0 0]) (aD rfl) ze123 pl123 (.cons rfl (.cons rfl .nil)) rfl rfl (aO (nxl rfl) sz123 rfl rfl rfl rfl rfl B4 (by simp) sel2 (fun N4 B4=>?_))
   simp only [setL,List.set]at B4
   refine aE (aD rfl) rfl rfl (aA (aB (s_17 (At.ret (At.inRet (aM ((At.sub (L':= [N4,Nw,R]) (.cons_cons _ (.cons _ (.cons _ (.cons _ (.cons_cons _ (.cons_cons _ (.slnil))))))) (bP (L1:= [Nw]) rfl (.cell rfl (res_agg (ds:= [_,_,_,_,_]) ag123 B4 rfl rfl aL) (.tmp rfl .nil)) rfl (.cons _ (.refl _)) (.refl _) ?_)))))))))
   exact aty_end (by rw [at_two htl ha];exact two_hit (by rw [←a1];simpa using c26) (c79▸he) (by rw [←s1];exact g61) (fun e=>g69 (by rw [←hn1,e];rfl))) hw0 hn1 s2
  refine At.seq fun _ s_18=>At.region (aC (aD rfl) rfl rfl (aC (aD rfl) rfl rfl (aH rfl rfl rfl rfl rfl rfl rfl (aH rfl rfl rfl rfl rfl rfl rfl (aH rfl rfl rfl rfl rfl rfl rfl (aH rfl rfl rfl rfl rfl rfl rfl (aH rfl rfl rfl rfl rfl rfl rfl (aH rfl rfl rfl rfl rfl rfl rfl (aH rfl rfl rfl rfl rfl rfl rfl (bS (aD rfl) rfl rfl rfl (aE (aD rfl) rfl rfl (aA (aB (s_18 (At.condT rfl (At.seq fun _ s_19=>At.region (op_build (out:= [_,.slice none 0 0,.bool false,.slice none 0 0,.slice none 0 0]) (aD rfl) ze123 pl123 (.cons rfl .nil) rfl rfl (aO (nxl rfl) sz123 rfl rfl rfl rfl rfl B4 (by simp) sel2 (fun N4 B4=>?_)))))))))))))))))))
  simp only [setL,List.set]at B4
  refine aE (aD rfl) rfl rfl (aA (aB (s_19 (At.ret (At.inRet (aM ((At.sub (L':= [N4,Nw,R]) (.cons_cons _ (.cons _ (.cons _ (.cons _ (.cons_cons _ (.cons_cons _ (.slnil))))))) (bP (L1:= [Nw]) rfl (.cell rfl (res_agg (ds:= [_,_,_,_,_]) ag123 B4 rfl rfl aL) (.tmp rfl .nil)) rfl (.cons _ (.refl _)) (.refl _) ?_)))))))))
  exact aty_end (u:= []) (by rw [at_two htl ha];exact two_end_l (by rw [←a1];simpa using c26) he (by rw [←s1];exact g61) (fun e=>g69 (by rw [←hn1,e];rfl)) c79) hw0 rfl (RSl.nil _ _)
 ·change At _ _ _ [N45,N4,N3,Nw,R] _
  refine aC (aD rfl) rfl rfl (aS (aD rfl) rfl rfl rfl (aS (aD rfl) rfl rfl rfl (aS (aD rfl) rfl rfl rfl (aE (aD rfl) rfl rfl (aE (aD rfl) rfl rfl (aE (aD rfl) rfl rfl (aA (aB (s_10 (At.seq fun _ s_20=>At.region (aF (aD rfl) fl68_2 rfl rfl (aI (aD rfl) sc66 rfl B3 (by first|rfl) bB rfl ?_))))))))))))
  refine op_idxE (aD rfl) se66 rfl rfl hIR (show _=(((1:Nat)):Int)from by omega) (by omega) rfl ?_
  refine op_loadAggE (ds:= [.bool x1.l,.slice x1.ab x1.nb x1.cb,.slice x1.ai x1.ni x1.ci]) (aD rfl) ag68 rfl hIR (by exact cells_at hx1) (by rfl) (by omega) (by first|exact aL|exact aZ|exact bB|exact bF|exact bG|exact bH|exact bL|exact bK|exact bJ|exact bM) rfl ?_
  refine bO (bA rfl) ze68 rfl (fun N9 b9 B9=>?_)
  change Blk N9 b9 _ [.bool false,.slice none 0 0,.slice none 0 0]at B9
  refine aO (nxl rfl) sz68 rfl rfl rfl rfl rfl B9 (by simp) sel0 (fun N9 B9=>?_)
  simp only [setL,List.set]at B9
  refine aA (aB (s_20 (At.seq fun _ s_21=>At.block (At.seq fun _ s_22=>At.region (aC (aD rfl) rfl rfl (op_neq (aD rfl) rfl rfl rfl (aC (aD rfl) rfl rfl (At.partP (d:=56) rfl (fun g56=>?_) (fun g56=>?_)))))))))
  ·exact absurd rfl g56
  refine aC (aY rfl rfl rfl rfl) rfl rfl (aC (aY rfl rfl rfl rfl) rfl rfl (aH rfl rfl rfl rfl rfl rfl rfl (aH rfl rfl rfl rfl rfl rfl rfl (aH rfl rfl rfl rfl rfl rfl rfl (op_skipU rfl rfl rfl rfl rfl rfl (op_skipU rfl rfl rfl rfl rfl rfl (op_skipU rfl rfl rfl rfl rfl rfl (op_skipU rfl rfl rfl rfl rfl rfl (aH rfl rfl rfl rfl rfl rfl rfl (bR (aY rfl rfl rfl rfl) rfl rfl rfl (bR (aD rfl) rfl rfl rfl (aC (aD rfl) rfl rfl (aC (aY rfl rfl rfl rfl) rfl rfl (op_not (aY rfl rfl rfl rfl) rfl rfl (aC (aY rfl rfl rfl rfl) rfl rfl (op_loadAggB (ds:= [_,_,_]) (aY rfl rfl rfl rfl) ag68 rfl B9 rfl rfl aL rfl (aJ (nxga rfl rfl rfl rfl) (.cons rfl .nil) (FInner x1) Tryz.func99 rfl rfl (by simp) rfl ?_)))))))))))))))))
  rintro v74 L74 ⟨rfl,rfl⟩
  change At _ _ _ [N9,N45,N4,N3,Nw,R] _
  refine op_not (aY rfl rfl rfl rfl) rfl rfl (bS (aY rfl rfl rfl rfl) rfl rfl rfl (bR (aD rfl) rfl rfl rfl (aE (aD rfl) rfl rfl (aA (aB (s_22 (At.condB rfl (fun c53=>?_) (fun c53=>?_))))))))
  ·refine At.seq fun _ s_23=>At.region (op_build (out:= [.bool false,.slice none 0 0,.bool false,.slice none 0 0,.slice none 0 0]) (aD rfl) ze123 pl123 .nil rfl rfl (aO (nxl rfl) sz123 rfl rfl rfl rfl rfl B4 (by simp) sel2 (fun N4 B4=>?_)))
   simp only [setL,List.set]at B4
   refine aE (aD rfl) rfl rfl (aA (aB (s_23 (At.ret (At.inRet (aM ((At.sub (L':= [N4,Nw,R]) (.cons_cons _ (.cons _ (.cons _ (.cons _ (.cons_cons _ (.cons_cons _ (.slnil))))))) (bP (L1:= [Nw]) rfl (.cell rfl (res_agg (ds:= [_,_,_,_,_]) ag123 B4 rfl rfl aL) (.tmp rfl .nil)) rfl (.cons _ (.refl _)) (.refl _) ?_)))))))))
   exact aty_no (by rw [at_two htl ha];exact two_bad he (.inr ⟨rfl,by rw [←hin];simpa using c53⟩)) hw0
  refine At.seq fun _ s_24=>At.region (aC (aD rfl) rfl rfl (aC (aD rfl) rfl rfl (aH rfl rfl rfl rfl rfl rfl rfl (aH rfl rfl rfl rfl rfl rfl rfl (aH rfl rfl rfl rfl rfl rfl rfl (aH rfl rfl rfl rfl rfl rfl rfl (aH rfl rfl rfl rfl rfl rfl rfl (aH rfl rfl rfl rfl rfl rfl rfl (bR (aD rfl) rfl rfl rfl (aE (aD rfl) rfl rfl (aA (aB (s_24 (At.condF rfl (At.seq fun _ s_25=>At.region (aC (aD rfl) rfl rfl (aC (aD rfl) rfl rfl (aC (aY rfl rfl rfl rfl) rfl rfl (aQ (aY rfl rfl rfl rfl) rfl rfl ?_)))))))))))))))))))
  refine aF (aY rfl rfl rfl rfl) fl95_1 rfl rfl (aI (aY rfl rfl rfl rfl) sc23 rfl Bw (by first|rfl) bG rfl ?_)
  refine aC (aY rfl rfl rfl rfl) rfl rfl (aJ (nxga rfl rfl rfl rfl) (.cons rfl (.cons rfl .nil)) (FHasPrefix hrR r45) Tryz.func67 rfl rfl (by simp) rfl ?_)
  rintro v100 L100 ⟨rfl,rfl⟩
  change At _ _ _ [N9,N45,N4,N3,Nw,R] _
  refine op_notP (aY rfl rfl rfl rfl) rfl rfl (bR (aD rfl) rfl rfl rfl (aE (aD rfl) rfl rfl (aA (aB (s_25 (aK rfl (fun c92=>?_) (fun c92=>?_)))))))
  ·refine At.seq fun _ s_26=>At.region (op_build (out:= [_,.slice none 0 0,.bool false,.slice none 0 0,.slice none 0 0]) (aD rfl) ze123 pl123 (.cons rfl .nil) rfl rfl (aO (nxl rfl) sz123 rfl rfl rfl rfl rfl B4 (by simp) sel2 (fun N4 B4=>?_)))
   simp only [setL,List.set]at B4
   refine aE (aD rfl) rfl rfl (aA (aB (s_26 (At.ret (At.inRet (aM ((At.sub (L':= [N4,Nw,R]) (.cons_cons _ (.cons _ (.cons _ (.cons _ (.cons_cons _ (.cons_cons _ (.slnil))))))) (bP (L1:= [Nw]) rfl (.cell rfl (res_agg (ds:= [_,_,_,_,_]) ag123 B4 rfl rfl aL) (.tmp rfl .nil)) rfl (.cons _ (.refl _)) (.refl _) ?_)))))))))
   exact aty_end (u:= []) (by rw [at_two htl ha];exact two_end (by rw [←a1];simpa using c26) he (by rw [←hin];simpa using c53) (by simpa using c92)) hw0 rfl (RSl.nil _ _)
  have hpp:p<+:row:=by simpa using c92
  have hpl:=hpp.length_le
  refine At.skip (aR (aB (s_21 (At.seq fun _ s_27=>At.region (aC (aD rfl) rfl rfl (aC (aD rfl) rfl rfl (aQ (aD rfl) rfl rfl (aF (aD rfl) fl95_1 rfl rfl (aI (aD rfl) sc23 rfl Bw (by first|rfl) bG rfl ?_)))))))))
  refine aC (aD rfl) rfl rfl (aU (aD rfl) se23 rfl rfl (op_slice (aD rfl) se23 rfl (.some rfl (show _=(((p.length:Nat)):Int)from by omega)) .none .none (by omega) (by omega) (by omega) (by simp) rfl ?_))
  refine aQ (aD rfl) rfl rfl (aF (aD rfl) fl95_1 rfl rfl (aO (nxl rfl) sz23 rfl rfl rfl rfl rfl Bw (by simp) sel4 (fun Nw Bw=>?_)))
  simp only [setL,List.set]at Bw
  refine aA (aB (s_27 (At.seq fun _ s_28=>At.region (op_loadAggB (ds:= [_,_,_]) (aD rfl) ag68 rfl B9 rfl rfl aZ rfl (op_build (out:= [.bool false,.slice none 0 0,_,_,_]) (aD rfl) ze123 pl123 (.cons rfl .nil) rfl rfl (aO (nxl rfl) sz123 rfl rfl rfl rfl rfl B4 (by simp) sel3 (fun N4 B4=>?_)))))))
  simp only [setL,List.set]at B4
  refine aE (aD rfl) rfl rfl (aA (aB (s_28 (At.ret ((At.sub (L':= [N4,Nw,R]) (.cons_cons _ (.cons_cons _ (.cons _ (.cons _ (.cons _ (.cons_cons _ (.slnil))))))) (bP (L1:= [Nw]) rfl (.cell rfl (res_agg (ds:= [_,_,_,_,_]) ag123 B4 rfl rfl aL) (.tmp rfl .nil)) rfl (.cons _ (.refl _)) (.refl _) ?_)))))))
  exact aty_go (by rw [at_two htl ha];exact two_go (by rw [←a1];simpa using c26) he (by rw [←hin];simpa using c53) hpp) ⟨pa,pc,sadr ra p.length rc 1,rc- p.length,us,by rw [List.length_drop];exact Bw,hp,hB,by rw [List.length_drop];exact hr.drop8 hpl⟩ hi1 (hnb.drop _)
 change At _ _ _ [N4,N3,Nw,R] _
 refine aC (aD rfl) rfl rfl (aS (aD rfl) rfl rfl rfl (aS (aD rfl) rfl rfl rfl (aS (aD rfl) rfl rfl rfl (aE (aD rfl) rfl rfl (aE (aD rfl) rfl rfl (aE (aD rfl) rfl rfl (aA (aB (s_10 (At.seq fun _ s_29=>At.region (aF (aD rfl) fl68_2 rfl rfl (aI (aD rfl) sc66 rfl B3 (by first|rfl) aZ rfl ?_))))))))))))
 refine op_idxE (aD rfl) se66 rfl rfl hIR (show _=(((1:Nat)):Int)from by omega) (by omega) rfl ?_
 refine op_loadAggE (ds:= [.bool x1.l,.slice x1.ab x1.nb x1.cb,.slice x1.ai x1.ni x1.ci]) (aD rfl) ag68 rfl hIR (by exact cells_at hx1) (by rfl) (by omega) (by first|exact aL|exact aZ|exact bB|exact bF|exact bG|exact bH|exact bL|exact bK|exact bJ|exact bM) rfl ?_
 refine bO (bA rfl) ze68 rfl (fun N9 b9 B9=>?_)
 change Blk N9 b9 _ [.bool false,.slice none 0 0,.slice none 0 0]at B9
 refine aO (nxl rfl) sz68 rfl rfl rfl rfl rfl B9 (by simp) sel0 (fun N9 B9=>?_)
 simp only [setL,List.set]at B9
 refine aA (aB (s_29 (At.seq fun _ s_30=>At.block (At.seq fun _ s_31=>At.region (aC (aD rfl) rfl rfl (op_neq (aD rfl) rfl rfl rfl (aC (aD rfl) rfl rfl (At.partP (d:=56) rfl (fun g56=>?_) (fun g56=>?_)))))))))
 rotate_left
 ·exfalso;omega
 refine aH rfl rfl rfl rfl rfl rfl rfl (aH rfl rfl rfl rfl rfl rfl rfl (op_skipU rfl rfl rfl rfl rfl rfl (op_skipU rfl rfl rfl rfl rfl rfl (op_skipU rfl rfl rfl rfl rfl rfl (op_skipU rfl rfl rfl rfl rfl rfl (op_skipU rfl rfl rfl rfl rfl rfl (op_skipU rfl rfl rfl rfl rfl rfl (op_skipU rfl rfl rfl rfl rfl rfl (op_skipU rfl rfl rfl rfl rfl rfl (aH rfl rfl rfl rfl rfl rfl rfl (bS (aD rfl) rfl rfl rfl (aC (aD rfl) rfl rfl (aH rfl rfl rfl rfl rfl rfl rfl (aH rfl rfl rfl rfl rfl rfl rfl (aH rfl rfl rfl rfl rfl rfl rfl (op_skipU rfl rfl rfl rfl rfl rfl (op_skipU rfl rfl rfl rfl rfl rfl (op_skipU rfl rfl rfl rfl rfl rfl (aH rfl rfl rfl rfl rfl rfl rfl (bS (aD rfl) rfl rfl rfl ?_))))))))))))))))))))
 refine aE (aD rfl) rfl rfl (aA (aB (s_31 (At.condT rfl (At.seq fun _ s_32=>At.region (op_build (out:= [.bool false,.slice none 0 0,.bool false,.slice none 0 0,.slice none 0 0]) (aD rfl) ze123 pl123 .nil rfl rfl (aO (nxl rfl) sz123 rfl rfl rfl rfl rfl B4 (by simp) sel1 (fun N4 B4=>?_))))))))
 simp only [setL,List.set]at B4
 refine aE (aD rfl) rfl rfl (aA (aB (s_32 (At.ret (At.inRet (aM ((At.sub (L':= [N4,Nw,R]) (.cons_cons _ (.cons _ (.cons _ (.cons_cons _ (.cons_cons _ (.slnil)))))) (bP (L1:= [Nw]) rfl (.cell rfl (res_agg (ds:= [_,_,_,_,_]) ag123 B4 rfl rfl aL) (.tmp rfl .nil)) rfl (.cons _ (.refl _)) (.refl _) ?_)))))))))
 exact aty_no (by rw [at_two htl ha];exact two_e he) hw0
end
end Go.Proofs.YtdpjbefeabokgaaGreat
/- Layer 12: a proof is gone through. Conditions: up to 2000000 bytes a form. -/
namespace Go.Proofs.YtdpjbefeabokgaaGreat
open Go Go.RowKit
set_option maxRecDepth 100000
theorem next_some {h:List UInt8} {q q':List (List UInt8)} {x:It} (k:nextF h q=some (x,q')) (hq: ∀b∈q,b.length≤2000000):q.length=q'.length+1∧x.depth≤1024∧x.form.length≤2000000∧ ∀b∈q',b.length≤2000000:=by
 cases q with
 |nil=>cases k
 |cons b r=>
  rw [nextF]at k
  split at k
  ·rename_i y hd
   split at k
   ·simp only [Option.some.injEq,Prod.mk.injEq]at k
    obtain⟨rfl,rfl⟩:=k
    have hb:=hq b (List.mem_cons_self ..)
    obtain⟨h1,h2⟩:=decodeF_back (Nat.lt_of_le_of_lt hb (by decide)) hd
    exact⟨rfl,h2,by rw [h1];exact hb,fun c hc=>hq c (List.mem_cons_of_mem _ hc)⟩
   ·cases k
  ·cases k
theorem at_inr {x y:It} {row r:List UInt8} (hn:Nib row) (h:atF x row=some (.inr (y,r))):isL x=true∧y∈x.items:=by
 unfold atF at h
 split at h
 ·cases h
 ·rename_i hl
  refine⟨by simpa using hl,?_⟩
  split at h
  ·rename_i a s e
   unfold twoF at h
   split at h
   ·cases h
   ·split at h
    ·cases h
    ·split at h
     ·cases h
     ·split at h
      ·cases h
      ·split at h
       ·cases h
       ·simp only [Option.some.injEq,Sum.inr.injEq,Prod.mk.injEq]at h
        rw [e, ←h.1];simp
  ·split at h
   ·rename_i e17
    unfold branF at h
    split at h
    ·cases h
    ·split at h
     ·cases h
     ·rename_i c r'
      simp only [Option.some.injEq,Sum.inr.injEq,Prod.mk.injEq]at h
      have hc:c.toNat<16:=hn c (by simp)
      rw [←h.1,List.getD_eq_getElem?_getD,List.getElem?_eq_getElem (by omega)]
      exact List.getElem_mem _
   ·cases h
theorem at_inl {x:It} {row u:List UInt8} (h:atF x row=some (.inl u)):u.length≤x.form.length:=by
 have hsub: ∀s,isL x=true→s∈x.items→isL s=false→s.bytes.length≤x.form.length:=fun s h1 h2 h3=>Nat.le_trans (bytes_form h3) (sub_form h1 h2).1
 unfold atF at h
 split at h
 ·cases h
 ·rename_i hl
  have hl:isL x=true:=by simpa using hl
  split at h
  ·rename_i a s e
   unfold twoF at h
   split at h
   ·cases h
   ·split at h
    ·cases h
    ·split at h
     ·cases h
     ·rename_i hb
      split at h
      ·rename_i hr
       simp only [Option.some.injEq,Sum.inl.injEq]at h
       rw [←h]
       refine hsub s hl (by rw [e];simp) ?_
       cases hs:isL s with
       |false=>rfl
       |true=>exact absurd (.inl ⟨hr.1,.inl hs⟩) hb
      ·split at h
       ·simp only [Option.some.injEq,Sum.inl.injEq]at h
        rw [←h];exact Nat.zero_le _
       ·cases h
  ·split at h
   ·rename_i e17
    unfold branF at h
    split at h
    ·cases h
    ·rename_i hb
     split at h
     ·simp only [Option.some.injEq,Sum.inl.injEq]at h
      have e:x.items.getD 16 (itS [])=x.items[16]:=by rw [List.getD_eq_getElem?_getD,List.getElem?_eq_getElem (by omega)];rfl
      rw [←h,e]
      refine hsub _ hl (List.getElem_mem _) ?_
      rw [←e]
      cases hs:isL (x.items.getD 16 (itS []))with
      |false=>rfl
      |true=>exact absurd (.inl hs) hb
     ·cases h
   ·cases h
/-- What next gives, told at once. -/
def NextU (Jp Jr:Heaplet) (bw:Nat) (h:List UInt8) (q:List (List UInt8)) (row:List UInt8) (v:Value) (L:List Heaplet):Prop:= ∃Nw M q' ok, ∃xv:IV,
 v=.tuple #[.agg #[.bool xv.l,.slice xv.ab xv.nb xv.cb,.slice xv.ai xv.ni xv.ci],.bool ok]∧L= [Nw,M]∧WayS Nw Jp Jr bw q' row∧((ok=true∧ ∃x,nextF h q=some (x,q')∧ItN M x xv)∨(ok=false∧nextF h q=none))
/-- What stands while a proof is gone through. -/
def GoI (M:Heaplet) (g:Nat) (q:List (List UInt8)) (row:List UInt8) (x:It) (xv:IV) (ok:Bool) (res:Option (List UInt8×List (List UInt8))):Prop:=
 (ok=true∧ItN M x xv∧goF g x row q=res∧mu q x<g∧x.form.length≤2000000∧(∀b∈q,b.length≤2000000)∧Nib row)∨(ok=false∧res=none)
def GoesP (Jp Jr:Heaplet) (bw:Nat) (r:Option (List UInt8×List (List UInt8))) (v:Value) (L:List Heaplet):Prop:= ∃Nw M a n c ok,v=.tuple #[.slice a n c,.bool ok]∧L= [Nw,M]∧
 ((ok=false∧r=none)∨ ∃u q' row',ok=true∧r=some (u,q')∧u.length=n∧RSl M 1 a n c (u8s u)∧u.length≤2000000∧WayS Nw Jp Jr bw q' row')
section
variable {M : Heaplet} {g : Nat} {q q' : List (List UInt8)} {row r h : List UInt8} {x y : It} {xv : IV} {res : Option (List UInt8 × List (List UInt8))} {ok : Bool}
theorem goI_start (hN:(ok=true∧ ∃x,nextF h q=some (x,q')∧ItN M x xv)∨(ok=false∧nextF h q=none)) (hne:ok=true→xv.l=true∨xv.nb≠0) (hq: ∀b∈q,b.length≤2000000) (hg:q.length*1026<g) (hn:Nib row) (hres:goesF g h row q=res): ∃x,GoI M g q' row x xv ok res:=by
 rcases hN with ⟨rfl,x,h1,h2⟩|⟨rfl,h1⟩
 ·obtain⟨e1,e2,e3,e4⟩:=next_some h1 hq
  refine⟨x,.inl ⟨rfl,h2,?_,by unfold mu;omega,e3,e4,hn⟩⟩
  rw [←hres,goesF,h1]
  refine(if_neg ?_).symm
  rintro⟨k1,k2⟩
  obtain⟨o1,o2,_⟩:=it_open h2
  rcases hne rfl with k|k
  ·rw [o1,k1]at k;cases k
  ·exact k (by rw [←o2.len8,k2];rfl)
 ·exact⟨itS [],.inr ⟨rfl,by rw [←hres,goesF,h1]⟩⟩
theorem goI_stop (hN:(ok=true∧ ∃x,nextF h q=some (x,q')∧ItN M x xv)∨(ok=false∧nextF h q=none)) (ho:ok=true) (hl:xv.l=false) (hn:xv.nb=0) (hres:goesF g h row q=res):res=some ([],q'):=by
 rcases hN with ⟨_,x,h1,h2⟩|⟨h1,_⟩
 ·obtain⟨o1,o2,_⟩:=it_open h2
  rw [←hres,goesF,h1]
  exact if_pos ⟨by rw [←o1];exact hl,List.eq_nil_of_length_eq_zero (by rw [o2.len8,hn])⟩
 ·rw [ho]at h1;cases h1
theorem go_none (hgo:goF (g+1) x row q=res) (ha:atF x row=none):res=none:=by rw [←hgo,goF,ha]
theorem go_end {u:List UInt8} (hgo:goF (g+1) x row q=res) (ha:atF x row=some (.inl u)):res=some (u,q):=by rw [←hgo,goF,ha]
theorem go_link (hgo:goF (g+1) x row q=res) (ha:atF x row=some (.inr (y,r))):goL (goF g) y r q=res:=by rw [←hgo,goF,ha]
theorem go_nil (hgo:goF (g+1) x row q=res) (ha:atF x row=some (.inr (y,r))) (hl:isL y=false) (hb:y.bytes= []):res=some ([],q):=by
 rw [←go_link hgo ha,goL,if_neg (by rw [hl];simp),if_pos hb]
theorem goI_down (hgo:goF (g+1) x row q=res) (ha:atF x row=some (.inr (y,r))) (hl:isL y=true) (hmu:mu q x<g+1) (hnr:Nib row) (hn:Nib r) (hfs:x.form.length≤2000000) (hq: ∀b∈q,b.length≤2000000) (hy:ItN M y xv):GoI M g q r y xv true res:=by
 obtain⟨e1,e2⟩:=at_inr hnr ha
 obtain⟨e3,e4⟩:=sub_form e1 e2
 refine .inl ⟨rfl,hy,?_,by unfold mu at hmu⊢;omega,by omega,hq,hn⟩
 rw [←go_link hgo ha,goL,if_pos hl]
theorem goI_next (hgo:goF (g+1) x row q=res) (ha:atF x row=some (.inr (y,r))) (hl:isL y=false) (hb:y.bytes≠ []) (hmu:mu q x<g+1) (hn:Nib r) (hq: ∀b∈q,b.length≤2000000) (hN:(ok=true∧ ∃x,nextF y.bytes q=some (x,q')∧ItN M x xv)∨(ok=false∧nextF y.bytes q=none)): ∃x,GoI M g q' r x xv ok res:=by
 have hgl:=go_link hgo ha
 rw [goL,if_neg (by rw [hl];simp),if_neg hb]at hgl
 rcases hN with ⟨rfl,x',h1,h2⟩|⟨rfl,h1⟩
 ·obtain⟨e1,e2,e3,e4⟩:=next_some h1 hq
  refine⟨x',.inl ⟨rfl,h2,?_,by unfold mu at hmu⊢;omega,e3,e4,hn⟩⟩
  rw [h1]at hgl;exact hgl
 ·exact⟨itS [],.inr ⟨rfl,by rw [h1]at hgl;exact hgl.symm⟩⟩
end
section
variable {Nw Jp Jr H : Heaplet} {bw : Nat} {q : List (List UInt8)} {row h : List UInt8} {ha : Option Addr} {hn hc : Nat}
theorem FNextU (hw:WayS Nw Jp Jr bw q row) (hh:RSl H 1 ha hn hc (u8s h)) (hq: ∀b∈q,b.length≤2000000):Fn Tryz.prog 74 #[.pointer (some ⟨bw,0,none⟩),.slice ha hn hc] [Nw] [H,Jp] (NextU Jp Jr bw h q row):=
 ((FNext hw hh fun b hb=>Nat.le_trans (hq b hb) (by decide)).more (Lr':= [H,Jp]) fun N hN=>by simpa [or_comm]using hN).mono fun v L hv=>by
  rcases hv with ⟨x,q',Nw,M,xv,h1,h2,h3,h4,h5⟩|⟨Nw,M,q',xv,h1,h2,h3,h4⟩
  ·exact⟨Nw,M,q',true,xv,h2,h3,h4,.inl ⟨rfl,x,h1,h5⟩⟩
  ·exact⟨Nw,M,q',false,xv,h2,h3,h4,.inr ⟨rfl,h1⟩⟩
set_option maxHeartbeats 2000000 in
theorem FGoes {g0:Nat} (hw:WayS Nw Jp Jr bw q row) (hh:RSl H 1 ha hn hc (u8s h)) (hq: ∀b∈q,b.length≤2000000) (hnb:Nib row) (hg:q.length*1026<g0):Fn Tryz.prog 50 #[.pointer (some ⟨bw,0,none⟩),.slice ha hn hc] [Nw] [Jp,Jr,H] (GoesP Jp Jr bw (goesF g0 h row q)):=by
 obtain⟨res,hres⟩: ∃r,goesF g0 h row q=r:=⟨_,rfl⟩
 rw [hres]
 refine Fn.enter (vs:= [.pointer (some ⟨bw,0,none⟩),.slice ha hn hc]) Tryz.func50 rfl rfl rfl ?_
 intro E R hR
 have hRp: ∀N∈ [Jp],N.le R:=fun N hN=>hR N (by simp at hN;simp [hN])
 have hRr: ∀N∈ [Jr],N.le R:=fun N hN=>hR N (by simp at hN;simp [hN])
 have hRh: ∀N∈ [H,Jp],N.le R:=fun N hN=>hR N (by simp at hN;rcases hN with rfl|rfl<;>simp)
 change At _ _ E [Nw,R] _
 refine At.seq fun _ s_1=>At.region (aE (aD rfl) rfl rfl (aE (aD rfl) rfl rfl (aA (aB (s_1 (At.seq fun _ s_2=>At.region (aC (aD rfl) rfl rfl (aC (aD rfl) rfl rfl (op_call (nxl rfl) (.cons rfl (.cons rfl .nil)) ((FNextU hw hh hq).liftN hRh) (F:= [R]) Tryz.func74 rfl rfl (.refl _) (by simp) rfl ?_)))))))))
 rintro v12 L12 ⟨Nw,M,q1,ok,xv,rfl,rfl,hW,hN⟩
 change At _ _ _ [Nw,M,R] _
 refine aC (aD rfl) rfl rfl (aS (aD rfl) rfl rfl rfl (aS (aD rfl) rfl rfl rfl (bO (bA rfl) ze68 rfl (fun N6 b6 B6=>?_))))
 change Blk N6 b6 _ [.bool false,.slice none 0 0,.slice none 0 0]at B6
 refine aO (nxl rfl) sz68 rfl rfl rfl rfl rfl B6 (by simp) sel0 (fun N6 B6=>?_)
 simp only [setL,List.set]at B6
 refine aE (aD rfl) rfl rfl (aA (aB (s_2 (At.seq fun _ s_3=>At.meet (fun fr_ hp_=> ∃(ok:Bool) (x:It) (xv:IV) (q1:List (List UInt8)) (Nw N6 M:Heaplet),fr_= [(0,.pointer (some ⟨bw,0,none⟩)),(6,.pointer (some ⟨b6,0,none⟩)),(7,.bool ok)]∧hp_= [Nw,N6,M,R]∧(Blk N6 b6 68 [.bool xv.l,.slice xv.ab xv.nb xv.cb,.slice xv.ai xv.ni xv.ci])∧(WayS Nw Jp Jr bw q1 row)∧(GoI M g0 q1 row x xv ok res)) ?_ (fun K3_ jk_3=>?_)))))
 rotate_left
 ·skip
  refine At.seq fun _ s_4=>At.region (aC (aD rfl) rfl rfl (aC (aD rfl) rfl rfl (At.part (d:=16) rfl (fun g16=>?_) (fun g16=>?_))))
  ·refine aF (aY rfl rfl rfl rfl) fl68_0 rfl rfl (aI (aY rfl rfl rfl rfl) sc4 rfl B6 (by first|rfl) aL rfl ?_)
   refine op_not (aY rfl rfl rfl rfl) rfl rfl (bS (aD rfl) rfl rfl rfl (aC (aD rfl) rfl rfl (At.part (d:=21) rfl (fun g21=>?_) (fun g21=>?_))))
   ·refine aF (aY rfl rfl rfl rfl) fl68_1 rfl rfl (aI (aY rfl rfl rfl rfl) sc23 rfl B6 (by first|rfl) aL rfl ?_)
    refine aU (aY rfl rfl rfl rfl) se23 rfl rfl (op_eql (aY rfl rfl rfl rfl) rfl rfl rfl (bS (aD rfl) rfl rfl rfl (aA (aB (s_4 (aK rfl (fun c26=>?_) (fun c26=>?_)))))))
    ·refine At.seq fun _ s_5=>At.region (aE (aD rfl) rfl rfl (aE (aD rfl) rfl rfl (aA (aB (s_5 (At.ret (aM ((At.sub (L':= [Nw,M,R]) (.cons _ (.cons_cons _ (.cons_cons _ (.cons_cons _ (.slnil))))) (bP (L1:= [Nw,M]) rfl (.tmp rfl (.tmp rfl .nil)) rfl (.refl _) (.refl _) ?_))))))))))
     exact⟨Nw,M,none,0,0,true,rfl,rfl,.inr ⟨[],q1,row,rfl,goI_stop hN g16 (by simpa using g21) (by omega) hres,rfl,RSl.nil _ _,Nat.zero_le _,hW⟩⟩
    refine At.skip ?_
    obtain⟨x,hI⟩:=goI_start hN (fun _=>.inr (by omega)) hq hg hnb hres
    refine At.perm sel3 (At.perm sel3 (At.perm sel2 (At.perm sel3 (aB (jk_3 ?_ (.refl _) ⟨ok,x,xv,q1,Nw,N6,M,rfl,rfl,B6,hW,hI⟩)))))
    exact .cons (by first|exact aP rfl (by omega)|rfl) (.cons (by first|exact aP rfl (by omega)|rfl) (.cons (by first|exact aP rfl (by omega)|rfl) .nil))
   refine aH rfl rfl rfl rfl rfl rfl rfl (aH rfl rfl rfl rfl rfl rfl rfl (aH rfl rfl rfl rfl rfl rfl rfl (aH rfl rfl rfl rfl rfl rfl rfl (bR (aD rfl) rfl rfl rfl (aA (aB (s_4 (At.condF rfl (At.skip ?_)))))))))
   obtain⟨x,hI⟩:=goI_start hN (fun _=>.inl (by simpa using g21)) hq hg hnb hres
   refine At.perm sel3 (At.perm sel3 (At.perm sel2 (At.perm sel3 (aB (jk_3 ?_ (.refl _) ⟨ok,x,xv,q1,Nw,N6,M,rfl,rfl,B6,hW,hI⟩)))))
   exact .cons (by first|exact aP rfl (by omega)|rfl) (.cons (by first|exact aP rfl (by omega)|rfl) (.cons (by first|exact aP rfl (by omega)|rfl) .nil))
  refine aH rfl rfl rfl rfl rfl rfl rfl (aH rfl rfl rfl rfl rfl rfl rfl (aH rfl rfl rfl rfl rfl rfl rfl (bR (aD rfl) rfl rfl rfl (aC (aD rfl) rfl rfl (aH rfl rfl rfl rfl rfl rfl rfl (aH rfl rfl rfl rfl rfl rfl rfl (aH rfl rfl rfl rfl rfl rfl rfl (aH rfl rfl rfl rfl rfl rfl rfl (bR (aD rfl) rfl rfl rfl (aA (aB (s_4 (At.condF rfl (At.skip ?_))))))))))))))
  obtain⟨x,hI⟩:=goI_start hN (fun e=>by rw [g16]at e;cases e) hq hg hnb hres
  refine At.perm sel3 (At.perm sel3 (At.perm sel2 (At.perm sel3 (aB (jk_3 ?_ (.refl _) ⟨ok,x,xv,q1,Nw,N6,M,rfl,rfl,B6,hW,hI⟩)))))
  exact .cons (by first|exact aP rfl (by omega)|rfl) (.cons (by first|exact aP rfl (by omega)|rfl) (.cons (by first|exact aP rfl (by omega)|rfl) .nil))
 rintro _ _ ⟨ok,x,xv,q1,Nw,N6,M,rfl,rfl,B6,hW,hI⟩
 refine s_3 (At.seq fun _ s_6=>At.block (At.loop (fun fr_ hp_ ms_=> ∃(g:Nat) (ok:Bool) (x:It) (xv:IV) (q1:List (List UInt8)) (row:List UInt8) (Nw N6 M:Heaplet),fr_= [(0,.pointer (some ⟨bw,0,none⟩)),(6,.pointer (some ⟨b6,0,none⟩)),(7,.bool ok)]∧hp_= [Nw,N6,M,R]∧g=ms_∧(Blk N6 b6 68 [.bool xv.l,.slice xv.ab xv.nb xv.cb,.slice xv.ai xv.ni xv.ci])∧(WayS Nw Jp Jr bw q1 row)∧(GoI M g q1 row x xv ok res)) ?_ (.refl _) ⟨g0,ok,x,xv,q1,row,Nw,N6,M,rfl,rfl,rfl,B6,hW,hI⟩ ?_))
 ·exact .cons (by first|exact aP rfl (by omega)|rfl) (.cons (by first|exact aP rfl (by omega)|rfl) (.cons (by first|exact aP rfl (by omega)|rfl) .nil))
 rintro _ _ _ ⟨g,ok,x,xv,q1,row,Nw,N6,M,rfl,rfl,rfl,B6,hW,hI⟩
 refine At.seq fun _ s_7=>At.seq fun _ s_8=>At.region (aC (aD rfl) rfl rfl (aA (aB (s_8 (At.condB rfl (fun c27=>?_) (fun c27=>?_))))))
 ·obtain⟨_,hx,hgo,hmu,hfs,hq1,hnb⟩:=hI.resolve_right fun k=>by rw [c27]at k;cases k.1
  obtain⟨g,rfl⟩: ∃k,g=k+1:=⟨g- 1,by omega⟩
  refine At.skip (aB (s_7 (At.block (At.seq fun _ s_9=>At.region (bO (bA rfl) ze123 rfl (fun N8 b8 B8=>?_))))))
  change Blk N8 b8 _ [.bool false,.slice none 0 0,.bool false,.slice none 0 0,.slice none 0 0]at B8
  refine aA (aB (s_9 (At.seq fun _ s_10=>At.region (aC (aD rfl) rfl rfl (op_loadAggB (ds:= [_,_,_]) (aD rfl) ag68 rfl B6 rfl rfl bB rfl (At.perm sel4 (At.perm sel4 (At.perm sel4 (At.perm sel3 (At.perm sel4 (op_call (nxl rfl) (.cons rfl (.cons rfl .nil)) (((FAt hW hx hnb (by omega)).more (Lr':= [M,Jr]) fun N hN=>by simpa [or_comm]using hN).liftM hRr) (F:= [N8,N6,M,R]) Tryz.func75 rfl rfl (.refl _) (by simp) rfl ?_)))))))))))
  rintro v31 L31 ⟨N31,row2,e2,a2,n2,c2,z,ok2,rfl,rfl,hW2,hA2⟩
  change At _ _ _ [N31,N8,N6,M,R] _
  refine aC (aD rfl) rfl rfl (aS (aD rfl) rfl rfl rfl (aS (aD rfl) rfl rfl rfl (aO (nxl rfl) sz123 rfl rfl rfl rfl rfl B8 (by simp) sel1 (fun N8 B8=>?_))))
  simp only [setL,List.set]at B8
  refine aE (aD rfl) rfl rfl (aA (aB (s_10 (At.block (At.seq fun _ s_11=>At.region (aC (aD rfl) rfl rfl (op_not (aD rfl) rfl rfl (aE (aD rfl) rfl rfl (aA (aB (s_11 (At.condB rfl (fun c42=>?_) (fun c42=>?_)))))))))))))
  ·have hnone:res=none:=by
    rcases hA2 with ⟨k,_⟩|⟨_,_,k,_⟩|⟨_,_,k,_⟩
    ·exact go_none hgo k
    ·rw [k]at c42;cases c42
    ·rw [k]at c42;cases c42
   refine At.skip (aR (aR (aB (At.sub (L':= [N31,N6,M,R]) (.cons _ (.cons_cons _ (.cons_cons _ (.cons_cons _ (.cons_cons _ (.slnil)))))) (bD ?_ (.refl _) ⟨g,ok2,x,xv,q1,row2,N31,N6,M,rfl,rfl,rfl,B6,hW2,.inr ⟨by simpa using c42,hnone⟩⟩ ?_)))))
   ·exact .cons (by first|exact aP rfl (by omega)|rfl) (.cons (by first|exact aP rfl (by omega)|rfl) (.cons (by first|exact aP rfl (by omega)|rfl) .nil))
   ·omega
  have hok:ok2=true:=by simpa using c42
  have hA3:=hA2.resolve_left fun k=>by rw [hok]at k;cases k.2
  refine At.seq fun _ s_12=>At.region (aF (aD rfl) fl123_0 rfl rfl (aI (aD rfl) sc4 rfl B8 (by first|rfl) aL rfl ?_))
  refine aE (aD rfl) rfl rfl (aA (aB (s_12 (At.condB rfl (fun c45=>?_) (fun c45=>?_)))))
  ·obtain⟨u,hu1,_,_,hu2,hu3⟩:=hA3.resolve_right fun⟨_,_,_,k,_⟩=>by rw [c45]at k;cases k
   refine At.seq fun _ s_13=>At.region (aF (aD rfl) fl123_1 rfl rfl (aI (aD rfl) sc23 rfl B8 (by first|rfl) aL rfl ?_))
   refine aE (aD rfl) rfl rfl (aE (aD rfl) rfl rfl (aA (aB (s_13 (At.ret (At.inRet (At.inRet (aM (At.inRet (aM ((At.sub (L':= [N31,M,R]) (.cons _ (.cons_cons _ (.cons _ (.cons_cons _ (.cons_cons _ (.slnil)))))) (bP (L1:= [N31,M]) rfl (.tmp rfl (.tmp rfl .nil)) rfl (.refl _) (.refl _) ?_)))))))))))))
   exact⟨N31,M,a2,n2,c2,true,rfl,rfl,.inr ⟨u,q1,row2,rfl,go_end hgo hu1,hu2.symm,hu3,Nat.le_trans (at_inl hu1) hfs,hW2⟩⟩
  obtain⟨y,hy1,_,_,hy3,hy4⟩:=hA3.resolve_left fun⟨_,_,_,k,_⟩=>by rw [c45]at k;cases k
  obtain⟨o1,o2,_⟩:=it_open hy3
  have o3:=o2.len8
  refine At.seq fun _ s_14=>At.region (aF (aD rfl) fl123_2 rfl rfl (aF (aD rfl) fl68_0 rfl rfl (aI (aD rfl) sc4 rfl B8 (by first|rfl) aL rfl ?_)))
  refine aE (aD rfl) rfl rfl (aA (aB (s_14 (At.condB rfl (fun c50=>?_) (fun c50=>?_)))))
  ·refine At.region (aF (aD rfl) fl123_2 rfl rfl (op_loadAggB (ds:= [_,_,_]) (aD rfl) ag68 rfl B8 rfl rfl aL rfl (aO (nxl rfl) sz68 rfl rfl rfl rfl rfl B6 (by simp) sel2 (fun N6 B6=>?_))))
   simp only [setL,List.set]at B6
   refine aA (aR (aR (aB (At.sub (L':= [N6,N31,M,R]) (.cons_cons _ (.cons _ (.cons_cons _ (.cons_cons _ (.cons_cons _ (.slnil)))))) (At.perm sel3 (At.perm sel3 (At.perm sel2 (At.perm sel3 ?_))))))))
   refine bD ?_ (.refl _) ⟨g,ok2,y,z,q1,row2,N31,N6,M,rfl,rfl,rfl,B6,hW2,by rw [hok];exact goI_down hgo hy1 (by rw [←o1];exact c50) hmu hnb hy4 hfs hq1 hy3⟩ ?_
   ·exact .cons (by first|exact aP rfl (by omega)|rfl) (.cons (by first|exact aP rfl (by omega)|rfl) (.cons (by first|exact aP rfl (by omega)|rfl) .nil))
   ·omega
  refine At.seq fun _ s_15=>At.region (aF (aD rfl) fl123_2 rfl rfl (aF (aD rfl) fl68_1 rfl rfl (aI (aD rfl) sc23 rfl B8 (by first|rfl) aL rfl ?_)))
  refine aU (aD rfl) se23 rfl rfl (op_eql (aD rfl) rfl rfl rfl (aE (aD rfl) rfl rfl (aA (aB (s_15 (aK rfl (fun c56=>?_) (fun c56=>?_)))))))
  ·refine At.seq fun _ s_16=>At.region (aE (aD rfl) rfl rfl (aE (aD rfl) rfl rfl (aA (aB (s_16 (At.ret (At.inRet (At.inRet (aM (At.inRet (aM ((At.sub (L':= [N31,M,R]) (.cons _ (.cons_cons _ (.cons _ (.cons_cons _ (.cons_cons _ (.slnil)))))) (bP (L1:= [N31,M]) rfl (.tmp rfl (.tmp rfl .nil)) rfl (.refl _) (.refl _) ?_))))))))))))))
   exact⟨N31,M,none,0,0,true,rfl,rfl,.inr ⟨[],q1,row2,rfl,go_nil hgo hy1 (by rw [←o1];exact c50) (List.eq_nil_of_length_eq_zero (by omega)),rfl,RSl.nil _ _,Nat.zero_le _,hW2⟩⟩
  refine At.region (aC (aD rfl) rfl rfl (aF (aD rfl) fl123_2 rfl rfl (aF (aD rfl) fl68_1 rfl rfl (aI (aD rfl) sc23 rfl B8 (by first|rfl) aL rfl ?_))))
  refine At.perm sel4 (At.perm sel4 (At.perm sel4 (At.perm sel3 (At.perm sel4 (op_call (nxl rfl) (.cons rfl (.cons rfl .nil)) ((FNextU hW2 o2 hq1).liftM hRp) (F:= [N8,N6,M,R]) Tryz.func74 rfl rfl (.refl _) (by simp) rfl ?_)))))
  rintro v39 L39 ⟨N39,M39,q3,ok3,xv3,rfl,rfl,hW3,hN3⟩
  change At _ _ _ [N39,M39,N8,N6,M,R] _
  obtain⟨x3,hI3⟩:=goI_next hgo hy1 (by rw [←o1];exact c50) (fun e=>c56 (by rw [←o3,e];rfl)) hmu hy4 hq1 hN3
  refine aC (aD rfl) rfl rfl (aS (aD rfl) rfl rfl rfl (aS (aD rfl) rfl rfl rfl (aO (nxl rfl) sz68 rfl rfl rfl rfl rfl B6 (by simp) sel3 (fun N6 B6=>?_))))
  simp only [setL,List.set]at B6
  refine aE (aD rfl) rfl rfl (aA (aR (aR (aB (At.sub (L':= [N6,N39,M39,R]) (.cons_cons _ (.cons_cons _ (.cons_cons _ (.cons _ (.cons _ (.cons_cons _ (.slnil))))))) (At.perm sel3 (At.perm sel3 (At.perm sel2 (At.perm sel3 (bD ?_ (.refl _) ⟨g,ok3,x3,xv3,q3,row2,N39,N6,M39,rfl,rfl,rfl,B6,hW3,hI3⟩ ?_))))))))))
  ·exact .cons (by first|exact aP rfl (by omega)|rfl) (.cons (by first|exact aP rfl (by omega)|rfl) (.cons (by first|exact aP rfl (by omega)|rfl) .nil))
  ·omega
 refine At.exit (aG (aG (bC (aB (s_6 (At.seq fun _ s_17=>At.region (aE (aD rfl) rfl rfl (aE (aD rfl) rfl rfl (aA (aB (s_17 (At.ret ((At.sub (L':= [Nw,M,R]) (.cons_cons _ (.cons _ (.cons_cons _ (.cons_cons _ (.slnil))))) (bP (L1:= [Nw,M]) rfl (.tmp rfl (.tmp rfl .nil)) rfl (.refl _) (.refl _) ?_)))))))))))))))
 exact⟨Nw,M,none,0,0,false,rfl,rfl,.inl ⟨rfl,by
  rcases hI with ⟨k,_⟩|⟨_,k⟩
  ·rw [c27]at k;cases k
  ·exact k⟩⟩
end
end Go.Proofs.YtdpjbefeabokgaaGreat
/- Layer 12: a proof is checked. Conditions: up to 2000000 bytes a form. -/
namespace Go.Proofs.YtdpjbefeabokgaaGreat
open Go Go.RowKit
set_option maxRecDepth 100000
def outF:Option (List UInt8×List (List UInt8))→Option (List UInt8)
 |some (u,[])=>some u
 |_=>none
def checkF (h k:List UInt8) (q:List (List UInt8)):Option (List UInt8):=outF (goesF (q.length*1026+1) h (nibs k) q)
theorem out_more {u:List UInt8} {q:List (List UInt8)} (h:0<q.length):outF (some (u,q))=none:=by
 cases q with
 |nil=>simp at h
 |cons b q=>rfl
def CheckP (r:Option (List UInt8)) (v:Value) (L:List Heaplet):Prop:=
 (∃u M a c b,r=some u∧v=.tuple #[.slice a u.length c,.bool b,.int .i64 0]∧L= [M]∧Row M 5 1 a u.length c (u8s u)∧(b=true↔u≠ []))∨
 (r=none∧v=.tuple #[.slice none 0 0,.bool false,.int .i64 11]∧L= [])
section
variable {K P : Heaplet} {ka pa : Option Addr} {kn kc pc : Nat} {h k : List UInt8} {q : List (List UInt8)} {us : List Value}
set_option maxHeartbeats 1000000 in
theorem FCheck (hh:h.length=32) (hk:RSl K 1 ka kn kc (u8s k)) (hkn:kn≤1000000) (hp:RSl P 1 pa q.length pc us) (hB:Bags P us q) (hq: ∀b∈q,b.length≤2000000):Fn Tryz.prog 16 #[.agg (u8s h).toArray,.slice ka kn kc,.slice pa q.length pc] [] [K,P] (CheckP (checkF h k q)):=by
 have hu32:(u8s h).length=32:=by rw [u8s,List.length_map,hh]
 obtain⟨res,hres⟩: ∃r,goesF (q.length*1026+1) h (nibs k) q=r:=⟨_,rfl⟩
 have hck:checkF h k q=outF res:=by rw [checkF,hres]
 rw [hck]
 have hkl:=hk.len8
 refine Fn.enter (vs:= [.agg (u8s h).toArray,.slice ka kn kc,.slice pa q.length pc]) Tryz.func16 rfl rfl rfl ?_
 intro E R hR
 have hk:=hk.le (hR K (by simp))
 have hp:=hp.le (hR P (by simp))
 have hB:=hB.le (hR P (by simp))
 change At _ _ E [R] _
 refine At.seq fun _ s_1=>At.region (op_box (bA rfl) rfl rfl rfl (fun N3 b3 B3=>aE (aD rfl) rfl rfl (aE (aD rfl) rfl rfl (aE (aD rfl) rfl rfl (aA (aB (s_1 (At.seq fun _ s_2=>At.region (aC (aD rfl) rfl rfl (aC (aD rfl) rfl rfl (aJ (bA rfl) (.cons rfl .nil) (FNibs hk (by omega)) Tryz.func41 rfl rfl (by simp) rfl ?_)))))))))))
 rintro v14 L14 ⟨N14,a14,c14,rfl,rfl,r14⟩
 change At _ _ _ [N14,N3,R] _
 refine op_build (out:= [_,_]) (aD rfl) ze95 pl95 (.cons rfl (.cons rfl .nil)) rfl rfl (op_box (bA rfl) rfl rfl rfl (fun N16 b16 B16=>aE (aD rfl) rfl rfl (aA (aB (s_2 (At.seq fun _ s_3=>At.region (aC (aD rfl) rfl rfl (op_sliceA (aD rfl) ae26 rfl .none .none .none (by omega) (by omega) (by omega) (by simp) rfl ?_))))))))
 have hgoes:=FGoes (g0:=q.length*1026+1) (q:=q) (row:=nibs k) (h:=h) (Jp:=R) (Jr:=N14) (H:=N3) (bw:=b16) (Nw:=N16) ⟨pa,pc,a14,c14,us,by rw [nibs_length,hkl];exact B16,hp,hB,by rw [nibs_length,hkl];exact r14.rsl⟩ (blk8 B3 hh (by decide)) hq (nibs_nib k) (Nat.lt_succ_self _)
 rw [hres]at hgoes
 refine op_call (nxl rfl) (.cons rfl (.cons rfl .nil)) (hgoes) (F:= [N14,N3,R]) Tryz.func50 rfl rfl (.refl _) (by simp) rfl ?_
 rintro v20 L20 ⟨N20,M,a2,n2,c2,ok,rfl,rfl,hG⟩
 change At _ _ _ [N20,M,N14,N3,R] _
 refine aC (aD rfl) rfl rfl (aS (aD rfl) rfl rfl rfl (aS (aD rfl) rfl rfl rfl (aE (aD rfl) rfl rfl (aE (aD rfl) rfl rfl (aA (aB (s_3 (At.seq fun _ s_4=>At.seq fun _ s_5=>At.region (aC (aD rfl) rfl rfl (op_not (aD rfl) rfl rfl (aC (aD rfl) rfl rfl (At.part (d:=25) rfl (fun g25=>?_) (fun g25=>?_)))))))))))))
 ·refine aH rfl rfl rfl rfl rfl rfl rfl (aH rfl rfl rfl rfl rfl rfl rfl (aH rfl rfl rfl rfl rfl rfl rfl (aH rfl rfl rfl rfl rfl rfl rfl (aH rfl rfl rfl rfl rfl rfl rfl (aH rfl rfl rfl rfl rfl rfl rfl (bS (aD rfl) rfl rfl rfl (aA (aB (s_5 (At.condT rfl (At.seq fun _ s_6=>At.region (aE (aD rfl) rfl rfl (aE (aD rfl) rfl rfl (aE (aD rfl) rfl rfl (aA (aB (s_6 (At.ret (aM ((At.sub (L':= [R]) (.cons _ (.cons _ (.cons _ (.cons _ (.cons_cons _ (.slnil)))))) (bP (L1:= []) rfl (.tmp rfl (.tmp rfl (.tmp rfl .nil))) rfl (.refl _) (.refl _) ?_))))))))))))))))))))))
  have ho:ok=false:=by simpa using g25
  refine .inr ⟨?_,rfl,rfl⟩
  rcases hG with ⟨_,e⟩|⟨_,_,_,e,_⟩
  ·rw [e];rfl
  ·rw [e]at ho;cases ho
 obtain⟨u,q',row',_,hr1,hu1,hu2,hu3,pa',pc',ra',rc',us',B20,hp',hB',hrr⟩:=hG.resolve_left fun z=>by simp [z.1]at g25
 refine aC (aY rfl rfl rfl rfl) rfl rfl (aQ (aY rfl rfl rfl rfl) rfl rfl (aF (aY rfl rfl rfl rfl) fl95_0 rfl rfl (aI (aY rfl rfl rfl rfl) sc22 rfl B20 (by first|rfl) aL rfl ?_)))
 refine aU (aY rfl rfl rfl rfl) se22 rfl rfl (op_gtr (aY rfl rfl rfl rfl) rfl rfl rfl (bR (aD rfl) rfl rfl rfl (aA (aB (s_5 (aK rfl (fun c32=>?_) (fun c32=>?_)))))))
 ·refine At.seq fun _ s_7=>At.region (aE (aD rfl) rfl rfl (aE (aD rfl) rfl rfl (aE (aD rfl) rfl rfl (aA (aB (s_7 (At.ret (aM ((At.sub (L':= [R]) (.cons _ (.cons _ (.cons _ (.cons _ (.cons_cons _ (.slnil)))))) (bP (L1:= []) rfl (.tmp rfl (.tmp rfl (.tmp rfl .nil))) rfl (.refl _) (.refl _) ?_)))))))))))
  exact .inr ⟨by rw [hr1];exact out_more (by omega),rfl,rfl⟩
 refine At.skip (aB (s_4 (At.seq fun _ s_8=>At.region (aC (aD rfl) rfl rfl (aJ (bA rfl) (.cons rfl .nil) (FClone hu2 (by omega)) Tryz.func51 rfl rfl (by simp) rfl ?_)))))
 rintro v34 L34 ⟨N34,a34,c34,rfl,rfl,r34⟩
 change At _ _ _ [N34,N20,M,N14,N3,R] _
 refine aC (aD rfl) rfl rfl (aU (aD rfl) se23 rfl rfl (op_gtr (aD rfl) rfl rfl rfl (aE (aD rfl) rfl rfl (aE (aD rfl) rfl rfl (aE (aD rfl) rfl rfl (aA (aB (s_8 (At.ret ((At.sub (L':= [N34,R]) (.cons_cons _ (.cons _ (.cons _ (.cons _ (.cons _ (.cons_cons _ (.slnil))))))) (bP (L1:= [N34]) rfl (.tmp rfl (.tmp rfl (.tmp rfl .nil))) rfl (.refl _) (.refl _) ?_))))))))))))
 have e:q'= []:=List.eq_nil_of_length_eq_zero (by omega)
 subst hu1
 refine .inl ⟨u,N34,a34,c34,_,by rw [hr1,e];rfl,rfl,rfl,r34,?_⟩
 rw [decide_eq_true_iff]
 constructor
 ·intro z e2;rw [e2]at z;simp at z
 ·intro z
  have:=List.length_pos_iff.2 z
  omega
end
end Go.Proofs.YtdpjbefeabokgaaGreat
/- Layer 12: the proof of any key; 'quarrylaw12.TrieProofs' answers true. No condition. -/
namespace Go.Proofs.YtdpjbefeabokgaaGreat
open Go Go.RowKit
set_option maxRecDepth 100000
theorem step_fit {f:Nat} {l m:List PR} {row r:List UInt8} (hf:Fit (f+1) l) (h:stepF l row=some (m,r)):Fit f m:=by
 unfold stepF at h
 split at h
 ·cases h
 ·split at h
  ·rename_i h0
   split at h
   ·simp only [Option.some.injEq,Prod.mk.injEq]at h
    rw [←h.1];exact hf.cut (Nat.le_refl _) h0
   ·cases h
  ·split at h
   ·cases h
   ·split at h
    ·cases h
    ·simp only [Option.some.injEq,Prod.mk.injEq]at h
     rw [←h.1];exact hf.und _
theorem prove_small: ∀(f:Nat) {l:List PR} {row:List UInt8},Fit f l→ ∀b∈proveF f l row,b.length≤2000000
 |0,l,row,hf,b,hb=>by cases hb
 |f+1,l,row,hf,b,hb=>by
  rw [proveF]at hb
  split at hb
  ·cases hb
  ·rename_i m r hst
   have hm:=step_fit hf hst
   rcases List.mem_append.1 hb with hb|hb
   ·split at hb
    ·rw [List.mem_singleton.1 hb];exact node_small f hm.sml
    ·cases hb
   ·exact prove_small f hm b hb
theorem prove_len: ∀(f:Nat) (l:List PR) (row:List UInt8),(proveF f l row).length≤f
 |0,l,row=>Nat.le_refl _
 |f+1,l,row=>by
  rw [proveF]
  split
  ·exact Nat.zero_le _
  ·rename_i m r hst
   rw [List.length_append]
   have:=prove_len f m r
   split<;>simp only [List.length_cons,List.length_nil]<;>omega
theorem provM_small {R:List PR} (hG:Good R) (k:List UInt8): ∀b∈provM R k,b.length≤2000000:=fun b hb=>by
 rcases List.mem_cons.1 hb with rfl|hb
 ·exact node_small 81 hG.fit.sml
 ·exact prove_small 81 hG.fit b hb
theorem provM_len (R:List PR) (k:List UInt8):(provM R k).length≤82:=by
 have:=prove_len 81 (prs R) (nibs k)
 rw [provM,List.length_cons];omega
theorem check_own {R:List PR} (hG:Good R) (k:List UInt8):checkF (rootM R) k (provM R k)=some ((getR R k).getD []):=by
 have hb: ∀b∈provM R k,b.length<2^64:=fun b hb=>Nat.lt_of_le_of_lt (provM_small hG k b hb) (by decide)
 have h:=goes_right (f:=81) (g:=(provM R k).length*1026+1) (l:=prs R) (row:=nibs k) (q:=provM R k) hG.dis.prs hG.fit (nibs_nib k) hb (Nat.lt_succ_self _)
 rw [checkF]
 have e:=right_own (P:=provM R k) h
 rw [get_prs hG.dis]at e
 show outF (goesF _ (kec (nodeF 81 (prs R)).form) (nibs k) (provM R k))=_
 rw [e];rfl
theorem check_some {r:Option (List UInt8)} {u:List UInt8} {v:Value} {L:List Heaplet} (hr:r=some u) (h:CheckP r v L): ∃M a c b,v=.tuple #[.slice a u.length c,.bool b,.int .i64 0]∧L= [M]∧Row M 5 1 a u.length c (u8s u)∧(b=true↔u≠ []):=by
 rcases h with ⟨u',M,a,c,b,h1,h2,h3,h4,h5⟩|⟨h1,_⟩
 ·rw [hr]at h1
  obtain rfl:=Option.some.inj h1
  exact⟨M,a,c,b,h2,h3,h4,h5⟩
 ·rw [hr]at h1;cases h1
theorem root_len (R:List PR):(rootM R).length=32:=by rw [rootM,kec_len]
section
variable {N K : Heaplet} {ao ka : Option Addr} {n cap kn kc : Nat} {xs : List OV} {k : List UInt8}
end
end Go.Proofs.YtdpjbefeabokgaaGreat
/- quarrykeep.Loan: lists of bytes that are handed in. Condition: lists of at most 2^40 bytes, at most 2^30 of them. -/
namespace Go.Proofs.YtdpjbefeabokgaaGreat
open Go Go.RowKit
theorem u8s_append (a b:List UInt8):u8s (a++b)=u8s a++u8s b:=by simp [u8s]
def marks:List UInt8:= [77,78,79,80,81]
/-- The loan's parts: its struct, its two lists, the copies; and what is lent. -/
def LoanO (b0:Nat) (N0 NF NW NK NI:Heaplet) (fs:List (List UInt8)):Prop:=
 ∃e0 pf cf pw cw vf vw,Blk N0 b0 e0 [.slice pf fs.length cf,.slice pw fs.length cw]∧Row NF 23 1 pf fs.length cf vf∧Row NW 23 1 pw fs.length cw vw∧Bag 5 NI vf fs∧Bags NK vw fs
set_option maxRecDepth 100000 in
theorem LoanBytes_o {b0:Nat} {N0 NF NW NK NI N:Heaplet} {fs:List (List UInt8)} {ao:Option Addr} {n cap:Nat} {l:List UInt8} (h:LoanO b0 N0 NF NW NK NI fs) (hs:RSl N 1 ao n cap (u8s l)) (hn:n≤1099511627776) (hk:fs.length≤1073741824):
 Fn Tryz.prog 24 #[.pointer (some ⟨b0,0,none⟩),.slice ao n cap] [N0,NF,NW,NK,NI] [N] (fun v L=> ∃N0' NF' NW' M1 M2 p c,v=.slice p n c∧L= [N0',NF',NW',join2 M2 NK,join2 M1 NI]∧Apart M1 NI∧LoanO b0 N0' NF' NW' (join2 M2 NK) (join2 M1 NI) (fs++ [l++marks])∧RSl M1 1 p n c (u8s l)):=by
 obtain⟨e0,pf,cf,pw,cw,vf,vw,B0,rF,rW,hI,hK⟩:=h
 have hlen:=hs.len8
 have hcap:=hs.cap63
 have hcf:=rF.rsl.cap63
 have hcw:=rW.rsl.cap63
 have hml:(l++marks).length=0+n+5:=by rw [List.length_append,hlen,Nat.zero_add];rfl
 refine Fn.enter (vs:= [.pointer (some ⟨b0,0,none⟩),.slice ao n cap]) Tryz.func24 rfl rfl rfl ?_
 intro E R hR
 have hs:=hs.le (hR N (by simp))
 change At _ _ E [N0,NF,NW,NK,NI,R] _
 refine At.seq fun _ s_1=>At.region (aE (aD rfl) rfl rfl (aA (aB (s_1 (At.seq fun _ s_2=>At.region (op_lit (bA rfl) Tryz.underlying23 ze5 sz5 .nil rfl rfl (by simp [Value.cells]) rfl rfl rfl (fun N6 a6 r6=>?_)))))))
 simp only [flatV,List.flatMap_cons,List.flatMap_nil,Value.cells,List.append_nil,List.cons_append,List.nil_append]at r6
 have s6:=r6.rsl
 refine aC (aD rfl) rfl rfl ?_
 refine bE (nxl rfl) Tryz.underlying23 Tryz.underlying23 te5 rfl rfl r6 (by assumption) (by first|exact aL|exact aZ|exact bB|exact bF|exact bG|exact bH|exact bL|exact bK|exact bJ|exact bM) (by first|exact one_u8s _|exact one_u64s _|exact one_u32s _|(intro u hu;simp at hu;subst hu;rfl)) (by omega) (by omega) sel0 rfl (fun N8 a8 p8 r8=>?_)
 have s8:=r8.rsl
 refine op_lit (bA rfl) Tryz.underlying23 ze5 sz5 (.cons rfl (.cons rfl (.cons rfl (.cons rfl (.cons rfl .nil))))) rfl rfl (by simp [Value.cells]) rfl rfl rfl (fun N9 a9 r9=>?_)
 simp only [flatV,List.flatMap_cons,List.flatMap_nil,Value.cells,List.append_nil,List.cons_append,List.nil_append]at r9
 have s9:=r9.rsl
 change Row N9 _ 1 a9 5 5 (u8s marks)at r9
 have s9:=r9.rsl
 refine bE (nxl rfl) Tryz.underlying23 Tryz.underlying23 te5 rfl rfl r8 s9 (by first|exact aL|exact aZ|exact bB|exact bF|exact bG|exact bH|exact bL|exact bK|exact bJ|exact bM) (by first|exact one_u8s _|exact one_u64s _|exact one_u32s _|(intro u hu;simp at hu;subst hu;rfl)) (by omega) (by omega) sel1 rfl (fun N10 a10 p10 r10=>?_)
 have s10:=r10.rsl
 rw [List.nil_append, ←u8s_append, ←hml]at r10
 have s10:=r10.rsl
 have hc10:=s10.cap63
 rw [←hml]
 refine aE (aD rfl) rfl rfl (aA (aB (s_2 (At.seq fun _ s_3=>At.region (aC (aD rfl) rfl rfl (aC (aD rfl) rfl rfl (aQ (aD rfl) rfl rfl (aF (aD rfl) fl55_0 rfl rfl (aI (aD rfl) sc22 rfl B0 (by first|rfl) bB rfl ?_)))))))))
 refine aC (aD rfl) rfl rfl (op_lit (bA rfl) Tryz.underlying22 ze23 sz23 (.cons rfl .nil) rfl rfl (by simp [Value.cells]) rfl rfl rfl (fun N17 a17 r17=>?_))
 simp only [flatV,List.flatMap_cons,List.flatMap_nil,Value.cells,List.append_nil,List.cons_append,List.nil_append]at r17
 have s17:=r17.rsl
 refine bE (nxl rfl) Tryz.underlying22 Tryz.underlying22 te23 rfl rfl rF s17 (by first|exact aL|exact aZ|exact bB|exact bF|exact bG|exact bH|exact bL|exact bK|exact bJ|exact bM) (by first|exact one_u8s _|exact one_u64s _|exact one_u32s _|(intro u hu;simp at hu;subst hu;rfl)) (by omega) (by omega) sel4 rfl (fun N18 a18 p18 r18=>?_)
 have s18:=r18.rsl
 refine aQ (aD rfl) rfl rfl (aF (aD rfl) fl55_0 rfl rfl (aO (nxl rfl) sz22 rfl rfl rfl rfl rfl B0 (by simp) sel4 (fun N0 B0=>?_)))
 simp only [setL,List.set]at B0
 refine aA (aB (s_3 (At.seq fun _ s_4=>At.perm sel8 (At.perm sel4 (At.perm sel2 (At.perm sel8 (At.perm sel8 (At.perm sel8 (At.perm sel8 (At.perm sel8 (At.perm sel8 (At.drawnS [N0,N10,R] [9,12] [0,1,6] [0,1,2,3,4,6,5,7,8,9,10,11,12] (by kernel_rfl) (by kernel_rfl) (.cons _ (.cons _ (.cons _ (.cons _ (.cons _ (.cons _ (.refl _))))))) (aC (aX rfl rfl rfl) rfl rfl (aC (aX rfl rfl rfl) rfl rfl (aQ (aX rfl rfl rfl) rfl rfl (aF (aX rfl rfl rfl) fl55_1 rfl rfl (aI (aX rfl rfl rfl) sc22 rfl B0 (by first|rfl) aL rfl ?_)))))))))))))))))
 refine aC (aX rfl rfl rfl) rfl rfl (op_lit (Nx.agree (nxsm rfl rfl rfl)) Tryz.underlying23 ze5 sz5 .nil rfl rfl (by simp [Value.cells]) rfl rfl rfl (fun N26 a26 r26=>?_))
 simp only [flatV,List.flatMap_cons,List.flatMap_nil,Value.cells,List.append_nil,List.cons_append,List.nil_append]at r26
 have s26:=r26.rsl
 refine At.moreS (Lst:= [N0,N10,R]) (Lst':= [N0,N10,R]) (.refl _) (.cons _ (.cons _ (.cons _ (.cons _ (.cons _ (.cons _ (.cons _ (.refl _)))))))) ?_
 refine bE (nxsm rfl rfl rfl) Tryz.underlying23 Tryz.underlying23 te5 rfl rfl r26 s10 (by first|exact aL|exact aZ|exact bB|exact bF|exact bG|exact bH|exact bL|exact bK|exact bJ|exact bM) (by first|exact one_u8s _|exact one_u64s _|exact one_u32s _|(intro u hu;simp at hu;subst hu;rfl)) (by omega) (by omega) sel0 rfl (fun N28 a28 p28 r28=>?_)
 have s28:=r28.rsl
 refine At.perm sel9 (At.perm sel9 (At.perm sel9 (At.perm sel3 (At.perm sel9 (At.perm sel9 (At.perm sel9 (At.perm sel9 (At.perm sel9 (At.perm sel9 (At.moreS (Lst:= [N0,N10,R]) (Lst':= [N28,N0,N10,R]) (.cons _ (.refl _)) (.cons _ (.cons _ (.cons _ (.cons _ (.cons _ (.cons _ (.refl _))))))) ?_))))))))))
 rw [List.nil_append,Nat.zero_add]at r28
 have s28:=r28.rsl
 rw [Nat.zero_add]
 refine op_lit (Nx.agree (nxsm rfl rfl rfl)) Tryz.underlying22 ze23 sz23 (.cons rfl .nil) rfl rfl (by simp [Value.cells]) rfl rfl rfl (fun N29 a29 r29=>?_)
 simp only [flatV,List.flatMap_cons,List.flatMap_nil,Value.cells,List.append_nil,List.cons_append,List.nil_append]at r29
 have s29:=r29.rsl
 refine At.perm sel10 (At.perm sel10 (At.perm sel10 (At.perm sel10 (At.perm sel4 (At.perm sel10 (At.perm sel10 (At.perm sel10 (At.perm sel10 (At.perm sel10 (At.perm sel10 (At.moreS (Lst:= [N28,N0,N10,R]) (Lst':= [N29,N28,N0,N10,R]) (.cons _ (.refl _)) (.cons _ (.cons _ (.cons _ (.cons _ (.cons _ (.cons _ (.refl _))))))) ?_)))))))))))
 refine bE (nxss rfl rfl rfl rfl) Tryz.underlying22 Tryz.underlying22 te23 rfl rfl rW s29 (by first|exact aL|exact aZ|exact bB|exact bF|exact bG|exact bH|exact bL|exact bK|exact bJ|exact bM) (by first|exact one_u8s _|exact one_u64s _|exact one_u32s _|(intro u hu;simp at hu;subst hu;rfl)) (by omega) (by omega) sel3 rfl (fun N30 a30 p30 r30=>?_)
 have s30:=r30.rsl
 refine At.anyS (.refl _) (aQ (aX rfl rfl rfl) rfl rfl (aF (aX rfl rfl rfl) fl55_1 rfl rfl (aO (nxsl rfl rfl rfl rfl) sz22 rfl rfl rfl rfl rfl B0 (by simp) sel8 (fun N0 B0=>?_))))
 simp only [setL,List.set]at B0
 refine At.sNil (aB (s_4 (At.seq fun _ s_5=>At.region (aC (aD rfl) rfl rfl (aC (aD rfl) rfl rfl (aU (aD rfl) se23 rfl rfl (op_slice0 (aD rfl) se23 rfl (.some rfl (show _=(((n:Nat)):Int)from by omega)) .none (by omega) (by omega) (by simp) rfl ?_)))))))
 refine aE (aD rfl) rfl rfl (aA (aB (s_5 (At.ret (?_)))))
 have s36:=s10.take8 (hi:=n) (m:=p10) (by omega) (by omega) (by omega)
 rw [show(l++marks).take n=l from by rw [←hlen];exact List.take_left]at s36
 refine At.perm sel10 (At.perm sel9 (At.perm sel9 (At.perm sel8 (At.perm sel8 (At.perm sel8 (At.perm sel8 (At.perm sel8 (At.perm sel8 (At.perm sel9 (At.perm sel10 (At.merge (fun h10=>At.perm sel9 (At.perm sel8 (At.perm sel7 (At.perm sel7 (At.perm sel7 (At.perm sel7 (At.perm sel7 (At.perm sel7 (At.perm sel8 ?_))))))))))))))))))))
 refine At.perm sel9 (At.merge (fun h28=>At.sub (L':= [(join2 N28 NK),(join2 N10 NI),N0,N30,N18,R]) (.cons_cons _ (.cons_cons _ (.cons_cons _ (.cons_cons _ (.cons_cons _ (.cons _ (.cons _ (.cons _ (.cons_cons _ (.slnil)))))))))) (At.perm sel5 (At.perm sel2 (At.perm sel2 (At.perm sel4 (At.perm sel5 (At.perm sel5 (aW (L1:= [N0,N18,N30,(join2 N28 NK),(join2 N10 NI)]) rfl (.tmp rfl .nil) (.refl _) (.refl _) (⟨N0,N18,N30,N10,N28,a10,p10,rfl,rfl,h10,⟨e0,a18,p18,a30,p30,_,_,?_,?_,?_,hI.snoc r10 h10,hK.snoc s28 h28⟩,s36⟩))))))))))
 ·simpa using B0
 ·simpa using r18
 ·simpa using r30
end Go.Proofs.YtdpjbefeabokgaaGreat
/- quarrykeep.Loan: what was handed in is as it was. No condition. -/
namespace Go.Proofs.YtdpjbefeabokgaaGreat
open Go Go.RowKit
theorem set_get {α:Type} {xs:List α} {i:Nat} {x y:α} (h:xs[i]? =some x):(xs.set i y)[i]? =some y:=by
 rw [List.getElem?_set_self (List.getElem?_eq_some_iff.1 h).1]
theorem get_set_ne {α:Type} {xs:List α} {i j:Nat} {y:α} (h:i≠j):(xs.set i y)[j]? =xs[j]? :=List.getElem?_set_ne h
theorem get_lt {α:Type} {xs:List α} {i:Nat} (h:i<xs.length): ∃x,xs[i]? =some x:=⟨_,List.getElem?_eq_getElem h⟩
theorem str_same (x:List UInt8):decide (x=x)=true:=decide_eq_true rfl
theorem set8R (l:List UInt8) (j:Nat) (x:UInt8):setL (u8s l) j [.int .u8 (x.toNat:Int)]=u8s (l.set j x):=by rw [setL,setL,set_u8s]
set_option maxRecDepth 100000 in
theorem LoanBack_o {b0:Nat} {N0 NF NW NK NI:Heaplet} {fs:List (List UInt8)} (h:LoanO b0 N0 NF NW NK NI fs):
 Fn Tryz.prog 28 #[.pointer (some ⟨b0,0,none⟩)] [N0,NF,NW,NK,NI] [] (fun v L=>v=.bool true∧L= []):=by
 obtain⟨e0,pf,cf,pw,cw,vf,vw,B0,rF,rW,hI,hK⟩:=h
 have hcf:=rF.rsl.cap63
 have hcw:=rW.rsl.cap63
 have sF:=rF.rsl
 have sW:=rW.rsl
 refine Fn.enter (vs:= [.pointer (some ⟨b0,0,none⟩)]) Tryz.func28 rfl rfl rfl ?_
 intro E R hR
 change At _ _ E [N0,NF,NW,NK,NI,R] _
 refine At.seq fun _ s_1=>At.region (aE (aD rfl) rfl rfl (aA (aB (s_1 (At.seq fun _ s_2=>At.region (aE (aD rfl) rfl rfl (aA (aB (s_2 (At.seq fun _ s_3=>At.seq fun _ s_4=>At.region (aE (aD rfl) rfl rfl (aA (aB (s_4 (At.block (At.loop (fun fr_ hp_ ms_=> ∃(i:Nat) (NI:Heaplet) (gs:List (List UInt8)),fr_= [(0,.pointer (some ⟨b0,0,none⟩)),(3,.bool true),(4,.int .i64 (i:Int))]∧hp_= [N0,NF,NW,NK,NI,R]∧fs.length- i=ms_∧(i≤fs.length)∧(Bag 5 NI vf gs)∧(gs.length=fs.length)∧(∀j,i≤j→gs[j]? =fs[j]?)) ?_ (.refl _) ⟨0,NI,fs,rfl,rfl,rfl,by omega,hI,rfl,fun _ _=>rfl⟩ ?_))))))))))))))))
 ·exact .cons (by first|exact aP rfl (by omega)|rfl) (.cons (by first|exact aP rfl (by omega)|rfl) (.cons (by first|exact aP rfl (by omega)|rfl) .nil))
 rintro _ _ _ ⟨i,NI,gs,rfl,rfl,rfl,hi,hg,hgl,hgf⟩
 refine At.seq fun _ s_5=>At.seq fun _ s_6=>At.region (aC (aD rfl) rfl rfl (aC (aD rfl) rfl rfl (aQ (aD rfl) rfl rfl (aF (aD rfl) fl55_0 rfl rfl (aI (aD rfl) sc22 rfl B0 (by first|rfl) aL rfl ?_)))))
 refine aU (aD rfl) se22 rfl rfl (op_lss (aD rfl) rfl rfl rfl (aA (aB (s_6 (aK rfl (fun c12=>?_) (fun c12=>?_))))))
 ·obtain⟨x,hx⟩:=get_lt (xs:=fs) (i:=i) (by omega)
  obtain⟨p,c,hv,hr⟩:=hg.row i x (by rw [hgf i (Nat.le_refl _),hx])
  obtain⟨q,d,hv2,hr2⟩:=hK.rsl i x hx
  have hrs:=hr.rsl
  refine At.skip (aB (s_5 (At.seq fun _ s_7=>At.block (At.seq fun _ s_8=>At.drawnS [N0,NF,NW,NK,NI,R] [] [] [0,1,2,3,4,5,6,7,8,9,10,11,12,13,14,15,16,17,18,19,20] (by kernel_rfl) (by kernel_rfl) (.refl _) (aC (aX rfl rfl rfl) rfl rfl (aC (aX rfl rfl rfl) rfl rfl (aC (nxsgf rfl rfl rfl rfl rfl rfl) rfl rfl (aQ (nxsgf rfl rfl rfl rfl rfl rfl) rfl rfl (aF (nxsgf rfl rfl rfl rfl rfl rfl) fl55_0 rfl rfl (aI (nxsgf rfl rfl rfl rfl rfl rfl) sc22 rfl B0 (by first|rfl) aL rfl ?_))))))))))
  refine aC (nxsgf rfl rfl rfl rfl rfl rfl) rfl rfl (bI (nxsgf rfl rfl rfl rfl rfl rfl) se22 rfl rfl sF (show _=(((i:Nat)):Int)from by omega) (by omega) rfl ?_)
  refine aT (nxsgf rfl rfl rfl rfl rfl rfl) sc23 rfl sF (by first|exact get8 (by omega)|exact bT (by omega)|exact bU (by omega)|exact hv) (by first|exact aL|exact aZ|exact bB|exact bF|exact bG|exact bH|exact bL|exact bK|exact bJ|exact bM) rfl ?_
  refine op_str (nxsgf rfl rfl rfl rfl rfl rfl) Tryz.underlying23 Tryz.underlying5 Tryz.underlying9 rfl (by assumption) (by first|exact aL|exact aZ|exact bB|exact bF|exact bG|exact bH|exact bL|exact bK|exact bJ|exact bM) rfl ?_
  refine aC (nxsgf rfl rfl rfl rfl rfl rfl) rfl rfl (aQ (nxsgf rfl rfl rfl rfl rfl rfl) rfl rfl (aF (nxsgf rfl rfl rfl rfl rfl rfl) fl55_1 rfl rfl (aI (nxsgf rfl rfl rfl rfl rfl rfl) sc22 rfl B0 (by first|rfl) aL rfl ?_)))
  refine aC (nxsgf rfl rfl rfl rfl rfl rfl) rfl rfl (bI (nxsgf rfl rfl rfl rfl rfl rfl) se22 rfl rfl sW (show _=(((i:Nat)):Int)from by omega) (by omega) rfl ?_)
  refine aT (nxsgf rfl rfl rfl rfl rfl rfl) sc23 rfl sW (by first|exact get8 (by omega)|exact bT (by omega)|exact bU (by omega)|exact hv2) (by first|exact aL|exact aZ|exact bB|exact bF|exact bG|exact bH|exact bL|exact bK|exact bJ|exact bM) rfl ?_
  refine op_str (nxsgf rfl rfl rfl rfl rfl rfl) Tryz.underlying23 Tryz.underlying5 Tryz.underlying9 rfl (by assumption) (by first|exact aL|exact aZ|exact bB|exact bF|exact bG|exact bH|exact bL|exact bK|exact bJ|exact bM) rfl ?_
  refine op_eqS (nxsgf rfl rfl rfl rfl rfl rfl) rfl rfl rfl ?_
  rw [str_same x]
  refine bS (aX rfl rfl rfl) rfl rfl rfl (aE (aX rfl rfl rfl) rfl rfl (At.sNil (aB (s_8 (At.seq fun _ s_9=>At.region (aE (aD rfl) rfl rfl (aA (aB (s_9 (At.block (At.loop (fun fr_ hp_ ms_=> ∃(k:Nat) (NI:Heaplet) (hs:List (List UInt8)) (y:List UInt8),fr_= [(0,.pointer (some ⟨b0,0,none⟩)),(3,.bool true),(4,.int .i64 (i:Int)),(5,.int .i64 (k:Int))]∧hp_= [N0,NF,NW,NK,NI,R]∧x.length- k=ms_∧(k≤x.length)∧(Bag 5 NI vf hs)∧(hs.length=fs.length)∧(hs[i]? =some y)∧(y.length=x.length)∧(∀j,i+1≤j→hs[j]? =fs[j]?)) ?_ (.refl _) ⟨0,NI,gs,x,rfl,rfl,rfl,by omega,hg,hgl,by rw [hgf i (Nat.le_refl _),hx],rfl,fun j hj=>hgf j (by omega)⟩ ?_)))))))))))
  ·exact .cons (by first|exact aP rfl (by omega)|rfl) (.cons (by first|exact aP rfl (by omega)|rfl) (.cons (by first|exact aP rfl (by omega)|rfl) (.cons (by first|exact aP rfl (by omega)|rfl) .nil)))
  rintro _ _ _ ⟨k,NI,hs,y,rfl,rfl,rfl,hk,hh,hhl,hy,hyl,hhf⟩
  obtain⟨p',c',hv',hr'⟩:=hh.row i y hy
  have hrs':=hr'.rsl
  have hcp':=hrs'.cap63
  refine At.seq fun _ s_10=>At.seq fun _ s_11=>At.region (aC (aD rfl) rfl rfl (aC (aD rfl) rfl rfl (aQ (aD rfl) rfl rfl (aF (aD rfl) fl55_0 rfl rfl (aI (aD rfl) sc22 rfl B0 (by first|rfl) aL rfl ?_)))))
  refine aC (aD rfl) rfl rfl (bI (aD rfl) se22 rfl rfl sF (show _=(((i:Nat)):Int)from by omega) (by omega) rfl ?_)
  refine aT (aD rfl) sc23 rfl sF (by first|exact get8 (by omega)|exact bT (by omega)|exact bU (by omega)|exact hv') (by first|exact aL|exact aZ|exact bB|exact bF|exact bG|exact bH|exact bL|exact bK|exact bJ|exact bM) rfl ?_
  refine aU (aD rfl) se23 rfl rfl (op_lss (aD rfl) rfl rfl rfl (aA (aB (s_11 (aK rfl (fun c44=>?_) (fun c44=>?_))))))
  ·refine At.skip (aB (s_10 (At.seq fun _ s_12=>At.block (At.region (aC (aD rfl) rfl rfl (aQ (aD rfl) rfl rfl (aF (aD rfl) fl55_0 rfl rfl (aI (aD rfl) sc22 rfl B0 (by first|rfl) aL rfl ?_))))))))
   refine aC (aD rfl) rfl rfl (bI (aD rfl) se22 rfl rfl sF (show _=(((i:Nat)):Int)from by omega) (by omega) rfl ?_)
   refine aT (aD rfl) sc23 rfl sF (by first|exact get8 (by omega)|exact bT (by omega)|exact bU (by omega)|exact hv') (by first|exact aL|exact aZ|exact bB|exact bF|exact bG|exact bH|exact bL|exact bK|exact bJ|exact bM) rfl ?_
   refine aC (aD rfl) rfl rfl (bI (aD rfl) se23 rfl rfl hrs' (show _=(((k:Nat)):Int)from by omega) (by omega) rfl ?_)
   refine op_storeU (nxl rfl) sz5 rfl rfl rfl rfl rfl hr' (by simp<;>omega) (by simp) sel4 (fun NJ rJ oJ=>?_)
   change Row NJ _ 1 p' y.length c' (setL (u8s y) k [.int .u8 (((90:UInt8).toNat:Nat):Int)])at rJ
   rw [set8R]at rJ
   refine aA (aR (aB (s_12 (At.region (aC (aD rfl) rfl rfl (aV (aD rfl) rfl rfl (by omega) (by omega) rfl (aE (aD rfl) rfl rfl (aA (aB (At.perm sel5 (At.perm sel1 (At.perm sel5 (At.perm sel5 (At.perm sel5 (At.perm sel5 (bD ?_ (.refl _) ⟨k+1,NJ,hs.set i (y.set k 90),y.set k 90,rfl,rfl,rfl,by omega,hh.set hv' rJ oJ,by rw [List.length_set,hhl],set_get hy,by rw [List.length_set,hyl],fun j hj=>by rw [get_set_ne (by omega),hhf j hj]⟩ ?_))))))))))))))))
   ·exact .cons (by first|exact aP rfl (by omega)|rfl) (.cons (by first|exact aP rfl (by omega)|rfl) (.cons (by first|exact aP rfl (by omega)|rfl) (.cons (by first|exact aP rfl (by omega)|rfl) .nil)))
   ·omega
  refine At.exit (aG (aG (bC (aR (aB (s_7 (At.region (aC (aD rfl) rfl rfl (aV (aD rfl) rfl rfl (by omega) (by omega) rfl (aE (aD rfl) rfl rfl (aA (aB (bD ?_ (.refl _) ⟨i+1,NI,hs,rfl,rfl,rfl,by omega,hh,hhl,hhf⟩ ?_)))))))))))))
  ·exact .cons (by first|exact aP rfl (by omega)|rfl) (.cons (by first|exact aP rfl (by omega)|rfl) (.cons (by first|exact aP rfl (by omega)|rfl) .nil))
  ·omega
 refine At.exit (aG (aG (bC (aB (s_3 (At.seq fun _ s_13=>At.region (aC (aD rfl) rfl rfl (aE (aD rfl) rfl rfl (aA (aB (s_13 (At.ret ((At.sub (L':= [R]) (.cons _ (.cons _ (.cons _ (.cons _ (.cons _ (.cons_cons _ (.slnil))))))) (aW (L1:= []) rfl (.tmp rfl .nil) (.refl _) (.refl _) ?_)))))))))))))))
 exact⟨rfl,rfl⟩
end Go.Proofs.YtdpjbefeabokgaaGreat
