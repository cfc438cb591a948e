/- Several texts in one: see the remarks ahead of each part. No condition but those told there. -/
import Derived.Test.YtdpjbefeabokgaaGreatU15
set_option linter.unusedSimpArgs false
set_option linter.unusedVariables false
/- Layer 12, the reference: the proof of a key. Conditions: up to 1000000 keys. -/
namespace Go.Proofs.YtdpjbefeabokgaaGreat
open Go Go.RowKit
set_option maxRecDepth 100000
section
variable {l : List PR} {p : PR} {row : List UInt8} {n : Nat}
theorem row_cons (h0:0<row.length):row=row.getD 0 0::row.drop 1:=by
 cases row with
 |nil=>simp at h0
 |cons a t=>rfl
end
theorem PsM.cut {Ns:List Heaplet} {f k:Nat} {l:List PR} {xs:List PV} {ao a:Option Addr} {n cap c:Nat} {M:Heaplet} (h:PsM Ns (f+1) l xs ao n cap) (hk:shar l=k) (h0:0<k) (hr:RSl M 2 a (xs.map (PV.cut k)).length c (cellsP (xs.map (PV.cut k)))):PsM (M::Ns) f (cutR k l) (xs.map (PV.cut k)) a (xs.map (PV.cut k)).length c:=fun J hJ=>by
 have h3:=h J fun N hN=>hJ N (List.mem_cons_of_mem _ hN)
 have hkl: ∀y∈l,k≤y.1.length:=fun y hy=>(shar_take hy hy (Nat.le_of_eq hk.symm)).2
 exact⟨hr.le (hJ M (List.mem_cons_self ..)),h3.ps.take_cut hkl,h3.dis.cut (Nat.le_of_eq hk.symm),h3.fit.cut (Nat.le_of_eq hk.symm) h0,by rw [List.length_map,h3.xn.1];exact h3.small⟩
theorem und_one {c:UInt8} {l:List PR} : ∀q∈undR c l,1≤q.1.length:=fun q hq=>by
 obtain⟨_,r,e⟩:=mem_und.1 hq
 rw [e];simp
theorem PsM.und {Ns:List Heaplet} {f:Nat} {l:List PR} {xs ys:List PV} {ao a:Option Addr} {n cap c:Nat} {M:Heaplet} {b:UInt8} (h:PsM Ns (f+1) l xs ao n cap) (hy: ∀J:Heaplet,PsN J l xs→PsN J (undR b l) ys) (hn:ys.length≤n) (hr:RSl M 2 a (ys.map (PV.cut 1)).length c (cellsP (ys.map (PV.cut 1)))):PsM (M::Ns) f (cutR 1 (undR b l)) (ys.map (PV.cut 1)) a (ys.map (PV.cut 1)).length c:=fun J hJ=>by
 have h3:=h J fun N hN=>hJ N (List.mem_cons_of_mem _ hN)
 have h4:=hy J h3.ps
 exact⟨hr.le (hJ M (List.mem_cons_self ..)),h4.take_cut und_one,h3.dis.und b,h3.fit.und b,by have:=h3.small;rw [List.length_map];omega⟩
section
variable {Nt K : Heaplet} {bt c : Nat} {R0 : List PR} {ka : Option Addr} {kn kc : Nat} {k : List UInt8}
end
end Go.Proofs.YtdpjbefeabokgaaGreat
/- Layer 12: a trie behind calls, made twice. No condition. -/
namespace Go.Proofs.YtdpjbefeabokgaaGreat
open Go Go.RowKit
set_option maxRecDepth 100000
def MadeP (v:Value) (L:List Heaplet):Prop:= ∃P Q x y,v=.tuple #[.pointer (some ⟨x,0,none⟩),.pointer (some ⟨y,0,none⟩)]∧L= [P,Q]∧Side P Q x y 150
section
variable {N : Heaplet} {ao : Option Addr} {n cap : Nat} {xs : List OV}
end
end Go.Proofs.YtdpjbefeabokgaaGreat
/- Layer 12: nibbles out of bytes again, program and reference. Conditions: up to 2^40 bytes. -/
namespace Go.Proofs.YtdpjbefeabokgaaGreat
open Go Go.RowKit
set_option maxRecDepth 100000
theorem andN1: ∀n:Nat,n<256→bits .and .u8 (n:Int) 1=((n % 2:Nat):Int):=by decide+kernel
def ExpP (b:List UInt8) (v:Value) (L:List Heaplet):Prop:=
 (∃p leaf,expF b=some (p,leaf)∧ ∃M a c,v=.tuple #[.slice a p.length c,.bool leaf,.int .i64 0]∧L= [M]∧Row M 5 1 a p.length c (u8s p))∨(expF b=none∧v=.tuple #[.slice none 0 0,.bool false,.int .i64 2]∧L= [])
def ExpR (b:List UInt8) (v:Value) (L:List Heaplet):Prop:=
 (∃p leaf,expF b=some (p,leaf)∧ ∃M a c,v=.tuple #[.slice a p.length c,.bool leaf,.bool true]∧L= [M]∧RSl M 1 a p.length c (u8s p))∨(expF b=none∧v=.tuple #[.slice none 0 0,.bool false,.bool false]∧L= [])
theorem exp_cases (b:List UInt8) (x0 x1:Nat) (e0:((nibs b).getD 0 0).toNat=x0) (e1:((nibs b).getD 1 0).toNat=x1):
 (b.length=0∨3<x0∨(x0 % 2=0∧x1≠0)→expF b=none)∧(0<b.length→x0≤3→x0 % 2=1→ ∀w,(w=true↔1<x0)→expF b=some ((nibs b).drop 1,w))∧(0<b.length→x0≤3→x0 % 2=0→x1=0→ ∀w,(w=true↔1<x0)→expF b=some ((nibs b).drop 2,w)):=by
 subst e0 e1
 have hw: ∀(w:Bool) (p:Prop) [Decidable p],(w=true↔p)→decide p=w:=fun w p _ h=>by
  cases w<;>simp_all
 refine⟨fun h=>if_pos ?_,fun h0 h1 h2 w h3=>?_,fun h0 h1 h2 h3 w h4=>?_⟩
 ·rcases h with h|h
  ·exact .inl (List.eq_nil_of_length_eq_zero h)
  ·exact .inr h
 ·rw [expF,if_neg,if_pos h2,hw w _ h3]
  rintro(e|e|e)
  ·rw [e]at h0;exact absurd h0 (by decide)
  ·omega
  ·omega
 ·rw [expF,if_neg,if_neg (by omega),hw w _ h4]
  rintro(e|e|e)
  ·rw [e]at h0;exact absurd h0 (by decide)
  ·omega
  ·omega
section
variable {N : Heaplet} {ao : Option Addr} {n cap : Nat} {l : List UInt8}
theorem FExpand (h:RSl N 1 ao n cap (u8s l)) (hn:n≤1000000000):Fn Tryz.prog 98 #[.slice ao n cap] [] [N] (ExpP l):=by
 have hlen:=h.len8
 have hnl:=nibs_length l
 obtain⟨x0,e0⟩: ∃x,((nibs l).getD 0 0).toNat=x:=⟨_,rfl⟩
 obtain⟨x1,e1⟩: ∃x,((nibs l).getD 1 0).toNat=x:=⟨_,rfl⟩
 obtain⟨hbad,hodd,heven⟩:=exp_cases l x0 x1 e0 e1
 have hx0:x0<256:=by rw [←e0];exact UInt8.toNat_lt _
 have hand:=andN1 x0 hx0
 rw [←e0]at hand
 refine Fn.enter (vs:= [.slice ao n cap]) Tryz.func98 rfl rfl rfl ?_
 intro E R hR
 have h:=h.le (hR N (by simp))
 change At _ _ E [R] _
 refine At.seq fun _ s_1=>At.region (aE (aD rfl) rfl rfl (aE (aD rfl) rfl rfl (aE (aD rfl) rfl rfl (aA (aB (s_1 (At.seq fun _ s_2=>At.region (aC (aD rfl) rfl rfl (aJ (bA rfl) (.cons rfl .nil) (FNibs h (by omega)) Tryz.func41 rfl rfl (by simp) rfl ?_)))))))))
 rintro v7 L7 ⟨N7,a7,c7,rfl,rfl,r7⟩
 change At _ _ _ [N7,R] _
 have s7:=r7.rsl;have hc7:=s7.2.1
 refine aE (aD rfl) rfl rfl (aA (aB (s_2 (At.seq fun _ s_3=>At.block (At.seq fun _ s_4=>At.region (aC (aD rfl) rfl rfl (aU (aD rfl) se23 rfl rfl (op_eql (aD rfl) rfl rfl rfl (aC (aD rfl) rfl rfl (At.partP (d:=12) rfl (fun g12=>?_) (fun g12=>?_)))))))))))
 ·refine aH rfl rfl rfl rfl rfl rfl rfl (aH rfl rfl rfl rfl rfl rfl rfl (aH rfl rfl rfl rfl rfl rfl rfl (aH rfl rfl rfl rfl rfl rfl rfl (bS (aD rfl) rfl rfl rfl (aC (aD rfl) rfl rfl (aH rfl rfl rfl rfl rfl rfl rfl (aH rfl rfl rfl rfl rfl rfl rfl (aH rfl rfl rfl rfl rfl rfl rfl (aH rfl rfl rfl rfl rfl rfl rfl (aH rfl rfl rfl rfl rfl rfl rfl (aH rfl rfl rfl rfl rfl rfl rfl (op_skipU rfl rfl rfl rfl rfl rfl (op_skipU rfl rfl rfl rfl rfl rfl (op_skipU rfl rfl rfl rfl rfl rfl (op_skipU rfl rfl rfl rfl rfl rfl (aH rfl rfl rfl rfl rfl rfl rfl (bS (aD rfl) rfl rfl rfl (aE (aD rfl) rfl rfl (aA (aB (s_4 ?_)))))))))))))))))))))
  refine At.condT rfl (At.seq fun _ s_5=>At.region (aE (aD rfl) rfl rfl (aE (aD rfl) rfl rfl (aE (aD rfl) rfl rfl (aA (aB (s_5 (At.ret (At.inRet (aM ((At.sub (L':= [R]) (.cons _ (.cons_cons _ (.slnil))) (bP (L1:= []) rfl (.tmp rfl (.tmp rfl (.tmp rfl .nil))) rfl (.refl _) (.refl _) ?_)))))))))))))
  exact .inr ⟨hbad (by omega),rfl,rfl⟩
 refine aC (aY rfl rfl rfl rfl) rfl rfl (bI (aY rfl rfl rfl rfl) se23 rfl rfl (by assumption) (show _=((0:Nat):Int)from rfl) (by omega) rfl ?_)
 refine aT (aY rfl rfl rfl rfl) sc5 rfl s7 (by first|exact get8 (by omega)|exact bT (by omega)|exact bU (by omega)) (by first|exact aL|exact aZ|exact bB|exact bF|exact bG|exact bH|exact bL|exact bK|exact bJ|exact bM) rfl ?_
 refine op_gtr (aY rfl rfl rfl rfl) rfl rfl rfl (bR (aD rfl) rfl rfl rfl (aC (aD rfl) rfl rfl (At.partP (d:=18) rfl (fun g18=>?_) (fun g18=>?_))))
 ·refine aH rfl rfl rfl rfl rfl rfl rfl (aH rfl rfl rfl rfl rfl rfl rfl (aH rfl rfl rfl rfl rfl rfl rfl (aH rfl rfl rfl rfl rfl rfl rfl (aH rfl rfl rfl rfl rfl rfl rfl (aH rfl rfl rfl rfl rfl rfl rfl (op_skipU rfl rfl rfl rfl rfl rfl (op_skipU rfl rfl rfl rfl rfl rfl (op_skipU rfl rfl rfl rfl rfl rfl (op_skipU rfl rfl rfl rfl rfl rfl (aH rfl rfl rfl rfl rfl rfl rfl (bS (aD rfl) rfl rfl rfl (aE (aD rfl) rfl rfl (aA (aB (s_4 (At.condT rfl (At.seq fun _ s_6=>At.region (aE (aD rfl) rfl rfl (aE (aD rfl) rfl rfl (aE (aD rfl) rfl rfl ?_))))))))))))))))))))
  refine aA (aB (s_6 (At.ret (At.inRet (aM ((At.sub (L':= [R]) (.cons _ (.cons_cons _ (.slnil))) (bP (L1:= []) rfl (.tmp rfl (.tmp rfl (.tmp rfl .nil))) rfl (.refl _) (.refl _) ?_))))))))
  exact .inr ⟨hbad (by omega),rfl,rfl⟩
 refine aC (aY rfl rfl rfl rfl) rfl rfl (bI (aY rfl rfl rfl rfl) se23 rfl rfl (by assumption) (show _=((0:Nat):Int)from rfl) (by omega) rfl ?_)
 refine aT (aY rfl rfl rfl rfl) sc5 rfl s7 (by first|exact get8 (by omega)|exact bT (by omega)|exact bU (by omega)) (by first|exact aL|exact aZ|exact bB|exact bF|exact bG|exact bH|exact bL|exact bK|exact bJ|exact bM) rfl ?_
 refine op_bits (by simp) (aY rfl rfl rfl rfl) rfl rfl rfl (op_eql (aY rfl rfl rfl rfl) rfl rfl rfl (aC (aY rfl rfl rfl rfl) rfl rfl (At.partP (d:=24) rfl (fun g24=>?_) (fun g24=>?_))))
 ·refine aC (aY rfl rfl rfl rfl) rfl rfl (bI (aY rfl rfl rfl rfl) se23 rfl rfl (by assumption) (show _=((1:Nat):Int)from rfl) (by omega) rfl ?_)
  refine aT (aY rfl rfl rfl rfl) sc5 rfl s7 (by first|exact get8 (by omega)|exact bT (by omega)|exact bU (by omega)) (by first|exact aL|exact aZ|exact bB|exact bF|exact bG|exact bH|exact bL|exact bK|exact bJ|exact bM) rfl ?_
  refine op_neq (aY rfl rfl rfl rfl) rfl rfl rfl (bS (aY rfl rfl rfl rfl) rfl rfl rfl (bR (aD rfl) rfl rfl rfl (aE (aD rfl) rfl rfl (aA (aB (s_4 (aK rfl (fun c8=>?_) (fun c8=>?_))))))))
  ·refine At.seq fun _ s_7=>At.region (aE (aD rfl) rfl rfl (aE (aD rfl) rfl rfl (aE (aD rfl) rfl rfl (aA (aB (s_7 (At.ret (At.inRet (aM ((At.sub (L':= [R]) (.cons _ (.cons_cons _ (.slnil))) (bP (L1:= []) rfl (.tmp rfl (.tmp rfl (.tmp rfl .nil))) rfl (.refl _) (.refl _) ?_))))))))))))
   exact .inr ⟨hbad (by omega),rfl,rfl⟩
  refine At.seq fun _ s_8=>At.region (aC (aD rfl) rfl rfl (bI (aD rfl) se23 rfl rfl (by assumption) (show _=((0:Nat):Int)from rfl) (by omega) rfl ?_))
  refine aT (aD rfl) sc5 rfl s7 (by first|exact get8 (by omega)|exact bT (by omega)|exact bU (by omega)) (by first|exact aL|exact aZ|exact bB|exact bF|exact bG|exact bH|exact bL|exact bK|exact bJ|exact bM) rfl ?_
  refine op_bits (by simp) (aD rfl) rfl rfl rfl (op_eql (aD rfl) rfl rfl rfl (aE (aD rfl) rfl rfl (aA (aB (s_8 (aK rfl (fun c31=>?_) (fun c31=>?_)))))))
  ·exfalso;omega
  refine At.skip (aR (aB (s_3 (At.seq fun _ s_9=>At.drawnS [N7,R] [] [3] [0,1,3,4,5,6,2,7,8,9] (by kernel_rfl) (by kernel_rfl) (.refl _) (aC (aX rfl rfl rfl) rfl rfl (op_slice (aX rfl rfl rfl) se23 rfl (.some rfl (show _=((2:Nat):Int)from rfl)) .none .none (by omega) (by omega) (by omega) (by simp) rfl (aC (aX rfl rfl rfl) rfl rfl (bI (aX rfl rfl rfl) se23 rfl rfl (by assumption) (show _=((0:Nat):Int)from rfl) (by omega) rfl ?_))))))))
  refine aT (aX rfl rfl rfl) sc5 rfl s7 (by first|exact get8 (by omega)|exact bT (by omega)|exact bU (by omega)) (by first|exact aL|exact aZ|exact bB|exact bF|exact bG|exact bH|exact bL|exact bK|exact bJ|exact bM) rfl ?_
  refine op_gtr (aX rfl rfl rfl) rfl rfl rfl (aJ (Nx.agree (nxsm rfl rfl rfl)) (.cons rfl .nil) (FClone (s7.drop8 (lo:=2) (by omega)) (by omega)) Tryz.func51 rfl rfl (by simp) rfl ?_)
  rintro v46 L46 ⟨N46,a46,c46,rfl,rfl,r46⟩
  change At _ _ _ [N46,N7,R] _
  refine At.moreS (Lst:= [N7,R]) (Lst':= [N46,N7,R]) (.cons _ (.refl _)) (.refl _) (aE (aX rfl rfl rfl) rfl rfl (aE (aX rfl rfl rfl) rfl rfl (aE (aX rfl rfl rfl) rfl rfl (At.sNil (aB (s_9 (At.ret ((At.sub (L':= [N46,R]) (.cons_cons _ (.cons _ (.cons_cons _ (.slnil)))) (bP (L1:= [N46]) rfl (.tmp rfl (.tmp rfl (.tmp rfl .nil))) rfl (.refl _) (.refl _) ?_))))))))))
  refine .inl ⟨_,_,heven (by omega) (by omega) (by omega) (by omega) (decide ((((nibs l).getD 0 0).toNat:Int)>1)) (by rw [decide_eq_true_iff];omega),N46,a46,c46,?_,rfl,?_⟩
  ·rw [List.length_drop,hnl,hlen]
  ·rw [List.length_drop,hnl,hlen];exact r46
 refine aH rfl rfl rfl rfl rfl rfl rfl (aH rfl rfl rfl rfl rfl rfl rfl (aH rfl rfl rfl rfl rfl rfl rfl (aH rfl rfl rfl rfl rfl rfl rfl (bR (aY rfl rfl rfl rfl) rfl rfl rfl (bR (aD rfl) rfl rfl rfl (aE (aD rfl) rfl rfl (aA (aB (s_4 (At.condF rfl (At.seq fun _ s_10=>At.region (aC (aD rfl) rfl rfl (bI (aD rfl) se23 rfl rfl (by assumption) (show _=((0:Nat):Int)from rfl) (by omega) rfl ?_)))))))))))))
 refine aT (aD rfl) sc5 rfl s7 (by first|exact get8 (by omega)|exact bT (by omega)|exact bU (by omega)) (by first|exact aL|exact aZ|exact bB|exact bF|exact bG|exact bH|exact bL|exact bK|exact bJ|exact bM) rfl ?_
 refine op_bits (by simp) (aD rfl) rfl rfl rfl (op_eql (aD rfl) rfl rfl rfl (aE (aD rfl) rfl rfl (aA (aB (s_10 (aK rfl (fun c31=>?_) (fun c31=>?_)))))))
 rotate_left
 ·exfalso;omega
 refine At.seq fun _ s_11=>At.drawnS [N7,R] [] [3] [0,1,3,4,5,6,2,7,8,9] (by kernel_rfl) (by kernel_rfl) (.refl _) (aC (aX rfl rfl rfl) rfl rfl (op_slice (aX rfl rfl rfl) se23 rfl (.some rfl (show _=((1:Nat):Int)from rfl)) .none .none (by omega) (by omega) (by omega) (by simp) rfl (aC (aX rfl rfl rfl) rfl rfl (bI (aX rfl rfl rfl) se23 rfl rfl (by assumption) (show _=((0:Nat):Int)from rfl) (by omega) rfl ?_))))
 refine aT (aX rfl rfl rfl) sc5 rfl s7 (by first|exact get8 (by omega)|exact bT (by omega)|exact bU (by omega)) (by first|exact aL|exact aZ|exact bB|exact bF|exact bG|exact bH|exact bL|exact bK|exact bJ|exact bM) rfl ?_
 refine op_gtr (aX rfl rfl rfl) rfl rfl rfl (aJ (Nx.agree (nxsm rfl rfl rfl)) (.cons rfl .nil) (FClone (s7.drop8 (lo:=1) (by omega)) (by omega)) Tryz.func51 rfl rfl (by simp) rfl ?_)
 rintro v39 L39 ⟨N39,a39,c39,rfl,rfl,r39⟩
 change At _ _ _ [N39,N7,R] _
 refine At.moreS (Lst:= [N7,R]) (Lst':= [N39,N7,R]) (.cons _ (.refl _)) (.refl _) (aE (aX rfl rfl rfl) rfl rfl (aE (aX rfl rfl rfl) rfl rfl (aE (aX rfl rfl rfl) rfl rfl (At.sNil (aB (s_11 (At.ret (At.inRet (aM ((At.sub (L':= [N39,R]) (.cons_cons _ (.cons _ (.cons_cons _ (.slnil)))) (bP (L1:= [N39]) rfl (.tmp rfl (.tmp rfl (.tmp rfl .nil))) rfl (.refl _) (.refl _) ?_))))))))))))
 refine .inl ⟨_,_,hodd (by omega) (by omega) (by omega) (decide ((((nibs l).getD 0 0).toNat:Int)>1)) (by rw [decide_eq_true_iff];omega),N39,a39,c39,?_,rfl,?_⟩
 ·rw [List.length_drop,hnl,hlen]
 ·rw [List.length_drop,hnl,hlen];exact r39
end
end Go.Proofs.YtdpjbefeabokgaaGreat
/- Layer 12: may a part be a link. No condition but that bytes are not longer than a machine holds. -/
namespace Go.Proofs.YtdpjbefeabokgaaGreat
open Go Go.RowKit
set_option maxRecDepth 100000
theorem it_open {N:Heaplet} {t:It} {x:IV} (h:ItN N t x):x.l=isL t∧RSl N 1 x.ab x.nb x.cb (u8s t.bytes)∧ ∃xs,RSl N 3 x.ai x.ni x.ci (cellsI xs)∧ItsN N t.items xs:=by
 cases t with
 |mk l bs its=>
  simp only [ItN]at h
  exact h
def innerX (x:IV):Bool:=x.l ||x.nb==0 ||x.nb==32
theorem inner_x {N:Heaplet} {t:It} {x:IV} (h:ItN N t x):innerX x=innerI t:=by
 obtain⟨h1,h2,_⟩:=it_open h
 have:=h2.len8
 unfold innerX innerI
 rw [h1, ←this]
theorem FInner (x:IV):Fn Tryz.prog 99 #[.agg #[.bool x.l,.slice x.ab x.nb x.cb,.slice x.ai x.ni x.ci]] [] [] (fun v L=>v=.bool (innerX x)∧L= []):=by
 obtain⟨l,ab,nb,cb,ai,ni,ci⟩:=x
 refine Fn.enter (vs:= [.agg #[.bool l,.slice ab nb cb,.slice ai ni ci]]) Tryz.func99 rfl rfl rfl ?_
 intro E R hR
 change At _ _ E [R] _
 refine At.seq fun _ s_1=>At.region (op_box (bA rfl) rfl rfl rfl (fun N1 b1 B1=>aE (aD rfl) rfl rfl (aA (aB (s_1 (At.seq fun _ s_2=>At.region (aF (aD rfl) fl68_0 rfl rfl (aI (aD rfl) sc4 rfl B1 (by first|rfl) aL rfl ?_))))))))
 refine aC (aD rfl) rfl rfl (At.part (d:=5) rfl (fun g5=>?_) (fun g5=>?_))
 ·refine aH rfl rfl rfl rfl rfl rfl rfl (aH rfl rfl rfl rfl rfl rfl rfl (aH rfl rfl rfl rfl rfl rfl rfl (aH rfl rfl rfl rfl rfl rfl rfl (bS (aD rfl) rfl rfl rfl (aC (aD rfl) rfl rfl (aH rfl rfl rfl rfl rfl rfl rfl (aH rfl rfl rfl rfl rfl rfl rfl (aH rfl rfl rfl rfl rfl rfl rfl (aH rfl rfl rfl rfl rfl rfl rfl (bS (aD rfl) rfl rfl rfl (aE (aD rfl) rfl rfl (aA (aB (s_2 (At.ret ((At.sub (L':= [R]) (.cons _ (.cons_cons _ (.slnil))) (aW (L1:= []) rfl (.tmp rfl .nil) (.refl _) (.refl _) ?_))))))))))))))))))
  exact⟨by simp [innerX,g5],rfl⟩
 refine aF (aY rfl rfl rfl rfl) fl68_1 rfl rfl (aI (aY rfl rfl rfl rfl) sc23 rfl B1 (by first|rfl) aL rfl ?_)
 refine aU (aY rfl rfl rfl rfl) se23 rfl rfl (op_eql (aY rfl rfl rfl rfl) rfl rfl rfl (bR (aD rfl) rfl rfl rfl (aC (aD rfl) rfl rfl (At.partP (d:=11) rfl (fun g11=>?_) (fun g11=>?_)))))
 ·refine aH rfl rfl rfl rfl rfl rfl rfl (aH rfl rfl rfl rfl rfl rfl rfl (aH rfl rfl rfl rfl rfl rfl rfl (aH rfl rfl rfl rfl rfl rfl rfl (bS (aD rfl) rfl rfl rfl (aE (aD rfl) rfl rfl (aA (aB (s_2 (At.ret ((At.sub (L':= [R]) (.cons _ (.cons_cons _ (.slnil))) (aW (L1:= []) rfl (.tmp rfl .nil) (.refl _) (.refl _) ?_))))))))))))
  have e:nb=0:=by omega
  exact⟨by simp [innerX,e],rfl⟩
 refine aF (aY rfl rfl rfl rfl) fl68_1 rfl rfl (aI (aY rfl rfl rfl rfl) sc23 rfl B1 (by first|rfl) aL rfl ?_)
 refine aU (aY rfl rfl rfl rfl) se23 rfl rfl (op_eql (aY rfl rfl rfl rfl) rfl rfl rfl (bR (aD rfl) rfl rfl rfl (aE (aD rfl) rfl rfl (aA (aB (s_2 (At.ret ((At.sub (L':= [R]) (.cons _ (.cons_cons _ (.slnil))) (aW (L1:= []) rfl (.tmp rfl .nil) (.refl _) (.refl _) (⟨?_,rfl⟩)))))))))))
 congr 1
 rw [Bool.eq_iff_iff]
 simp only [innerX,g5,Bool.false_or,Bool.or_eq_true,decide_eq_true_eq,beq_iff_eq]
 omega
theorem FBr1 (x:IV):Fn Tryz.prog 112 #[.agg #[.bool x.l,.slice x.ab x.nb x.cb,.slice x.ai x.ni x.ci]] [] [] (fun v L=>v=.bool (!innerX x)∧L= []):=by
 refine Fn.enter (vs:= [.agg #[.bool x.l,.slice x.ab x.nb x.cb,.slice x.ai x.ni x.ci]]) Tryz.func112 rfl rfl rfl ?_
 intro E R hR
 change At _ _ E [R] _
 refine At.seq fun _ s_1=>At.region (op_box (bA rfl) rfl rfl rfl (fun N1 b1 B1=>aE (aD rfl) rfl rfl (aA (aB (s_1 (At.seq fun _ s_2=>At.region (op_loadAggB (ds:= [_,_,_]) (aD rfl) ag68 rfl B1 rfl rfl aL rfl (aJ (bA rfl) (.cons rfl .nil) (FInner x) Tryz.func99 rfl rfl (by simp) rfl ?_))))))))
 rintro v4 L4 ⟨rfl,rfl⟩
 change At _ _ _ [N1,R] _
 refine op_not (aD rfl) rfl rfl (aE (aD rfl) rfl rfl (aA (aB (s_2 (At.ret ((At.sub (L':= [R]) (.cons _ (.cons_cons _ (.slnil))) (aW (L1:= []) rfl (.tmp rfl .nil) (.refl _) (.refl _) ?_))))))))
 exact⟨rfl,rfl⟩
def AllIn (xs:List IV):Prop:= ∀x∈xs,innerX x=true
section
variable {N : Heaplet} {ao : Option Addr} {n cap : Nat} {xs : List IV}
theorem FIdxI (h:RSl N 3 ao n cap (cellsI xs)):Fn Tryz.prog 131 #[.slice ao n cap,.func (.func 112) #[] #[]] [] [N] (fun v L=> ∃z:Int,v=.int .i64 z∧L= []∧((AllIn xs∧z= -1)∨(¬AllIn xs∧0≤z))):=by
 have hn:xs.length=n:=by have:=h.1;rw [length_cellsI]at this;omega
 have hcap:=h.cap63
 refine Fn.enter (vs:= [.slice ao n cap,.func (.func 112) #[] #[]]) Tryz.func131 rfl rfl rfl ?_
 intro E R hR
 have h:=h.le (hR N (by simp))
 change At _ _ E [R] _
 refine At.seq fun _ s_1=>At.region (aE (aD rfl) rfl rfl (aA (aB (s_1 (At.seq fun _ s_2=>At.seq fun _ s_3=>At.region (aC (aD rfl) rfl rfl (aU (aD rfl) se66 rfl rfl (aC (aD rfl) rfl rfl (aA (aB (s_3 (At.block (At.loop (fun fr_ hp_ ms_=> ∃(i:Nat),fr_= [(0,.slice ao n cap),(1,.func (.func 112) #[] #[]),(7,.int .i64 (n:Int)),(8,.int .i64 (i:Int))]∧hp_= [R]∧n- i=ms_∧(i≤n)∧(AllIn (xs.take i))) ?_ (.refl _) ⟨0,rfl,rfl,rfl,Nat.zero_le _,fun x hx=>by simp at hx⟩ ?_)))))))))))))
 ·exact .cons (by first|exact aP rfl (by omega)|rfl) (.cons (by first|exact aP rfl (by omega)|rfl) (.cons (by first|exact aP rfl (by omega)|rfl) (.cons (by first|exact aP rfl (by omega)|rfl) .nil)))
 rintro _ _ _ ⟨i,rfl,rfl,rfl,hi,hno⟩
 refine At.seq fun _ s_4=>At.region (op_lss (aD rfl) rfl rfl rfl (aA (aB (s_4 (At.seq fun _ s_5=>aK rfl (fun c9=>?_) (fun c9=>?_))))))
 ·obtain⟨x,hgx⟩: ∃x,xs[i]? =some x:=⟨_,List.getElem?_eq_getElem (by omega)⟩
  refine At.skip (aB (s_5 (At.seq fun _ s_6=>At.block (At.seq fun _ s_7=>At.region (aC (aD rfl) rfl rfl (aE (aD rfl) rfl rfl (aA (aB (s_7 (At.seq fun _ s_8=>At.region (aC (aD rfl) rfl rfl (aC (aD rfl) rfl rfl (aC (aD rfl) rfl rfl (op_idxE (aD rfl) se66 rfl rfl h (show _=(((i:Nat)):Int)from by omega) (by omega) rfl ?_))))))))))))))
  refine op_loadAggE (ds:= [.bool x.l,.slice x.ab x.nb x.cb,.slice x.ai x.ni x.ci]) (aD rfl) ag68 rfl h (by exact cells_at hgx) (by rfl) (by omega) (by first|exact aL|exact aZ|exact bB|exact bF|exact bG|exact bH|exact bL|exact bK|exact bJ|exact bM) rfl ?_
  refine op_callV (nxl rfl) rfl (.cons rfl .nil) (FBr1 x) (F:= [R]) Tryz.func112 rfl rfl (.refl _) (by simp) rfl ?_
  rintro v16 L16 ⟨rfl,rfl⟩
  change At _ _ _ [R] _
  refine aA (aB (s_8 (At.condB rfl (fun c16=>?_) (fun c16=>?_))))
  ·refine At.seq fun _ s_9=>At.region (aC (aD rfl) rfl rfl (aE (aD rfl) rfl rfl (aA (aB (s_9 (At.ret (At.inRet (aM (aM (At.inRet (aM ((aW (L1:= []) rfl (.tmp rfl .nil) (.refl _) (.refl _) ?_)))))))))))))
   exact⟨_,rfl,rfl,.inr ⟨fun k=>by have:=k _ (List.mem_of_getElem? hgx);simp [this]at c16,by omega⟩⟩
  refine At.skip (aR (aB (s_6 (At.region (aV (aD rfl) rfl rfl (by omega) (by omega) rfl (aC (aD rfl) rfl rfl (aA (aB ?_))))))))
  refine bD ?_ (.refl _) ⟨i+1,rfl,rfl,rfl,by omega,fun y hy=>by rw [take_next1 hgx]at hy;rcases List.mem_append.1 hy with hy|hy;exact hno y hy;rw [List.mem_singleton.1 hy];simpa using c16⟩ ?_
  ·exact .cons (by first|exact aP rfl (by omega)|rfl) (.cons (by first|exact aP rfl (by omega)|rfl) (.cons (by first|exact aP rfl (by omega)|rfl) (.cons (by first|exact aP rfl (by omega)|rfl) .nil)))
  ·omega
 refine At.exit (aG (aG (bC (aB (s_2 (At.seq fun _ s_10=>At.region (aE (aD rfl) rfl rfl (aA (aB (s_10 (At.ret ((aW (L1:= []) rfl (.tmp rfl .nil) (.refl _) (.refl _) ?_)))))))))))))
 exact⟨_,rfl,rfl,.inl ⟨by rw [List.take_of_length_le (by omega)]at hno;exact hno,rfl⟩⟩
theorem FHasOut (h:RSl N 3 ao n cap (cellsI xs)):Fn Tryz.prog 111 #[.slice ao n cap,.func (.func 112) #[] #[]] [] [N] (fun v L=> ∃b:Bool,v=.bool b∧L= []∧((AllIn xs∧b=false)∨(¬AllIn xs∧b=true))):=by
 refine Fn.enter (vs:= [.slice ao n cap,.func (.func 112) #[] #[]]) Tryz.func111 rfl rfl rfl ?_
 intro E R hR
 have h:=h.le (hR N (by simp))
 change At _ _ E [R] _
 refine At.seq fun _ s_1=>At.region (aE (aD rfl) rfl rfl (aA (aB (s_1 (At.seq fun _ s_2=>At.region (aC (aD rfl) rfl rfl (aC (aD rfl) rfl rfl (aJ (bA rfl) (.cons rfl (.cons rfl .nil)) (FIdxI h) Tryz.func131 rfl rfl (by simp) rfl ?_))))))))
 rintro v7 L7 ⟨z,rfl,rfl,hz⟩
 change At _ _ _ [R] _
 refine op_geq (aD rfl) rfl rfl rfl (aE (aD rfl) rfl rfl (aA (aB (s_2 (At.ret ((aW (L1:= []) rfl (.tmp rfl .nil) (.refl _) (.refl _) (⟨_,rfl,rfl,?_⟩))))))))
 rcases hz with ⟨h1,h2⟩|⟨h1,h2⟩
 ·exact .inl ⟨h1,decide_eq_false (by omega)⟩
 ·exact .inr ⟨h1,decide_eq_true (by omega)⟩
end
end Go.Proofs.YtdpjbefeabokgaaGreat
/- Layer 12: the next form of a proof is read. No condition but that bytes are not longer than a machine holds. -/
namespace Go.Proofs.YtdpjbefeabokgaaGreat
open Go Go.RowKit
set_option maxRecDepth 100000
/-- What is left of a proof (read in Jp), and of a row (read in Jr), at block bw. -/
def WayS (Nw Jp Jr:Heaplet) (bw:Nat) (q:List (List UInt8)) (row:List UInt8):Prop:= ∃pa pc ra rc us,Blk Nw bw 95 [.slice pa q.length pc,.slice ra row.length rc]∧RSl Jp 1 pa q.length pc us∧Bags Jp us q∧RSl Jr 1 ra row.length rc (u8s row)
def itV (x:IV):Value:=.agg #[.bool x.l,.slice x.ab x.nb x.cb,.slice x.ai x.ni x.ci]
theorem next_ok {h b:List UInt8} {q:List (List UInt8)} {x:It} (hd:decodeF b=.ok x) (hk:kec b=h):nextF h (b::q)=some (x,q):=by rw [nextF,hd];exact if_pos hk
theorem next_ne {h b:List UInt8} {q:List (List UInt8)} (hk:kec b≠h):nextF h (b::q)=none:=by
 rw [nextF]
 split
 ·exact if_neg hk
 ·rfl
theorem next_err {h b:List UInt8} {q:List (List UInt8)} {e:Nat} (hd:decodeF b=.error e):nextF h (b::q)=none:=by rw [nextF,hd]
theorem bags_tail {N:Heaplet} {u:Value} {us:List Value} {b:List UInt8} {q:List (List UInt8)} (h:Bags N (u::us) (b::q)):Bags N us q:=
 ⟨by simpa using h.len,fun i x hx=>by
  obtain⟨p,c,h1,h2⟩:=h.rsl (i+1) x (by simpa using hx)
  exact⟨p,c,by simpa using h1,h2⟩⟩
theorem way_tail {Nw Jp Jr:Heaplet} {bw:Nat} {pa ra:Option Addr} {pc rc:Nat} {us:List Value} {u0:Value} {b:List UInt8} {row:List UInt8} {q':List (List UInt8)} (Bw:Blk Nw bw 95 [.slice (sadr pa 1 pc 1) ((b::q').length- 1) (pc- 1),.slice ra row.length rc]) (hp:RSl Jp 1 pa (b::q').length pc us) (hB:Bags Jp us (b::q')) (hr:RSl Jr 1 ra row.length rc (u8s row)) (hu:us[0]? =some u0):WayS Nw Jp Jr bw q' row:=by
 obtain⟨u,r,rfl⟩: ∃u r,us=u::r:=by
  cases us with
  |nil=>simp at hu
  |cons u r=>exact⟨u,r,rfl⟩
 exact⟨sadr pa 1 pc 1,pc- 1,ra,rc,r,Bw,hp.drop (lo:=1) (by simp),bags_tail hB,hr⟩
def NextP (Jp Jr:Heaplet) (bw:Nat) (h:List UInt8) (q:List (List UInt8)) (row:List UInt8) (v:Value) (L:List Heaplet):Prop:=
 (∃x q' Nw M, ∃xv:IV,nextF h q=some (x,q')∧v=.tuple #[.agg #[.bool xv.l,.slice xv.ab xv.nb xv.cb,.slice xv.ai xv.ni xv.ci],.bool true]∧L= [Nw,M]∧WayS Nw Jp Jr bw q' row∧ItN M x xv)∨
 (∃Nw M q', ∃xv:IV,nextF h q=none∧v=.tuple #[.agg #[.bool xv.l,.slice xv.ab xv.nb xv.cb,.slice xv.ai xv.ni xv.ci],.bool false]∧L= [Nw,M]∧WayS Nw Jp Jr bw q' row)
section
variable {Nw Jp Jr H : Heaplet} {bw : Nat} {ha : Option Addr} {hn hc : Nat} {h row : List UInt8}
set_option maxHeartbeats 1000000 in
theorem FNext {q:List (List UInt8)} (hw:WayS Nw Jp Jr bw q row) (hh:RSl H 1 ha hn hc (u8s h)) (hq: ∀b∈q,b.length≤1099511627776):Fn Tryz.prog 74 #[.pointer (some ⟨bw,0,none⟩),.slice ha hn hc] [Nw] [Jp,H] (NextP Jp Jr bw h q row):=by
 obtain⟨pa,pc,ra,rc,us,Bw,hp,hB,hr⟩:=hw
 have hpc:=hp.cap63
 refine Fn.enter (vs:= [.pointer (some ⟨bw,0,none⟩),.slice ha hn hc]) Tryz.func74 rfl rfl rfl ?_
 intro E R hR
 have hle:=hR Jp (by simp)
 have hpR:=hp.le hle
 have hBR:=hB.le hle
 have hh:=hh.le (hR H (by simp))
 change At _ _ E [Nw,R] _
 refine At.seq fun _ s_1=>At.region (bO (bA rfl) ze68 rfl (fun N4 b4 B4=>?_))
 change Blk N4 b4 _ [.bool false,.slice none 0 0,.slice none 0 0]at B4
 refine aE (aD rfl) rfl rfl (aA (aB (s_1 (At.seq fun _ s_2=>At.seq fun _ s_3=>At.region (aC (aD rfl) rfl rfl (aQ (aD rfl) rfl rfl (aF (aD rfl) fl95_0 rfl rfl (aI (aD rfl) sc22 rfl Bw (by first|rfl) aZ rfl ?_))))))))
 refine aU (aD rfl) se22 rfl rfl (op_eql (aD rfl) rfl rfl rfl (aA (aB (s_3 (aK rfl (fun c15=>?_) (fun c15=>?_))))))
 ·refine At.seq fun _ s_4=>At.region (op_build (out:= [.bool false,.slice none 0 0,.slice none 0 0]) (aD rfl) ze68 pl68 .nil rfl rfl (aO (nxl rfl) sz68 rfl rfl rfl rfl rfl B4 (by simp) sel0 (fun N4 B4=>?_)))
  simp only [setL,List.set]at B4
  refine aE (aD rfl) rfl rfl (aA (aB (s_4 (At.ret (aM ((At.empty (At.perm sel3 (At.perm sel1 (At.perm sel3 (At.perm sel3 (bP (L1:= [Nw,nilH]) rfl (.cell rfl (res_agg (ds:= [_,_,_]) ag68 B4 rfl rfl aL) (.tmp rfl .nil)) rfl (.cons _ (.refl _)) (.refl _) ?_))))))))))))
  have e:q= []:=List.eq_nil_of_length_eq_zero (by omega)
  exact .inr ⟨Nw,nilH,q,⟨false,none,0,0,none,0,0⟩,by rw [e];rfl,rfl,rfl,pa,pc,ra,rc,us,Bw,hp,hB,hr⟩
 obtain⟨b,q',rfl⟩: ∃b q',q=b::q':=by
  cases q with
  |nil=>simp at c15
  |cons b q'=>exact⟨b,q',rfl⟩
 obtain⟨ba,bc,hu0,hb⟩:=hBR.rsl 0 b rfl
 have hbl:=hq b (List.mem_cons_self ..)
 obtain⟨z,hz⟩: ∃z,kec b=z:=⟨_,rfl⟩
 have hzl:z.length=32:=by rw [←hz,kec_len]
 have hzu:(u8s z).length=32:=by rw [u8s,List.length_map,hzl]
 refine At.skip (aB (s_2 (At.seq fun _ s_5=>At.region (aC (aD rfl) rfl rfl (aQ (aD rfl) rfl rfl (aF (aD rfl) fl95_0 rfl rfl (aI (aD rfl) sc22 rfl Bw (by first|rfl) aZ rfl ?_)))))))
 refine bI (aD rfl) se22 rfl rfl hpR (show _=(((0:Nat)):Int)from by omega) (by omega) rfl ?_
 refine aT (aD rfl) sc23 rfl hpR (by first|exact get8 (by omega)|exact bT (by omega)|exact bU (by omega)|exact hu0) (by first|exact aL|exact aZ|exact bB|exact bF|exact bG|exact bH|exact bL|exact bK|exact bJ|exact bM) rfl ?_
 refine aE (aD rfl) rfl rfl (aA (aB (s_5 (At.seq fun _ s_6=>At.region (aC (aD rfl) rfl rfl (aC (aD rfl) rfl rfl (aQ (aD rfl) rfl rfl (aF (aD rfl) fl95_0 rfl rfl (aI (aD rfl) sc22 rfl Bw (by first|rfl) aZ rfl ?_)))))))))
 refine op_slice (aD rfl) se22 rfl (.some rfl (show _=(((1:Nat)):Int)from by omega)) .none .none (by omega) (by omega) (by omega) (by simp) rfl ?_
 refine aQ (aD rfl) rfl rfl (aF (aD rfl) fl95_0 rfl rfl (aO (nxl rfl) sz22 rfl rfl rfl rfl rfl Bw (by simp) sel1 (fun Nw Bw=>?_)))
 simp only [setL,List.set]at Bw
 refine aA (aB (s_6 (At.seq fun _ s_7=>At.region (aC (aD rfl) rfl rfl (aJ (bA rfl) (.cons rfl .nil) (FKeccak_f hb hbl) Tryz.func52 rfl rfl (by simp) rfl ?_)))))
 rintro v32 L32 ⟨rfl,rfl⟩
 change At _ _ _ [Nw,N4,R] _
 rw [hz]
 refine bO (bA rfl) ze25 rfl (fun N7 b7 B7=>?_)
 change Blk N7 b7 _ [.int .u8 0,.int .u8 0,.int .u8 0,.int .u8 0,.int .u8 0,.int .u8 0,.int .u8 0,.int .u8 0,.int .u8 0,.int .u8 0,.int .u8 0,.int .u8 0,.int .u8 0,.int .u8 0,.int .u8 0,.int .u8 0,.int .u8 0,.int .u8 0,.int .u8 0,.int .u8 0,.int .u8 0,.int .u8 0,.int .u8 0,.int .u8 0,.int .u8 0,.int .u8 0,.int .u8 0,.int .u8 0,.int .u8 0,.int .u8 0,.int .u8 0,.int .u8 0]at B7
 refine aO (nxl rfl) sz25 rfl rfl rfl hzu (all8x2 _) B7 (by rw [hzu];exact Nat.le_refl 32) sel0 (fun N7 B7=>?_)
 rw [setL_whole (by rw [hzu];rfl)]at B7
 refine aA (aB (s_7 (At.seq fun _ s_8=>At.region (aC (aD rfl) rfl rfl (aJ (bA rfl) (.cons rfl .nil) (Decode_f hb hbl) Tryz.func96 rfl rfl (by simp) rfl ?_)))))
 rintro v35 L35 (⟨t,M35,x,hd,rfl,rfl,hx⟩|⟨e,hd,rfl,rfl,hne⟩)
 ·change At _ _ _ [M35,N7,Nw,N4,R] _
  refine aC (aD rfl) rfl rfl (aS (aD rfl) rfl rfl rfl (aS (aD rfl) rfl rfl rfl (bO (bA rfl) ze68 rfl (fun N8 b8 B8=>?_))))
  change Blk N8 b8 _ [.bool false,.slice none 0 0,.slice none 0 0]at B8
  refine aO (nxl rfl) sz68 rfl rfl rfl rfl rfl B8 (by simp) sel0 (fun N8 B8=>?_)
  simp only [setL,List.set]at B8
  refine aE (aD rfl) rfl rfl (aA (aB (s_8 (At.seq fun _ s_9=>At.perm sel5 (At.perm sel3 (At.perm sel2 (At.perm sel5 (At.perm sel5 (At.perm sel5 (At.drawnS [N8,N7,R] [] [] [0,1,2,3,4,5,6,7,8,9] (by kernel_rfl) (by kernel_rfl) (.cons _ (.cons _ (.cons _ (.refl _)))) (op_loadAggB (ds:= [_,_,_]) (aX rfl rfl rfl) ag68 rfl B8 rfl rfl aL rfl (aC (aX rfl rfl rfl) rfl rfl (op_eql (aX rfl rfl rfl) rfl rfl rfl (aC (aX rfl rfl rfl) rfl rfl (At.partP (d:=41) rfl (fun g41=>?_) (fun g41=>?_))))))))))))))))
  rotate_left
  ·exact absurd rfl g41
  refine op_sliceA (nxsgf rfl rfl rfl rfl rfl rfl) ae25 rfl .none .none .none (by omega) (by omega) (by omega) (by simp) rfl (aC (nxsgf rfl rfl rfl rfl rfl rfl) rfl rfl (aJ (Nx.agree (nxsgm rfl rfl rfl rfl rfl rfl)) (.cons rfl (.cons rfl .nil)) (FEqualP (blk8 B7 hzl (by decide)) hh) Tryz.func95 rfl rfl (by simp) rfl ?_))
  rintro v44 L44 ⟨rfl,rfl⟩
  change At _ _ _ [M35,Nw,N4,N8,N7,R] _
  refine At.moreS (Lst:= [N8,N7,R]) (Lst':= [N8,N7,R]) (.refl _) (.cons _ (.cons _ (.cons _ (.refl _)))) (bS (aX rfl rfl rfl) rfl rfl rfl (aO (nxsm rfl rfl rfl) sz68 rfl rfl rfl rfl rfl B4 (by simp) sel2 (fun N4 B4=>?_)))
  simp only [setL,List.set]at B4
  refine At.moreS (Lst:= [N8,N7,R]) (Lst':= [N8,N7,R]) (.refl _) (.cons _ (.cons _ (.cons _ (.refl _)))) (aE (aX rfl rfl rfl) rfl rfl (At.sNil (aB (s_9 (At.ret ((At.sub (L':= [N4,M35,Nw,R]) (.cons_cons _ (.cons_cons _ (.cons_cons _ (.cons _ (.cons _ (.cons_cons _ (.slnil))))))) (At.perm sel3 (At.perm sel2 (At.perm sel3 (At.perm sel3 (bP (L1:= [Nw,M35]) rfl (.cell rfl (res_agg (ds:= [_,_,_]) ag68 B4 rfl rfl aL) (.tmp rfl .nil)) rfl (.cons _ (.refl _)) (.refl _) ?_))))))))))))
  by_cases e:z=h
  ·exact .inl ⟨t,q',Nw,M35,x,next_ok hd (hz.trans e),by rw [decide_eq_true e],rfl,way_tail Bw hp hB hr hu0,hx⟩
  ·exact .inr ⟨Nw,M35,q',x,next_ne (by rw [hz];exact e),by rw [decide_eq_false e],rfl,way_tail Bw hp hB hr hu0⟩
 change At _ _ _ [N7,Nw,N4,R] _
 refine aC (aD rfl) rfl rfl (aS (aD rfl) rfl rfl rfl (aS (aD rfl) rfl rfl rfl (bO (bA rfl) ze68 rfl (fun N8 b8 B8=>?_))))
 change Blk N8 b8 _ [.bool false,.slice none 0 0,.slice none 0 0]at B8
 refine aO (nxl rfl) sz68 rfl rfl rfl rfl rfl B8 (by simp) sel0 (fun N8 B8=>?_)
 simp only [setL,List.set]at B8
 refine aE (aD rfl) rfl rfl (aA (aB (s_8 (At.seq fun _ s_10=>At.perm sel4 (At.perm sel2 (At.perm sel2 (At.perm sel4 (At.perm sel4 (At.drawnS [N8,N7,R] [] [] [0,1,2,3,4,5,6,7,8,9] (by kernel_rfl) (by kernel_rfl) (.cons _ (.cons _ (.refl _))) (op_loadAggB (ds:= [_,_,_]) (aX rfl rfl rfl) ag68 rfl B8 rfl rfl aL rfl (aC (aX rfl rfl rfl) rfl rfl (op_eql (aX rfl rfl rfl) rfl rfl rfl (aC (aX rfl rfl rfl) rfl rfl (At.partP (d:=41) rfl (fun g41=>?_) (fun g41=>?_)))))))))))))))
 ·exact(hne (by omega)).elim
 refine op_sskip rfl rfl rfl rfl rfl rfl rfl rfl (op_sskip rfl rfl rfl rfl rfl rfl rfl rfl (op_sskip rfl rfl rfl rfl rfl rfl rfl rfl (bR (aX rfl rfl rfl) rfl rfl rfl (aO (nxsm rfl rfl rfl) sz68 rfl rfl rfl rfl rfl B4 (by simp) sel1 (fun N4 B4=>?_)))))
 simp only [setL,List.set]at B4
 refine At.moreS (Lst:= [N8,N7,R]) (Lst':= [N8,N7,R]) (.refl _) (.cons _ (.cons _ (.refl _))) (aE (aX rfl rfl rfl) rfl rfl (At.sNil (aB (s_10 (At.ret ((At.empty (At.sub (L':= [nilH,N4,Nw,R]) (.cons_cons _ (.cons_cons _ (.cons_cons _ (.cons _ (.cons _ (.cons_cons _ (.slnil))))))) (At.perm sel3 (At.perm sel1 (At.perm sel3 (At.perm sel3 (bP (L1:= [Nw,nilH]) rfl (.cell rfl (res_agg (ds:= [_,_,_]) ag68 B4 rfl rfl aL) (.tmp rfl .nil)) rfl (.cons _ (.refl _)) (.refl _) ?_)))))))))))))
 exact .inr ⟨Nw,nilH,q',⟨false,none,0,0,none,0,0⟩,next_err hd,rfl,rfl,way_tail Bw hp hB hr hu0⟩
end
end Go.Proofs.YtdpjbefeabokgaaGreat
/- Layer 12: a proof is read at a node of seventeen parts. No condition but that bytes are not longer than a machine holds. -/
namespace Go.Proofs.YtdpjbefeabokgaaGreat
open Go Go.RowKit
set_option maxRecDepth 100000
theorem cellsI_tk (xs:List IV): ∀k,(cellsI xs).take (k*3)=cellsI (xs.take k):=by
 induction xs with
 |nil=>intro k;simp [cellsI]
 |cons x t ih=>
  intro k
  cases k with
  |zero=>simp [cellsI]
  |succ k=>
   have e: ∀(z:IV) (l:List IV),cellsI (z::l)=z.cells++cellsI l:=fun z l=>by simp [cellsI]
   have hl:x.cells.length=3:=rfl
   rw [List.take_succ_cons,e,e, ←ih k,show(k+1)*3=x.cells.length+k*3 from by rw [hl];omega,List.take_append,List.take_of_length_le (by omega),Nat.add_sub_cancel_left]
theorem all_in {M:Heaplet} {its:List It} {xs:List IV} (h:ItsN M its xs) (k:Nat):AllIn (xs.take k)↔ ¬ ∃t∈its.take k,innerI t=false:=by
 have hl:=h.length
 constructor
 ·rintro h1 ⟨t,ht,e⟩
  obtain⟨i,hi,rfl⟩:=List.mem_iff_getElem.1 ht
  rw [List.length_take]at hi
  rw [List.getElem_take]at e
  obtain⟨x,hx,hxi⟩:=h.get (k:=i) (List.getElem?_eq_getElem (by omega))
  have h2:=h1 x (List.mem_of_getElem? (i:=i) (by rw [List.getElem?_take,if_pos (by omega)];exact hx))
  rw [inner_x hxi,e]at h2
  cases h2
 ·intro h1 x hx
  obtain⟨i,hi,rfl⟩:=List.mem_iff_getElem.1 hx
  rw [List.length_take]at hi
  rw [List.getElem_take]
  obtain⟨y,hy,hyi⟩:=h.get (k:=i) (List.getElem?_eq_getElem (by omega))
  rw [List.getElem?_eq_getElem (by omega)]at hy
  rw [Option.some.inj hy,inner_x hyi]
  cases e:innerI its[i]with
  |true=>rfl
  |false=>exact absurd ⟨its[i],List.mem_iff_getElem.2 ⟨i,by rw [List.length_take];omega,by rw [List.getElem_take]⟩,e⟩ h1
section
variable {its : List It} {row r : List UInt8} {c : UInt8}
theorem bran_no (h:isL (its.getD 16 (itS []))=true∨ ∃t∈its.take 16,innerI t=false):branF its row=none:=by unfold branF;exact if_pos h
theorem bran_end (h1:isL (its.getD 16 (itS []))=false) (h2: ¬ ∃t∈its.take 16,innerI t=false):branF its []=some (.inl (its.getD 16 (itS [])).bytes):=by
 unfold branF;rw [if_neg]
 rintro(h|h)
 ·rw [h1]at h;cases h
 ·exact h2 h
theorem bran_go (h1:isL (its.getD 16 (itS []))=false) (h2: ¬ ∃t∈its.take 16,innerI t=false):branF its (c::r)=some (.inr (its.getD c.toNat (itS []),r)):=by
 unfold branF;rw [if_neg]
 rintro(h|h)
 ·rw [h1]at h;cases h
 ·exact h2 h
end
/-- What a node leads to, in memory. -/
def AtC (Jr M:Heaplet) (r:Option (List UInt8⊕It×List UInt8)) (row':List UInt8) (e:Bool) (a:Option Addr) (n c:Nat) (z:IV) (ok:Bool):Prop:=
 (r=none∧ok=false)∨(∃u,r=some (.inl u)∧ok=true∧e=true∧n=u.length∧RSl M 1 a n c (u8s u))∨
 (∃y,r=some (.inr (y,row'))∧ok=true∧e=false∧ItN M y z∧Nib row')
def AtY (Jp Jr M:Heaplet) (bw:Nat) (q:List (List UInt8)) (r:Option (List UInt8⊕It×List UInt8)) (v:Value) (L:List Heaplet):Prop:= ∃Nw row' e a n c, ∃z:IV, ∃ok,
 v=.tuple #[.agg #[.bool e,.slice a n c,.bool z.l,.slice z.ab z.nb z.cb,.slice z.ai z.ni z.ci],.bool ok]∧L= [Nw]∧WayS Nw Jp Jr bw q row'∧AtC Jr M r row' e a n c z ok
def ivZ:IV:=⟨false,none,0,0,none,0,0⟩
section
variable {Nw Jp Jr M : Heaplet} {bw : Nat} {q : List (List UInt8)} {row row' : List UInt8} {r : Option (List UInt8 ⊕ It × List UInt8)}
theorem aty_no (h:r=none) (hW:WayS Nw Jp Jr bw q row):AtY Jp Jr M bw q r (.tuple #[.agg #[.bool false,.slice none 0 0,.bool false,.slice none 0 0,.slice none 0 0],.bool false]) [Nw]:=⟨Nw,row,false,none,0,0,ivZ,false,rfl,rfl,hW,.inl ⟨h,rfl⟩⟩
theorem aty_end {u:List UInt8} {a:Option Addr} {n c:Nat} (h:r=some (.inl u)) (hW:WayS Nw Jp Jr bw q row) (hn:u.length=n) (hs:RSl M 1 a n c (u8s u)):AtY Jp Jr M bw q r (.tuple #[.agg #[.bool true,.slice a n c,.bool false,.slice none 0 0,.slice none 0 0],.bool true]) [Nw]:=⟨Nw,row,true,a,n,c,ivZ,true,rfl,rfl,hW,.inr (.inl ⟨u,h,rfl,rfl,hn.symm,hs⟩)⟩
theorem aty_go {y:It} {z:IV} (h:r=some (.inr (y,row'))) (hW:WayS Nw Jp Jr bw q row') (hy:ItN M y z) (hn:Nib row'):AtY Jp Jr M bw q r (.tuple #[.agg #[.bool false,.slice none 0 0,.bool z.l,.slice z.ab z.nb z.cb,.slice z.ai z.ni z.ci],.bool true]) [Nw]:=⟨Nw,row',false,none,0,0,z,true,rfl,rfl,hW,.inr (.inr ⟨y,h,rfl,rfl,hy,hn⟩)⟩
end
section
variable {Nw Jp Jr M : Heaplet} {bw : Nat} {q : List (List UInt8)} {row : List UInt8} {its : List It} {xs : List IV} {ao : Option Addr} {n cap : Nat}
set_option maxHeartbeats 1000000 in
theorem FBranch (hw:WayS Nw Jp Jr bw q row) (hI:RSl M 3 ao n cap (cellsI xs)) (hX:ItsN M its xs) (hl:its.length=17) (hnb:Nib row):Fn Tryz.prog 97 #[.pointer (some ⟨bw,0,none⟩),.slice ao n cap] [Nw] [Jr,M] (AtY Jp Jr M bw q (branF its row)):=by
 obtain⟨pa,pc,ra,rc,us,Bw,hp,hB,hr⟩:=hw
 have hxl:=hX.length
 have hn:xs.length=n:=by have:=hI.1;rw [length_cellsI]at this;omega
 have hcap:=hI.cap63
 have hrc:=hr.cap63
 obtain⟨t16,ht16⟩: ∃t,its[16]? =some t:=⟨_,List.getElem?_eq_getElem (by omega)⟩
 obtain⟨x16,hx16,hi16⟩:=hX.get ht16
 have e16:its.getD 16 (itS [])=t16:=by rw [List.getD_eq_getElem?_getD,ht16];rfl
 obtain⟨o1,o2,_⟩:=it_open hi16
 have hn16:=o2.len8
 have hall:=all_in hX 16
 refine Fn.enter (vs:= [.pointer (some ⟨bw,0,none⟩),.slice ao n cap]) Tryz.func97 rfl rfl rfl ?_
 intro E R hR
 have hIR:=hI.le (hR M (by simp))
 have hrR:=hr.le (hR Jr (by simp))
 have hs16:RSl R 3 ao 16 cap (cellsI (xs.take 16)):=by
  have:=hIR.take (hi:=16) (m:=cap) (by omega) (Nat.le_refl _) (by omega)
  rwa [cellsI_tk]at this
 change At _ _ E [Nw,R] _
 refine At.seq fun _ s_1=>At.region (bO (bA rfl) ze123 rfl (fun N4 b4 B4=>?_))
 change Blk N4 b4 _ [.bool false,.slice none 0 0,.bool false,.slice none 0 0,.slice none 0 0]at B4
 refine aE (aD rfl) rfl rfl (aA (aB (s_1 (At.seq fun _ s_2=>At.region (aC (aD rfl) rfl rfl (op_idxE (aD rfl) se66 rfl rfl hIR (show _=(((16:Nat)):Int)from by omega) (by omega) rfl ?_))))))
 refine op_loadAggE (ds:= [.bool x16.l,.slice x16.ab x16.nb x16.cb,.slice x16.ai x16.ni x16.ci]) (aD rfl) ag68 rfl hIR (by exact cells_at hx16) (by rfl) (by omega) (by first|exact aL|exact aZ|exact bB|exact bF|exact bG|exact bH|exact bL|exact bK|exact bJ|exact bM) rfl ?_
 refine bO (bA rfl) ze68 rfl (fun N6 b6 B6=>?_)
 change Blk N6 b6 _ [.bool false,.slice none 0 0,.slice none 0 0]at B6
 refine aO (nxl rfl) sz68 rfl rfl rfl rfl rfl B6 (by simp) sel0 (fun N6 B6=>?_)
 simp only [setL,List.set]at B6
 refine aA (aB (s_2 (At.seq fun _ s_3=>At.seq fun _ s_4=>At.region (aF (aD rfl) fl68_0 rfl rfl (aI (aD rfl) sc4 rfl B6 (by first|rfl) aL rfl ?_)))))
 refine aC (aD rfl) rfl rfl (At.part (d:=13) rfl (fun g13=>?_) (fun g13=>?_))
 ·refine aH rfl rfl rfl rfl rfl rfl rfl (aH rfl rfl rfl rfl rfl rfl rfl (aH rfl rfl rfl rfl rfl rfl rfl (bS (aD rfl) rfl rfl rfl (aA (aB (s_4 (At.condT rfl (At.seq fun _ s_5=>At.region (op_build (out:= [.bool false,.slice none 0 0,.bool false,.slice none 0 0,.slice none 0 0]) (aD rfl) ze123 pl123 .nil rfl rfl (aO (nxl rfl) sz123 rfl rfl rfl rfl rfl B4 (by simp) sel1 (fun N4 B4=>?_)))))))))))
  simp only [setL,List.set]at B4
  refine aE (aD rfl) rfl rfl (aA (aB (s_5 (At.ret (aM ((At.sub (L':= [N4,Nw,R]) (.cons_cons _ (.cons _ (.cons_cons _ (.cons_cons _ (.slnil))))) (bP (L1:= [Nw]) rfl (.cell rfl (res_agg (ds:= [_,_,_,_,_]) ag123 B4 rfl rfl aL) (.tmp rfl .nil)) rfl (.cons _ (.refl _)) (.refl _) ?_))))))))
  exact aty_no (bran_no (.inl (by rw [e16, ←o1];exact g13))) ⟨pa,pc,ra,rc,us,Bw,hp,hB,hr⟩
 refine aC (aY rfl rfl rfl rfl) rfl rfl (op_slice0 (aY rfl rfl rfl rfl) se66 rfl (.some rfl (show _=(((16:Nat)):Int)from by omega)) .none (by omega) (by omega) (by simp) rfl ?_)
 refine aJ (nxga rfl rfl rfl rfl) (.cons rfl (.cons rfl .nil)) (FHasOut hs16) Tryz.func111 rfl rfl (by simp) rfl ?_
 rintro v16 L16 ⟨b,rfl,rfl,hb⟩
 change At _ _ _ [N6,N4,Nw,R] _
 refine bR (aD rfl) rfl rfl rfl (aA (aB (s_4 (At.condB rfl (fun c17=>?_) (fun c17=>?_)))))
 ·refine At.seq fun _ s_6=>At.region (op_build (out:= [.bool false,.slice none 0 0,.bool false,.slice none 0 0,.slice none 0 0]) (aD rfl) ze123 pl123 .nil rfl rfl (aO (nxl rfl) sz123 rfl rfl rfl rfl rfl B4 (by simp) sel1 (fun N4 B4=>?_)))
  simp only [setL,List.set]at B4
  refine aE (aD rfl) rfl rfl (aA (aB (s_6 (At.ret (aM ((At.sub (L':= [N4,Nw,R]) (.cons_cons _ (.cons _ (.cons_cons _ (.cons_cons _ (.slnil))))) (bP (L1:= [Nw]) rfl (.cell rfl (res_agg (ds:= [_,_,_,_,_]) ag123 B4 rfl rfl aL) (.tmp rfl .nil)) rfl (.cons _ (.refl _)) (.refl _) ?_))))))))
  have h1: ¬AllIn (xs.take 16):=by
   rcases hb with ⟨_,e⟩|⟨h,_⟩
   ·rw [c17]at e;cases e
   ·exact h
  exact aty_no (bran_no (.inr (Classical.byContradiction fun k=>h1 (hall.2 k)))) ⟨pa,pc,ra,rc,us,Bw,hp,hB,hr⟩
 refine At.skip (aB (s_3 (At.seq fun _ s_7=>At.seq fun _ s_8=>At.region (aC (aD rfl) rfl rfl (aQ (aD rfl) rfl rfl (aF (aD rfl) fl95_1 rfl rfl (aI (aD rfl) sc23 rfl Bw (by first|rfl) bB rfl ?_)))))))
 refine aU (aD rfl) se23 rfl rfl (op_eql (aD rfl) rfl rfl rfl (aA (aB (s_8 (aK rfl (fun c24=>?_) (fun c24=>?_))))))
 ·refine At.seq fun _ s_9=>At.region (aF (aD rfl) fl68_1 rfl rfl (aI (aD rfl) sc23 rfl B6 (by first|rfl) aL rfl ?_))
  refine op_build (out:= [_,_,.bool false,.slice none 0 0,.slice none 0 0]) (aD rfl) ze123 pl123 (.cons rfl (.cons rfl .nil)) rfl rfl (aO (nxl rfl) sz123 rfl rfl rfl rfl rfl B4 (by simp) sel1 (fun N4 B4=>?_))
  simp only [setL,List.set]at B4
  refine aE (aD rfl) rfl rfl (aA (aB (s_9 (At.ret (aM ((At.sub (L':= [N4,Nw,R]) (.cons_cons _ (.cons _ (.cons_cons _ (.cons_cons _ (.slnil))))) (bP (L1:= [Nw]) rfl (.cell rfl (res_agg (ds:= [_,_,_,_,_]) ag123 B4 rfl rfl aL) (.tmp rfl .nil)) rfl (.cons _ (.refl _)) (.refl _) ?_))))))))
  have h1:AllIn (xs.take 16):=by
   rcases hb with ⟨h,_⟩|⟨_,e⟩
   ·exact h
   ·rw [c17]at e;cases e
  have e:row= []:=List.eq_nil_of_length_eq_zero (by omega)
  exact aty_end (u:=t16.bytes) (by rw [e, ←e16];exact bran_end (by rw [e16, ←o1];exact g13) (hall.1 h1)) ⟨pa,pc,ra,rc,us,Bw,hp,hB,hr⟩ hn16 o2
 obtain⟨c,r,rfl⟩: ∃c r,row=c::r:=⟨_,_,row_cons (by omega)⟩
 have hc16:c.toNat<16:=hnb c (by simp)
 obtain⟨y,hy⟩: ∃t,its[c.toNat]? =some t:=⟨_,List.getElem?_eq_getElem (by omega)⟩
 obtain⟨z,hz,hyz⟩:=hX.get hy
 have ey:its.getD c.toNat (itS [])=y:=by rw [List.getD_eq_getElem?_getD,hy];rfl
 refine At.skip (aB (s_7 (At.seq fun _ s_10=>At.region (aC (aD rfl) rfl rfl (aQ (aD rfl) rfl rfl (aF (aD rfl) fl95_1 rfl rfl (aI (aD rfl) sc23 rfl Bw (by first|rfl) bB rfl ?_)))))))
 refine bI (aD rfl) se23 rfl rfl hrR (show _=(((0:Nat)):Int)from by omega) (by omega) rfl ?_
 refine aT (aD rfl) sc5 rfl hrR (by first|exact get8 (by omega)|exact bT (by omega)|exact bU (by omega)) (by first|exact aL|exact aZ|exact bB|exact bF|exact bG|exact bH|exact bL|exact bK|exact bJ|exact bM) rfl ?_
 rw [show(c::r).getD 0 0=c from rfl]
 refine aE (aD rfl) rfl rfl (aA (aB (s_10 (At.seq fun _ s_11=>At.region (aC (aD rfl) rfl rfl (aC (aD rfl) rfl rfl (aQ (aD rfl) rfl rfl (aF (aD rfl) fl95_1 rfl rfl (aI (aD rfl) sc23 rfl Bw (by first|rfl) bB rfl ?_)))))))))
 refine op_slice (aD rfl) se23 rfl (.some rfl (show _=(((1:Nat)):Int)from by omega)) .none .none (by omega) (by omega) (by omega) (by simp) rfl ?_
 refine aQ (aD rfl) rfl rfl (aF (aD rfl) fl95_1 rfl rfl (aO (nxl rfl) sz23 rfl rfl rfl rfl rfl Bw (by simp) sel2 (fun Nw Bw=>?_)))
 simp only [setL,List.set]at Bw
 refine aA (aB (s_11 (At.seq fun _ s_12=>At.region (aC (aD rfl) rfl rfl (aC (aD rfl) rfl rfl (op_idxE (aD rfl) se66 rfl rfl hIR (show _=(((c.toNat:Nat)):Int)from by omega) (by omega) rfl ?_))))))
 refine op_loadAggE (ds:= [.bool z.l,.slice z.ab z.nb z.cb,.slice z.ai z.ni z.ci]) (aD rfl) ag68 rfl hIR (by exact cells_at hz) (by rfl) (by omega) (by first|exact aL|exact aZ|exact bB|exact bF|exact bG|exact bH|exact bL|exact bK|exact bJ|exact bM) rfl ?_
 refine op_build (out:= [.bool false,.slice none 0 0,_,_,_]) (aD rfl) ze123 pl123 (.cons rfl .nil) rfl rfl (aO (nxl rfl) sz123 rfl rfl rfl rfl rfl B4 (by simp) sel2 (fun N4 B4=>?_))
 simp only [setL,List.set]at B4
 refine aE (aD rfl) rfl rfl (aA (aB (s_12 (At.ret ((At.sub (L':= [N4,Nw,R]) (.cons_cons _ (.cons_cons _ (.cons _ (.cons_cons _ (.slnil))))) (bP (L1:= [Nw]) rfl (.cell rfl (res_agg (ds:= [_,_,_,_,_]) ag123 B4 rfl rfl aL) (.tmp rfl .nil)) rfl (.cons _ (.refl _)) (.refl _) ?_)))))))
 have h1:AllIn (xs.take 16):=by
  rcases hb with ⟨h,_⟩|⟨_,e⟩
  ·exact h
  ·rw [c17]at e;cases e
 exact aty_go (by rw [←ey];exact bran_go (by rw [e16, ←o1];exact g13) (hall.1 h1)) ⟨pa,pc,sadr ra 1 rc 1,rc- 1,us,Bw,hp,hB,hr.drop8 (lo:=1) (by simp)⟩ hyz (fun b hb=>hnb b (List.mem_cons_of_mem _ hb))
end
end Go.Proofs.YtdpjbefeabokgaaGreat
