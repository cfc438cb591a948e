/- Several texts in one: see the remarks ahead of each part. No condition but those told there. -/
import Derived.Test.YtdpjbefeabokgaaU14
set_option linter.unusedSimpArgs false
set_option linter.unusedVariables false
/- Layer 12: nibbles out of bytes again, program and reference. Conditions: up to 2^40 bytes. -/
namespace Go.Proofs.Ytdpjbefeabokgaa
open Go Go.RowKit
set_option maxRecDepth 100000
theorem andN1: ∀n:Nat,n<256→bits .and .u8 (n:Int) 1=((n % 2:Nat):Int):=by decide+kernel
def ExpP (b:List UInt8) (v:Value) (L:List Heaplet):Prop:=
 (∃p leaf,expF b=some (p,leaf)∧ ∃M a c,v=.tuple #[.slice a p.length c,.bool leaf,.int .i64 0]∧L= [M]∧Row M 5 1 a p.length c (u8s p))∨(expF b=none∧v=.tuple #[.slice none 0 0,.bool false,.int .i64 2]∧L= [])
def ExpR (b:List UInt8) (v:Value) (L:List Heaplet):Prop:=
 (∃p leaf,expF b=some (p,leaf)∧ ∃M a c,v=.tuple #[.slice a p.length c,.bool leaf,.bool true]∧L= [M]∧RSl M 1 a p.length c (u8s p))∨(expF b=none∧v=.tuple #[.slice none 0 0,.bool false,.bool false]∧L= [])
theorem exp_cases (b:List UInt8) (x0 x1:Nat) (e0:((nibs b).getD 0 0).toNat=x0) (e1:((nibs b).getD 1 0).toNat=x1):
 (b.length=0∨3<x0∨(x0 % 2=0∧x1≠0)→expF b=none)∧(0<b.length→x0≤3→x0 % 2=1→ ∀w,(w=true↔1<x0)→expF b=some ((nibs b).drop 1,w))∧(0<b.length→x0≤3→x0 % 2=0→x1=0→ ∀w,(w=true↔1<x0)→expF b=some ((nibs b).drop 2,w)):=by
 subst e0 e1
 have hw: ∀(w:Bool) (p:Prop) [Decidable p],(w=true↔p)→decide p=w:=fun w p _ h=>by
  cases w<;>simp_all
 refine⟨fun h=>if_pos ?_,fun h0 h1 h2 w h3=>?_,fun h0 h1 h2 h3 w h4=>?_⟩
 ·rcases h with h|h
  ·exact .inl (List.eq_nil_of_length_eq_zero h)
  ·exact .inr h
 ·rw [expF,if_neg,if_pos h2,hw w _ h3]
  rintro(e|e|e)
  ·rw [e]at h0;exact absurd h0 (by decide)
  ·omega
  ·omega
 ·rw [expF,if_neg,if_neg (by omega),hw w _ h4]
  rintro(e|e|e)
  ·rw [e]at h0;exact absurd h0 (by decide)
  ·omega
  ·omega
theorem nibs_0 (l:List UInt8):((nibs l).getD 0 0).toNat=(l.getD 0 0).toNat/16:=by
 cases l with
 |nil=>rfl
 |cons a t=>
  show(a>>>4).toNat=a.toNat/16
  rw [UInt8.toNat_shiftRight]
  exact Nat.shiftRight_eq_div_pow _ _
theorem nibs_1 (l:List UInt8):((nibs l).getD 1 0).toNat=(l.getD 0 0).toNat % 16:=by
 cases l with
 |nil=>rfl
 |cons a t=>
  show(a&&&15).toNat=a.toNat % 16
  rw [UInt8.toNat_and]
  exact Nat.and_two_pow_sub_one_eq_mod _ 4
section
variable {N : Heaplet} {ao : Option Addr} {n cap : Nat} {l : List UInt8}
theorem FExpand (h:RSl N 1 ao n cap (u8s l)) (hn:n≤1000000000):Fn Try.prog 21 #[.slice ao n cap] [] [N] (ExpP l):=by
 have hlen:=h.len8
 have hnl:=nibs_length l
 obtain⟨x0,e0⟩: ∃x,((nibs l).getD 0 0).toNat=x:=⟨_,rfl⟩
 obtain⟨x1,e1⟩: ∃x,((nibs l).getD 1 0).toNat=x:=⟨_,rfl⟩
 obtain⟨hbad,hodd,heven⟩:=exp_cases l x0 x1 e0 e1
 have hx0:x0<256:=by rw [←e0];exact UInt8.toNat_lt _
 have hand:=andN1 x0 hx0
 rw [←e0]at hand
 refine Fn.enter (vs:= [.slice ao n cap]) Try.func21 rfl rfl rfl ?_
 intro E R hR
 have h:=h.le (hR N (by simp))
 change At _ _ E [R] _
 refine At.seq fun _ s_1=>At.region (aE (aD rfl) rfl rfl (aE (aD rfl) rfl rfl (aE (aD rfl) rfl rfl (aB (aC (s_1 (At.seq fun _ s_2=>At.region (aA (aD rfl) rfl rfl (aG (nxla rfl) (.cons rfl .nil) (FNibs h (by omega)) Try.func36 rfl rfl (by simp) rfl ?_)))))))))
 rintro v7 L7 ⟨N7,a7,c7,rfl,rfl,r7⟩
 change At _ _ _ [N7,R] _
 have s7:=r7.rsl;have hc7:=s7.2.1
 refine aE (aD rfl) rfl rfl (aB (aC (s_2 (At.seq fun _ s_3=>At.block (At.seq fun _ s_4=>At.region (aA (aD rfl) rfl rfl (op_lenS (aD rfl) se33 rfl rfl (op_eql (aD rfl) rfl rfl rfl (aA (aD rfl) rfl rfl (At.partP (d:=12) rfl (fun g12=>?_) (fun g12=>?_)))))))))))
 ·refine aI rfl rfl rfl rfl rfl rfl rfl (aI rfl rfl rfl rfl rfl rfl rfl (aI rfl rfl rfl rfl rfl rfl rfl (aI rfl rfl rfl rfl rfl rfl rfl (op_pickT (aD rfl) rfl rfl rfl (aA (aD rfl) rfl rfl (aI rfl rfl rfl rfl rfl rfl rfl (aI rfl rfl rfl rfl rfl rfl rfl (aI rfl rfl rfl rfl rfl rfl rfl (aI rfl rfl rfl rfl rfl rfl rfl (aI rfl rfl rfl rfl rfl rfl rfl (aI rfl rfl rfl rfl rfl rfl rfl (op_skipU rfl rfl rfl rfl rfl rfl (op_skipU rfl rfl rfl rfl rfl rfl (op_skipU rfl rfl rfl rfl rfl rfl (op_skipU rfl rfl rfl rfl rfl rfl (aI rfl rfl rfl rfl rfl rfl rfl (op_pickT (aD rfl) rfl rfl rfl (aE (aD rfl) rfl rfl (aB (aC (s_4 ?_)))))))))))))))))))))
  refine At.condT rfl (At.seq fun _ s_5=>At.region (aE (aD rfl) rfl rfl (aE (aD rfl) rfl rfl (aE (aD rfl) rfl rfl (aB (aC (s_5 (At.ret (At.inRet (At.thenRet ((At.sub (L':= [R]) (.cons _ (.cons_cons _ (.slnil))) (At.retN (L1:= []) rfl (.tmp rfl (.tmp rfl (.tmp rfl .nil))) rfl (.refl _) (.refl _) ?_)))))))))))))
  exact .inr ⟨hbad (by omega),rfl,rfl⟩
 refine aA (nxgf rfl rfl rfl rfl) rfl rfl (op_idx1 (nxgf rfl rfl rfl rfl) se33 rfl rfl (by assumption) (show _=((0:Nat):Int)from rfl) (by omega) rfl ?_)
 refine op_loadE (nxgf rfl rfl rfl rfl) sc5 rfl s7 (by first|exact get8 (by omega)|exact get64 (by omega)|exact get32 (by omega)) (by first|exact mem0|exact mem1|exact mem2|exact mem3|exact mem4|exact mem5|exact mem6|exact mem7|exact mem8|exact mem9) rfl ?_
 refine op_gtr (nxgf rfl rfl rfl rfl) rfl rfl rfl (op_pickF (aD rfl) rfl rfl rfl (aA (aD rfl) rfl rfl (At.partP (d:=18) rfl (fun g18=>?_) (fun g18=>?_))))
 ·refine aI rfl rfl rfl rfl rfl rfl rfl (aI rfl rfl rfl rfl rfl rfl rfl (aI rfl rfl rfl rfl rfl rfl rfl (aI rfl rfl rfl rfl rfl rfl rfl (aI rfl rfl rfl rfl rfl rfl rfl (aI rfl rfl rfl rfl rfl rfl rfl (op_skipU rfl rfl rfl rfl rfl rfl (op_skipU rfl rfl rfl rfl rfl rfl (op_skipU rfl rfl rfl rfl rfl rfl (op_skipU rfl rfl rfl rfl rfl rfl (aI rfl rfl rfl rfl rfl rfl rfl (op_pickT (aD rfl) rfl rfl rfl (aE (aD rfl) rfl rfl (aB (aC (s_4 (At.condT rfl (At.seq fun _ s_6=>At.region (aE (aD rfl) rfl rfl (aE (aD rfl) rfl rfl (aE (aD rfl) rfl rfl ?_))))))))))))))))))))
  refine aB (aC (s_6 (At.ret (At.inRet (At.thenRet ((At.sub (L':= [R]) (.cons _ (.cons_cons _ (.slnil))) (At.retN (L1:= []) rfl (.tmp rfl (.tmp rfl (.tmp rfl .nil))) rfl (.refl _) (.refl _) ?_))))))))
  exact .inr ⟨hbad (by omega),rfl,rfl⟩
 refine aA (nxgf rfl rfl rfl rfl) rfl rfl (op_idx1 (nxgf rfl rfl rfl rfl) se33 rfl rfl (by assumption) (show _=((0:Nat):Int)from rfl) (by omega) rfl ?_)
 refine op_loadE (nxgf rfl rfl rfl rfl) sc5 rfl s7 (by first|exact get8 (by omega)|exact get64 (by omega)|exact get32 (by omega)) (by first|exact mem0|exact mem1|exact mem2|exact mem3|exact mem4|exact mem5|exact mem6|exact mem7|exact mem8|exact mem9) rfl ?_
 refine op_bits (by simp) (nxgf rfl rfl rfl rfl) rfl rfl rfl (op_eql (nxgf rfl rfl rfl rfl) rfl rfl rfl (aA (nxgf rfl rfl rfl rfl) rfl rfl (At.partP (d:=24) rfl (fun g24=>?_) (fun g24=>?_))))
 ·refine aA (nxgf rfl rfl rfl rfl) rfl rfl (op_idx1 (nxgf rfl rfl rfl rfl) se33 rfl rfl (by assumption) (show _=((1:Nat):Int)from rfl) (by omega) rfl ?_)
  refine op_loadE (nxgf rfl rfl rfl rfl) sc5 rfl s7 (by first|exact get8 (by omega)|exact get64 (by omega)|exact get32 (by omega)) (by first|exact mem0|exact mem1|exact mem2|exact mem3|exact mem4|exact mem5|exact mem6|exact mem7|exact mem8|exact mem9) rfl ?_
  refine op_neq (nxgf rfl rfl rfl rfl) rfl rfl rfl (op_pickT (nxgf rfl rfl rfl rfl) rfl rfl rfl (op_pickF (aD rfl) rfl rfl rfl (aE (aD rfl) rfl rfl (aB (aC (s_4 (aK rfl (fun c8=>?_) (fun c8=>?_))))))))
  ·refine At.seq fun _ s_7=>At.region (aE (aD rfl) rfl rfl (aE (aD rfl) rfl rfl (aE (aD rfl) rfl rfl (aB (aC (s_7 (At.ret (At.inRet (At.thenRet ((At.sub (L':= [R]) (.cons _ (.cons_cons _ (.slnil))) (At.retN (L1:= []) rfl (.tmp rfl (.tmp rfl (.tmp rfl .nil))) rfl (.refl _) (.refl _) ?_))))))))))))
   exact .inr ⟨hbad (by omega),rfl,rfl⟩
  refine At.seq fun _ s_8=>At.region (aA (aD rfl) rfl rfl (op_idx1 (aD rfl) se33 rfl rfl (by assumption) (show _=((0:Nat):Int)from rfl) (by omega) rfl ?_))
  refine op_loadE (aD rfl) sc5 rfl s7 (by first|exact get8 (by omega)|exact get64 (by omega)|exact get32 (by omega)) (by first|exact mem0|exact mem1|exact mem2|exact mem3|exact mem4|exact mem5|exact mem6|exact mem7|exact mem8|exact mem9) rfl ?_
  refine op_bits (by simp) (aD rfl) rfl rfl rfl (op_eql (aD rfl) rfl rfl rfl (aE (aD rfl) rfl rfl (aB (aC (s_8 (aK rfl (fun c31=>?_) (fun c31=>?_)))))))
  ·exfalso;omega
  refine At.skip (At.inNorm (aC (s_3 (At.seq fun _ s_9=>At.drawnS [N7,R] [] [3] [0,1,3,4,5,6,2,7,8,9] (by kernel_rfl) (by kernel_rfl) (.refl _) (aA (nxsf rfl rfl rfl) rfl rfl (op_slice (nxsf rfl rfl rfl) se33 rfl (.some rfl (show _=((2:Nat):Int)from rfl)) .none .none (by omega) (by omega) (by omega) (by simp) rfl (aA (nxsf rfl rfl rfl) rfl rfl (op_idx1 (nxsf rfl rfl rfl) se33 rfl rfl (by assumption) (show _=((0:Nat):Int)from rfl) (by omega) rfl ?_))))))))
  refine op_loadE (nxsf rfl rfl rfl) sc5 rfl s7 (by first|exact get8 (by omega)|exact get64 (by omega)|exact get32 (by omega)) (by first|exact mem0|exact mem1|exact mem2|exact mem3|exact mem4|exact mem5|exact mem6|exact mem7|exact mem8|exact mem9) rfl ?_
  refine op_gtr (nxsf rfl rfl rfl) rfl rfl rfl (aG (Nx.agree (nxsm rfl rfl rfl)) (.cons rfl .nil) (FClone (s7.drop8 (lo:=2) (by omega)) (by omega)) Try.func30 rfl rfl (by simp) rfl ?_)
  rintro v46 L46 ⟨N46,a46,c46,rfl,rfl,r46⟩
  change At _ _ _ [N46,N7,R] _
  refine At.moreS (Lst:= [N7,R]) (Lst':= [N46,N7,R]) (.cons _ (.refl _)) (.refl _) (aE (nxsf rfl rfl rfl) rfl rfl (aE (nxsf rfl rfl rfl) rfl rfl (aE (nxsf rfl rfl rfl) rfl rfl (At.sNil (aC (s_9 (At.ret ((At.sub (L':= [N46,R]) (.cons_cons _ (.cons _ (.cons_cons _ (.slnil)))) (At.retN (L1:= [N46]) rfl (.tmp rfl (.tmp rfl (.tmp rfl .nil))) rfl (.refl _) (.refl _) ?_))))))))))
  refine .inl ⟨_,_,heven (by omega) (by omega) (by omega) (by omega) (decide ((((nibs l).getD 0 0).toNat:Int)>1)) (by rw [decide_eq_true_iff];omega),N46,a46,c46,?_,rfl,?_⟩
  ·rw [List.length_drop,hnl,hlen]
  ·rw [List.length_drop,hnl,hlen];exact r46
 refine aI rfl rfl rfl rfl rfl rfl rfl (aI rfl rfl rfl rfl rfl rfl rfl (aI rfl rfl rfl rfl rfl rfl rfl (aI rfl rfl rfl rfl rfl rfl rfl (op_pickF (nxgf rfl rfl rfl rfl) rfl rfl rfl (op_pickF (aD rfl) rfl rfl rfl (aE (aD rfl) rfl rfl (aB (aC (s_4 (At.condF rfl (At.seq fun _ s_10=>At.region (aA (aD rfl) rfl rfl (op_idx1 (aD rfl) se33 rfl rfl (by assumption) (show _=((0:Nat):Int)from rfl) (by omega) rfl ?_)))))))))))))
 refine op_loadE (aD rfl) sc5 rfl s7 (by first|exact get8 (by omega)|exact get64 (by omega)|exact get32 (by omega)) (by first|exact mem0|exact mem1|exact mem2|exact mem3|exact mem4|exact mem5|exact mem6|exact mem7|exact mem8|exact mem9) rfl ?_
 refine op_bits (by simp) (aD rfl) rfl rfl rfl (op_eql (aD rfl) rfl rfl rfl (aE (aD rfl) rfl rfl (aB (aC (s_10 (aK rfl (fun c31=>?_) (fun c31=>?_)))))))
 rotate_left
 ·exfalso;omega
 refine At.seq fun _ s_11=>At.drawnS [N7,R] [] [3] [0,1,3,4,5,6,2,7,8,9] (by kernel_rfl) (by kernel_rfl) (.refl _) (aA (nxsf rfl rfl rfl) rfl rfl (op_slice (nxsf rfl rfl rfl) se33 rfl (.some rfl (show _=((1:Nat):Int)from rfl)) .none .none (by omega) (by omega) (by omega) (by simp) rfl (aA (nxsf rfl rfl rfl) rfl rfl (op_idx1 (nxsf rfl rfl rfl) se33 rfl rfl (by assumption) (show _=((0:Nat):Int)from rfl) (by omega) rfl ?_))))
 refine op_loadE (nxsf rfl rfl rfl) sc5 rfl s7 (by first|exact get8 (by omega)|exact get64 (by omega)|exact get32 (by omega)) (by first|exact mem0|exact mem1|exact mem2|exact mem3|exact mem4|exact mem5|exact mem6|exact mem7|exact mem8|exact mem9) rfl ?_
 refine op_gtr (nxsf rfl rfl rfl) rfl rfl rfl (aG (Nx.agree (nxsm rfl rfl rfl)) (.cons rfl .nil) (FClone (s7.drop8 (lo:=1) (by omega)) (by omega)) Try.func30 rfl rfl (by simp) rfl ?_)
 rintro v39 L39 ⟨N39,a39,c39,rfl,rfl,r39⟩
 change At _ _ _ [N39,N7,R] _
 refine At.moreS (Lst:= [N7,R]) (Lst':= [N39,N7,R]) (.cons _ (.refl _)) (.refl _) (aE (nxsf rfl rfl rfl) rfl rfl (aE (nxsf rfl rfl rfl) rfl rfl (aE (nxsf rfl rfl rfl) rfl rfl (At.sNil (aC (s_11 (At.ret (At.inRet (At.thenRet ((At.sub (L':= [N39,R]) (.cons_cons _ (.cons _ (.cons_cons _ (.slnil)))) (At.retN (L1:= [N39]) rfl (.tmp rfl (.tmp rfl (.tmp rfl .nil))) rfl (.refl _) (.refl _) ?_))))))))))))
 refine .inl ⟨_,_,hodd (by omega) (by omega) (by omega) (decide ((((nibs l).getD 0 0).toNat:Int)>1)) (by rw [decide_eq_true_iff];omega),N39,a39,c39,?_,rfl,?_⟩
 ·rw [List.length_drop,hnl,hlen]
 ·rw [List.length_drop,hnl,hlen];exact r39
theorem rExpand (h:RSl N 1 ao n cap (u8s l)) (hn:n≤1000000000):Fn Try.prog 22 #[.slice ao n cap] [] [N] (ExpR l):=by
 have hlen:=h.len8
 have hnl:=nibs_length l
 obtain⟨y,ey⟩: ∃x,(l.getD 0 0).toNat=x:=⟨_,rfl⟩
 have hy:y<256:=by rw [←ey];exact UInt8.toNat_lt _
 obtain⟨hbad,hodd,heven⟩:=exp_cases l (y/16) (y % 16) (by rw [←ey];exact nibs_0 l) (by rw [←ey];exact nibs_1 l)
 refine Fn.enter (vs:= [.slice ao n cap]) Try.func22 rfl rfl rfl ?_
 intro E R hR
 have h:=h.le (hR N (by simp))
 change At _ _ E [R] _
 refine At.seq fun _ s_1=>At.region (aE (aD rfl) rfl rfl (aE (aD rfl) rfl rfl (aE (aD rfl) rfl rfl (aB (aC (s_1 (At.seq fun _ s_2=>At.seq fun _ s_3=>At.region (aA (aD rfl) rfl rfl (op_lenS (aD rfl) se33 rfl rfl (op_eql (aD rfl) rfl rfl rfl (aA (aD rfl) rfl rfl (At.partP (d:=10) rfl (fun g10=>?_) (fun g10=>?_)))))))))))))
 ·refine aI rfl rfl rfl rfl rfl rfl rfl (aI rfl rfl rfl rfl rfl rfl rfl (aI rfl rfl rfl rfl rfl rfl rfl (aI rfl rfl rfl rfl rfl rfl rfl (op_pickT (aD rfl) rfl rfl rfl (aA (aD rfl) rfl rfl (aI rfl rfl rfl rfl rfl rfl rfl (aI rfl rfl rfl rfl rfl rfl rfl (aI rfl rfl rfl rfl rfl rfl rfl (aI rfl rfl rfl rfl rfl rfl rfl (aI rfl rfl rfl rfl rfl rfl rfl (aI rfl rfl rfl rfl rfl rfl rfl (aI rfl rfl rfl rfl rfl rfl rfl (op_skipU rfl rfl rfl rfl rfl rfl (op_skipU rfl rfl rfl rfl rfl rfl (op_skipU rfl rfl rfl rfl rfl rfl (op_skipU rfl rfl rfl rfl rfl rfl (op_skipU rfl rfl rfl rfl rfl rfl (aI rfl rfl rfl rfl rfl rfl rfl (op_pickT (aD rfl) rfl rfl rfl (aB ?_))))))))))))))))))))
  refine aC (s_3 (At.condT rfl (At.seq fun _ s_4=>At.region (aE (aD rfl) rfl rfl (aE (aD rfl) rfl rfl (aE (aD rfl) rfl rfl (aB (aC (s_4 (At.ret (At.thenRet ((At.retN (L1:= []) rfl (.tmp rfl (.tmp rfl (.tmp rfl .nil))) rfl (.refl _) (.refl _) ?_)))))))))))))
  exact .inr ⟨hbad (by omega),rfl,rfl⟩
 refine aA (nxgf rfl rfl rfl rfl) rfl rfl (op_idx1 (nxgf rfl rfl rfl rfl) se33 rfl rfl (by assumption) (show _=((0:Nat):Int)from rfl) (by omega) rfl ?_)
 refine op_loadE (nxgf rfl rfl rfl rfl) sc5 rfl h (by first|exact get8 (by omega)|exact get64 (by omega)|exact get32 (by omega)) (by first|exact mem0|exact mem1|exact mem2|exact mem3|exact mem4|exact mem5|exact mem6|exact mem7|exact mem8|exact mem9) rfl ?_
 refine op_geq (nxgf rfl rfl rfl rfl) rfl rfl rfl (op_pickF (aD rfl) rfl rfl rfl (aA (aD rfl) rfl rfl (At.partP (d:=16) rfl (fun g16=>?_) (fun g16=>?_))))
 ·refine aI rfl rfl rfl rfl rfl rfl rfl (aI rfl rfl rfl rfl rfl rfl rfl (aI rfl rfl rfl rfl rfl rfl rfl (aI rfl rfl rfl rfl rfl rfl rfl (aI rfl rfl rfl rfl rfl rfl rfl (aI rfl rfl rfl rfl rfl rfl rfl (aI rfl rfl rfl rfl rfl rfl rfl (op_skipU rfl rfl rfl rfl rfl rfl (op_skipU rfl rfl rfl rfl rfl rfl (op_skipU rfl rfl rfl rfl rfl rfl (op_skipU rfl rfl rfl rfl rfl rfl (op_skipU rfl rfl rfl rfl rfl rfl (aI rfl rfl rfl rfl rfl rfl rfl (op_pickT (aD rfl) rfl rfl rfl (aB (aC (s_3 (At.condT rfl (At.seq fun _ s_5=>At.region (aE (aD rfl) rfl rfl (aE (aD rfl) rfl rfl ?_))))))))))))))))))))
  refine aE (aD rfl) rfl rfl (aB (aC (s_5 (At.ret (At.thenRet ((At.retN (L1:= []) rfl (.tmp rfl (.tmp rfl (.tmp rfl .nil))) rfl (.refl _) (.refl _) ?_)))))))
  exact .inr ⟨hbad (by omega),rfl,rfl⟩
 refine aA (nxgf rfl rfl rfl rfl) rfl rfl (op_idx1 (nxgf rfl rfl rfl rfl) se33 rfl rfl (by assumption) (show _=((0:Nat):Int)from rfl) (by omega) rfl ?_)
 refine op_loadE (nxgf rfl rfl rfl rfl) sc5 rfl h (by first|exact get8 (by omega)|exact get64 (by omega)|exact get32 (by omega)) (by first|exact mem0|exact mem1|exact mem2|exact mem3|exact mem4|exact mem5|exact mem6|exact mem7|exact mem8|exact mem9) rfl ?_
 refine op_quo8 (nxgf rfl rfl rfl rfl) rfl rfl (by omega) (by omega) (by omega) rfl (op_rem (nxgf rfl rfl rfl rfl) rfl rfl (by omega) (by omega) rfl (op_eql (nxgf rfl rfl rfl rfl) rfl rfl rfl (aA (nxgf rfl rfl rfl rfl) rfl rfl (At.partP (d:=23) rfl (fun g23=>?_) (fun g23=>?_)))))
 ·refine aA (nxgf rfl rfl rfl rfl) rfl rfl (op_idx1 (nxgf rfl rfl rfl rfl) se33 rfl rfl (by assumption) (show _=((0:Nat):Int)from rfl) (by omega) rfl ?_)
  refine op_loadE (nxgf rfl rfl rfl rfl) sc5 rfl h (by first|exact get8 (by omega)|exact get64 (by omega)|exact get32 (by omega)) (by first|exact mem0|exact mem1|exact mem2|exact mem3|exact mem4|exact mem5|exact mem6|exact mem7|exact mem8|exact mem9) rfl ?_
  refine op_rem (nxgf rfl rfl rfl rfl) rfl rfl (by omega) (by omega) rfl (op_neq (nxgf rfl rfl rfl rfl) rfl rfl rfl (op_pickT (nxgf rfl rfl rfl rfl) rfl rfl rfl (op_pickF (aD rfl) rfl rfl rfl (aB (aC (s_3 (aK rfl (fun c30=>?_) (fun c30=>?_))))))))
  ·refine At.seq fun _ s_6=>At.region (aE (aD rfl) rfl rfl (aE (aD rfl) rfl rfl (aE (aD rfl) rfl rfl (aB (aC (s_6 (At.ret (At.thenRet ((At.retN (L1:= []) rfl (.tmp rfl (.tmp rfl (.tmp rfl .nil))) rfl (.refl _) (.refl _) ?_))))))))))
   exact .inr ⟨hbad (by omega),rfl,rfl⟩
  refine At.skip (aC (s_2 (At.seq fun _ s_7=>At.region (aA (aD rfl) rfl rfl (aG (nxla rfl) (.cons rfl .nil) (rNibs h (by omega)) Try.func37 rfl rfl (by simp) rfl ?_)))))
  rintro v32 L32 ⟨N32,a32,c32,rfl,rfl,r32⟩
  change At _ _ _ [N32,R] _
  have s32:=r32.rsl;have hc32:=s32.2.1
  refine aE (aD rfl) rfl rfl (aB (aC (s_7 (At.seq fun _ s_8=>At.region (aA (aD rfl) rfl rfl (op_idx1 (aD rfl) se33 rfl rfl (by assumption) (show _=((0:Nat):Int)from rfl) (by omega) rfl ?_))))))
  refine op_loadE (aD rfl) sc5 rfl h (by first|exact get8 (by omega)|exact get64 (by omega)|exact get32 (by omega)) (by first|exact mem0|exact mem1|exact mem2|exact mem3|exact mem4|exact mem5|exact mem6|exact mem7|exact mem8|exact mem9) rfl ?_
  refine op_quo8 (aD rfl) rfl rfl (by omega) (by omega) (by omega) rfl (op_rem (aD rfl) rfl rfl (by omega) (by omega) rfl (op_convI (aD rfl) (und_some Try.underlying5) Try.underlying3 rfl (by omega) (by omega) rfl (aE (aD rfl) rfl rfl (aB (aC (s_8 (At.seq fun _ s_9=>At.drawnS [N32,R] [] [] [0,1,2,3,4,5,6,7,8,9,10] (by kernel_rfl) (by kernel_rfl) (.refl _) (aA (nxsf rfl rfl rfl) rfl rfl (aA (nxsf rfl rfl rfl) rfl rfl (op_subI (nxsf rfl rfl rfl) rfl rfl (by omega) (by omega) rfl (op_slice (nxsf rfl rfl rfl) se33 rfl (.some rfl (show _=(((2- y/16 % 2:Nat)):Int)from by omega)) .none .none (by omega) (by omega) (by omega) (by simp) rfl ?_)))))))))))
  refine aA (nxsf rfl rfl rfl) rfl rfl (op_idx1 (nxsf rfl rfl rfl) se33 rfl rfl (by assumption) (show _=((0:Nat):Int)from rfl) (by omega) rfl ?_)
  refine op_loadE (nxsf rfl rfl rfl) sc5 rfl h (by first|exact get8 (by omega)|exact get64 (by omega)|exact get32 (by omega)) (by first|exact mem0|exact mem1|exact mem2|exact mem3|exact mem4|exact mem5|exact mem6|exact mem7|exact mem8|exact mem9) rfl ?_
  refine op_geq (nxsf rfl rfl rfl) rfl rfl rfl (aE (nxsf rfl rfl rfl) rfl rfl (aE (nxsf rfl rfl rfl) rfl rfl (aE (nxsf rfl rfl rfl) rfl rfl (At.sNil (aC (s_9 (At.ret ((At.retN (L1:= [N32]) rfl (.tmp rfl (.tmp rfl (.tmp rfl .nil))) rfl (.refl _) (.refl _) ?_)))))))))
  have eo:2- y/16 % 2=2:=by omega
  rw [eo]
  refine .inl ⟨_,_,heven (by omega) (by omega) (by omega) (by omega) (decide (32≤((l.getD 0 0).toNat:Int))) (by rw [decide_eq_true_iff];omega),N32,sadr a32 2 c32 1,c32- 2,?_,rfl,?_⟩
  ·rw [List.length_drop,hnl,hlen]
  ·rw [List.length_drop,hnl,hlen];exact s32.drop8 (by omega)
 refine aI rfl rfl rfl rfl rfl rfl rfl (aI rfl rfl rfl rfl rfl rfl rfl (aI rfl rfl rfl rfl rfl rfl rfl (aI rfl rfl rfl rfl rfl rfl rfl (aI rfl rfl rfl rfl rfl rfl rfl (op_pickF (nxgf rfl rfl rfl rfl) rfl rfl rfl (op_pickF (aD rfl) rfl rfl rfl (aB (aC (s_3 (At.condF rfl (At.skip (aC (s_2 (At.seq fun _ s_10=>At.region (aA (aD rfl) rfl rfl (aG (nxla rfl) (.cons rfl .nil) (rNibs h (by omega)) Try.func37 rfl rfl (by simp) rfl ?_))))))))))))))))
 rintro v32 L32 ⟨N32,a32,c32,rfl,rfl,r32⟩
 change At _ _ _ [N32,R] _
 have s32:=r32.rsl;have hc32:=s32.2.1
 refine aE (aD rfl) rfl rfl (aB (aC (s_10 (At.seq fun _ s_11=>At.region (aA (aD rfl) rfl rfl (op_idx1 (aD rfl) se33 rfl rfl (by assumption) (show _=((0:Nat):Int)from rfl) (by omega) rfl ?_))))))
 refine op_loadE (aD rfl) sc5 rfl h (by first|exact get8 (by omega)|exact get64 (by omega)|exact get32 (by omega)) (by first|exact mem0|exact mem1|exact mem2|exact mem3|exact mem4|exact mem5|exact mem6|exact mem7|exact mem8|exact mem9) rfl ?_
 refine op_quo8 (aD rfl) rfl rfl (by omega) (by omega) (by omega) rfl (op_rem (aD rfl) rfl rfl (by omega) (by omega) rfl (op_convI (aD rfl) (und_some Try.underlying5) Try.underlying3 rfl (by omega) (by omega) rfl (aE (aD rfl) rfl rfl (aB (aC (s_11 (At.seq fun _ s_12=>At.drawnS [N32,R] [] [] [0,1,2,3,4,5,6,7,8,9,10] (by kernel_rfl) (by kernel_rfl) (.refl _) (aA (nxsf rfl rfl rfl) rfl rfl (aA (nxsf rfl rfl rfl) rfl rfl (op_subI (nxsf rfl rfl rfl) rfl rfl (by omega) (by omega) rfl (op_slice (nxsf rfl rfl rfl) se33 rfl (.some rfl (show _=(((2- y/16 % 2:Nat)):Int)from by omega)) .none .none (by omega) (by omega) (by omega) (by simp) rfl ?_)))))))))))
 refine aA (nxsf rfl rfl rfl) rfl rfl (op_idx1 (nxsf rfl rfl rfl) se33 rfl rfl (by assumption) (show _=((0:Nat):Int)from rfl) (by omega) rfl ?_)
 refine op_loadE (nxsf rfl rfl rfl) sc5 rfl h (by first|exact get8 (by omega)|exact get64 (by omega)|exact get32 (by omega)) (by first|exact mem0|exact mem1|exact mem2|exact mem3|exact mem4|exact mem5|exact mem6|exact mem7|exact mem8|exact mem9) rfl ?_
 refine op_geq (nxsf rfl rfl rfl) rfl rfl rfl (aE (nxsf rfl rfl rfl) rfl rfl (aE (nxsf rfl rfl rfl) rfl rfl (aE (nxsf rfl rfl rfl) rfl rfl (At.sNil (aC (s_12 (At.ret ((At.retN (L1:= [N32]) rfl (.tmp rfl (.tmp rfl (.tmp rfl .nil))) rfl (.refl _) (.refl _) ?_)))))))))
 have eo:2- y/16 % 2=1:=by omega
 rw [eo]
 refine .inl ⟨_,_,hodd (by omega) (by omega) (by omega) (decide (32≤((l.getD 0 0).toNat:Int))) (by rw [decide_eq_true_iff];omega),N32,sadr a32 1 c32 1,c32- 1,?_,rfl,?_⟩
 ·rw [List.length_drop,hnl,hlen]
 ·rw [List.length_drop,hnl,hlen];exact s32.drop8 (by omega)
end
end Go.Proofs.Ytdpjbefeabokgaa
/- quarrylaw12.TrieCompact answers true. No condition. -/
namespace Go.Proofs.Ytdpjbefeabokgaa
open Go Go.RowKit
set_option maxRecDepth 100000
theorem nib_next {A:List UInt8} {i:Nat} (h:i<A.length):Nib (A.take (i+1))↔Nib (A.take i)∧(A.getD i 0).toNat<16:=by
 have e:A.take (i+1)=A.take i++ [A.getD i 0]:=by
  rw [List.take_add_one,List.getElem?_eq_getElem h,List.getD_eq_getElem?_getD,List.getElem?_eq_getElem h];rfl
 rw [e]
 constructor
 ·intro hn
  exact⟨fun x hx=>hn x (by simp [hx]),hn _ (by simp)⟩
 ·rintro⟨h1,h2⟩ x hx
  rcases List.mem_append.1 hx with hx|hx
  ·exact h1 x hx
  ·rw [List.mem_singleton.1 hx];exact h2
theorem gF_T {A:List UInt8} {i:Nat} {g:Bool} (h:i<A.length) (hg:g=true↔Nib (A.take i)) (g32:g=true):decide (((A.getD i 0).toNat:Int)<16)=true↔Nib (A.take (i+1)):=by
 rw [nib_next h,decide_eq_true_iff]
 exact⟨fun h=>⟨hg.1 g32,by omega⟩,fun h=>by omega⟩
theorem gF_F {A:List UInt8} {i:Nat} {g:Bool} (h:i<A.length) (hg:g=true↔Nib (A.take i)) (g32:g=false):false=true↔Nib (A.take (i+1)):=by
 rw [nib_next h]
 exact⟨fun h=>(Bool.noConfusion h),fun h=>by have:=hg.2 h.1;rw [g32]at this;exact this⟩
section
variable {N : Heaplet} {ao : Option Addr} {n cap : Nat} {b A l : List UInt8} {leaf : Bool}
theorem FTwinA (h:RSl N 1 ao n cap (u8s A)) (hA:A.length≤100):Fn Try.prog 18 #[.slice ao n cap,.int .i64 100] [] [N] (fun v L=> ∃M a c,v=.slice a A.length c∧L= [M]∧Row M 5 1 a A.length c (u8s A)):=by
 have e:A.take 100=A:=List.take_of_length_le hA
 have:=KTwin_f h 100 100 rfl (by decide)
 rwa [e]at this
theorem FExpand_cpt (hN:Nib l) (h:RSl N 1 ao n cap (u8s (cpt l leaf))) (hl:l.length≤100):Fn Try.prog 21 #[.slice ao n cap] [] [N] (fun v L=> ∃M a c,v=.tuple #[.slice a l.length c,.bool leaf,.int .i64 0]∧L= [M]∧Row M 5 1 a l.length c (u8s l)):=by
 have hc:=h.len8
 rw [cpt_len]at hc
 refine(FExpand h (by omega)).mono ?_
 rintro v L (⟨p,w,he,M,a,c,rfl,rfl,hr⟩|⟨he,_⟩)
 ·rw [exp_cpt hN]at he
  obtain⟨rfl,rfl⟩:l=p∧leaf=w:=by simpa using he
  exact⟨M,a,c,rfl,rfl,hr⟩
 ·rw [exp_cpt hN]at he;cases he
theorem FCompact_bad (h:RSl N 1 ao n cap (u8s l)) (hn:n≤1099511627776) (leaf:Bool) (hN: ¬Nib l):Fn Try.prog 19 #[.slice ao n cap,.bool leaf] [] [N] (fun v L=>v=.tuple #[.slice none 0 0,.int .i64 2]∧L= []):=
 (FCompact h hn leaf).mono fun v L hp=>by
  rcases hp with ⟨h1,_⟩|⟨_,h1,h2⟩
  ·exact absurd h1 hN
  ·exact⟨h1,h2⟩
set_option maxHeartbeats 4000000 in
theorem Compact_good (h:RSl N 1 ao n cap (u8s b)) (leaf:Bool) (hN:Nib (b.take 100)):Fn Try.prog 5 #[.slice ao n cap,.bool leaf] [] [N] (fun v L=>v=.bool true∧L= []):=by
 obtain⟨A,hA⟩: ∃A,b.take 100=A:=⟨_,rfl⟩
 have hAl:A.length≤100:=by rw [←hA];exact List.length_take_le _ _
 rw [hA]at hN
 refine Fn.enter (vs:= [.slice ao n cap,.bool leaf]) Try.func5 rfl rfl rfl ?_
 intro E R hR
 have h:=h.le (hR N (by simp))
 change At _ _ E [R] _
 refine At.seq fun _ s_1=>At.region (aE (aD rfl) rfl rfl (aB (aC (s_1 (At.seq fun _ s_2=>At.region (aA (aD rfl) rfl rfl (aG (nxla rfl) (.cons rfl (.cons rfl .nil)) (KTwin_f h 100 100 rfl (by decide)) Try.func18 rfl rfl (by simp) rfl ?_)))))))
 rintro v17 L17 ⟨N17,a17,c17,rfl,rfl,r17⟩
 change At _ _ _ [N17,R] _
 rw [hA]at r17⊢;have s17:=r17.rsl
 refine aE (aD rfl) rfl rfl (aB (aC (s_2 (At.seq fun _ s_3=>At.region (aA (aD rfl) rfl rfl (aG (nxla rfl) (.cons rfl (.cons rfl .nil)) (FTwinA s17 hAl) Try.func18 rfl rfl (by simp) rfl ?_))))))
 rintro v20 L20 ⟨N20,a20,c20,rfl,rfl,r20⟩
 change At _ _ _ [N20,N17,R] _
 have s20:=r20.rsl
 refine aA (aD rfl) rfl rfl (aG (nxla rfl) (.cons rfl (.cons rfl .nil)) (FCompact_ok s20 (by omega) leaf hN) Try.func19 rfl rfl (by simp) rfl ?_)
 rintro v22 L22 ⟨N22,a22,c22,rfl,rfl,r22⟩
 change At _ _ _ [N22,N20,N17,R] _
 have s22:=r22.rsl
 refine aA (aD rfl) rfl rfl (aH (aD rfl) rfl rfl rfl (aH (aD rfl) rfl rfl rfl (aE (aD rfl) rfl rfl (aE (aD rfl) rfl rfl (aB (aC (s_3 (At.seq fun _ s_4=>At.region (aE (aD rfl) rfl rfl (aB (aC (s_4 (At.seq fun _ s_5=>At.seq fun _ s_6=>At.region (aE (aD rfl) rfl rfl (aB (aC (s_6 (At.block (At.sub (L':= [N22,N17,R]) (.cons_cons _ (.cons _ (.cons_cons _ (.cons_cons _ (.slnil))))) (At.loop (fun fr_ hp_ ms_=> ∃(i:Nat) (g:Bool),fr_= [(1,.bool leaf),(4,.bool false),(5,.slice a17 A.length c17),(6,.slice a22 (cpt A leaf).length c22),(7,.int .i64 0),(8,.bool g),(9,.int .i64 (i:Int))]∧hp_= [N22,N17,R]∧A.length- i=ms_∧(i≤A.length)∧(g=true↔Nib (A.take i))) ?_ (.refl _) ⟨0,true,rfl,rfl,rfl,Nat.zero_le _,⟨fun _ x hx=>by simp at hx,fun _=>rfl⟩⟩ ?_))))))))))))))))))))
 ·exact .cons (by first|exact lkI rfl (by omega)|rfl) (.cons (by first|exact lkI rfl (by omega)|rfl) (.cons (by first|exact lkI rfl (by omega)|rfl) (.cons (by first|exact lkI rfl (by omega)|rfl) (.cons (by first|exact lkI rfl (by omega)|rfl) (.cons (by first|exact lkI rfl (by omega)|rfl) (.cons (by first|exact lkI rfl (by omega)|rfl) .nil))))))
 rintro _ _ _ ⟨i,g,rfl,rfl,rfl,hi,hg⟩
 refine At.seq fun _ s_7=>At.seq fun _ s_8=>At.region (aA (aD rfl) rfl rfl (aA (aD rfl) rfl rfl (op_lenS (aD rfl) se33 rfl rfl (op_lss (aD rfl) rfl rfl rfl (aB (aC (s_8 (aK rfl (fun c28=>?_) (fun c28=>?_)))))))))
 ·refine At.skip (aC (s_7 (At.seq fun _ s_9=>At.block (At.region (aA (aD rfl) rfl rfl (aA (aD rfl) rfl rfl (At.part (d:=32) rfl (fun g32=>?_) (fun g32=>?_))))))))
  ·refine aA (nxgf rfl rfl rfl rfl) rfl rfl (aA (nxgf rfl rfl rfl rfl) rfl rfl (op_idx1 (nxgf rfl rfl rfl rfl) se33 rfl rfl s17 (by first|rfl|exact(Int.toNat_of_nonneg (by omega)).symm) (by omega) rfl ?_))
   refine op_loadE (nxgf rfl rfl rfl rfl) sc5 rfl s17 (by first|exact get8 (by omega)|exact get64 (by omega)|exact get32 (by omega)) (by first|exact mem0|exact mem1|exact mem2|exact mem3|exact mem4|exact mem5|exact mem6|exact mem7|exact mem8|exact mem9) rfl ?_
   refine op_lss (nxgf rfl rfl rfl rfl) rfl rfl rfl (op_pickT (aD rfl) rfl rfl rfl (aE (aD rfl) rfl rfl (aB (At.inNorm (aC (s_9 (At.region (aA (aD rfl) rfl rfl (op_addI (aD rfl) rfl rfl (by omega) (by omega) rfl (aE (aD rfl) rfl rfl (aB (aC (At.back ?_ (.refl _) ⟨i+1,decide (((A.getD i 0).toNat:Int)<16),rfl,rfl,rfl,by omega,gF_T (by omega) hg g32⟩ ?_)))))))))))))
   ·exact .cons (by first|exact lkI rfl (by omega)|rfl) (.cons (by first|exact lkI rfl (by omega)|rfl) (.cons (by first|exact lkI rfl (by omega)|rfl) (.cons (by first|exact lkI rfl (by omega)|rfl) (.cons (by first|exact lkI rfl (by omega)|rfl) (.cons (by first|exact lkI rfl (by omega)|rfl) (.cons (by first|exact lkI rfl (by omega)|rfl) .nil))))))
   ·omega
  refine aI rfl rfl rfl rfl rfl rfl rfl (aI rfl rfl rfl rfl rfl rfl rfl (aI rfl rfl rfl rfl rfl rfl rfl (aI rfl rfl rfl rfl rfl rfl rfl (aI rfl rfl rfl rfl rfl rfl rfl (op_pickF (aD rfl) rfl rfl rfl (aE (aD rfl) rfl rfl (aB (At.inNorm (aC (s_9 (At.region (aA (aD rfl) rfl rfl (op_addI (aD rfl) rfl rfl (by omega) (by omega) rfl (aE (aD rfl) rfl rfl (aB (aC (At.back ?_ (.refl _) ⟨i+1,false,rfl,rfl,rfl,by omega,gF_F (by omega) hg g32⟩ ?_)))))))))))))))))
  ·exact .cons (by first|exact lkI rfl (by omega)|rfl) (.cons (by first|exact lkI rfl (by omega)|rfl) (.cons (by first|exact lkI rfl (by omega)|rfl) (.cons (by first|exact lkI rfl (by omega)|rfl) (.cons (by first|exact lkI rfl (by omega)|rfl) (.cons (by first|exact lkI rfl (by omega)|rfl) (.cons (by first|exact lkI rfl (by omega)|rfl) .nil))))))
  ·omega
 obtain rfl:g=true:=hg.2 (hN.take _)
 refine At.exit (aF (aF (At.inHit (aC (s_5 (At.seq fun _ s_10=>At.seq fun _ s_11=>At.drawnS [N22,N17,R] [] [7] [0,1,2,3,4,5,6,7,8,9,10,11,12,13,14,15,16,17,18,19,20,21,22,23,24,25,26,27,28] (by kernel_rfl) (by kernel_rfl) (.refl _) (aA (nxsf rfl rfl rfl) rfl rfl (aA (nxsf rfl rfl rfl) rfl rfl (op_eql (nxsf rfl rfl rfl) rfl rfl rfl (op_neB (nxsf rfl rfl rfl) Try.underlying4 rfl rfl rfl (aA (nxsf rfl rfl rfl) rfl rfl (At.part (d:=43) rfl (fun g43=>?_) (fun g43=>?_)))))))))))))
 ·simp at g43
 refine aA (nxsgf rfl rfl rfl rfl rfl rfl) rfl rfl (aA (nxsgf rfl rfl rfl rfl rfl rfl) rfl rfl (At.part (d:=45) rfl (fun g45=>?_) (fun g45=>?_)))
 rotate_left
 ·cases g45
 refine aA (nxsgf rfl rfl rfl rfl rfl rfl) rfl rfl (op_str (nxsgf rfl rfl rfl rfl rfl rfl) Try.underlying33 Try.underlying5 Try.underlying9 rfl (by assumption) (by first|exact mem0|exact mem1|exact mem2|exact mem3|exact mem4|exact mem5|exact mem6|exact mem7|exact mem8|exact mem9) rfl ?_)
 refine aA (nxsgf rfl rfl rfl rfl rfl rfl) rfl rfl (aA (nxsgf rfl rfl rfl rfl rfl rfl) rfl rfl (aG (Nx.agree (nxsgm rfl rfl rfl rfl rfl rfl)) (.cons rfl (.cons rfl .nil)) (rCompact s17 (by omega) leaf hN) Try.func20 rfl rfl (by simp) rfl ?_))
 rintro v50 L50 ⟨N50,a50,c50,rfl,rfl,r50⟩
 change At _ _ _ [N50,N22,N17,R] _
 have s50:=r50.rsl
 refine At.moreS (Lst:= [N22,N17,R]) (Lst':= [N50,N22,N17,R]) (.cons _ (.refl _)) (.refl _) (op_str (nxsgf rfl rfl rfl rfl rfl rfl) Try.underlying33 Try.underlying5 Try.underlying9 rfl (by assumption) (by first|exact mem0|exact mem1|exact mem2|exact mem3|exact mem4|exact mem5|exact mem6|exact mem7|exact mem8|exact mem9) rfl ?_)
 refine op_neS (nxsgf rfl rfl rfl rfl rfl rfl) rfl rfl rfl (op_pickT (nxsgf rfl rfl rfl rfl rfl rfl) rfl rfl rfl (op_pickF (nxsf rfl rfl rfl) rfl rfl rfl (aA (nxsf rfl rfl rfl) rfl rfl (At.partP (d:=55) rfl (fun g55=>?_) (fun g55=>?_)))))
 ·exact absurd rfl g55
 refine aA (nxsgf rfl rfl rfl rfl rfl rfl) rfl rfl (op_not (nxsgf rfl rfl rfl rfl rfl rfl) rfl rfl (aA (nxsgf rfl rfl rfl rfl rfl rfl) rfl rfl (At.part (d:=58) rfl (fun g58=>?_) (fun g58=>?_))))
 ·cases g58
 refine op_sskip rfl rfl rfl rfl rfl rfl rfl rfl (op_sskip rfl rfl rfl rfl rfl rfl rfl rfl (op_sskip rfl rfl rfl rfl rfl rfl rfl rfl (op_sskipU rfl rfl rfl rfl rfl rfl rfl (op_sskipU rfl rfl rfl rfl rfl rfl rfl (op_sskipU rfl rfl rfl rfl rfl rfl rfl (op_sskip rfl rfl rfl rfl rfl rfl rfl rfl (op_pickF (nxsgf rfl rfl rfl rfl rfl rfl) rfl rfl rfl (op_pickF (nxsf rfl rfl rfl) rfl rfl rfl (At.sNil (aC (s_11 (At.condF rfl (At.skip (aC (s_10 (At.seq fun _ s_12=>At.region (aA (aD rfl) rfl rfl (aG (nxla rfl) (.cons rfl (.cons rfl .nil)) (FTwinA s17 hAl) Try.func18 rfl rfl (by simp) rfl ?_))))))))))))))))))
 rintro v70 L70 ⟨N70,a70,c70,rfl,rfl,r70⟩
 change At _ _ _ [N70,N50,N22,N17,R] _
 have s70:=r70.rsl
 refine aG (nxla rfl) (.cons rfl .nil) (FExpand s70 (by omega)) Try.func21 rfl rfl (by simp) rfl ?_
 rintro v71 L71 (⟨p,w,hp,N71,a71,c71,rfl,rfl,r71⟩|⟨hp,rfl,rfl⟩)
 ·change At _ _ _ [N71,N70,N50,N22,N17,R] _
  have s71:=r71.rsl
  refine aA (aD rfl) rfl rfl (aH (aD rfl) rfl rfl rfl (aH (aD rfl) rfl rfl rfl (aH (aD rfl) rfl rfl rfl (aE (aD rfl) rfl rfl (aE (aD rfl) rfl rfl (aE (aD rfl) rfl rfl (aB (aC (s_12 (At.seq fun _ s_13=>At.region (aA (aD rfl) rfl rfl (aG (nxla rfl) (.cons rfl .nil) (rExpand s17 (by omega)) Try.func22 rfl rfl (by simp) rfl ?_))))))))))))
  rintro v77 L77 (⟨q,x,hq,N77,a77,c77,rfl,rfl,s77⟩|⟨hq,rfl,rfl⟩)
  ·change At _ _ _ [N77,N71,N70,N50,N22,N17,R] _
   rw [hp]at hq;obtain⟨rfl,rfl⟩:p=q∧w=x:=by simpa using hq
   refine aA (aD rfl) rfl rfl (aH (aD rfl) rfl rfl rfl (aH (aD rfl) rfl rfl rfl (aH (aD rfl) rfl rfl rfl (aE (aD rfl) rfl rfl (aE (aD rfl) rfl rfl (aE (aD rfl) rfl rfl (aB (aC (s_13 (At.seq fun _ s_14=>At.seq fun _ s_15=>At.region (aA (aD rfl) rfl rfl (aA (aD rfl) rfl rfl (op_eql (aD rfl) rfl rfl rfl (op_neB (aD rfl) Try.underlying4 rfl rfl rfl (aA (aD rfl) rfl rfl (At.part (d:=85) rfl (fun g85=>?_) (fun g85=>?_)))))))))))))))))
   ·simp at g85
   refine aA (nxgf rfl rfl rfl rfl) rfl rfl (op_str (nxgf rfl rfl rfl rfl) Try.underlying33 Try.underlying5 Try.underlying9 rfl (by assumption) (by first|exact mem0|exact mem1|exact mem2|exact mem3|exact mem4|exact mem5|exact mem6|exact mem7|exact mem8|exact mem9) rfl ?_)
   refine aA (nxgf rfl rfl rfl rfl) rfl rfl (op_str (nxgf rfl rfl rfl rfl) Try.underlying33 Try.underlying5 Try.underlying9 rfl (by assumption) (by first|exact mem0|exact mem1|exact mem2|exact mem3|exact mem4|exact mem5|exact mem6|exact mem7|exact mem8|exact mem9) rfl ?_)
   refine op_neS (nxgf rfl rfl rfl rfl) rfl rfl rfl (op_pickF (aD rfl) rfl rfl rfl (aA (aD rfl) rfl rfl (At.partP (d:=92) rfl (fun g92=>?_) (fun g92=>?_))))
   ·exact absurd rfl g92
   refine aA (nxgf rfl rfl rfl rfl) rfl rfl (aA (nxgf rfl rfl rfl rfl) rfl rfl (op_neB (nxgf rfl rfl rfl rfl) Try.underlying4 rfl rfl rfl (op_pickF (aD rfl) rfl rfl rfl (aA (aD rfl) rfl rfl (At.part (d:=97) rfl (fun g97=>?_) (fun g97=>?_))))))
   ·simp at g97
   refine aA (nxgf rfl rfl rfl rfl) rfl rfl (op_not (nxgf rfl rfl rfl rfl) rfl rfl (aA (nxgf rfl rfl rfl rfl) rfl rfl (At.part (d:=100) rfl (fun g100=>?_) (fun g100=>?_))))
   ·cases g100
   refine aI rfl rfl rfl rfl rfl rfl rfl (aI rfl rfl rfl rfl rfl rfl rfl (op_pickF (nxgf rfl rfl rfl rfl) rfl rfl rfl (op_pickF (aD rfl) rfl rfl rfl (aB (aC (s_15 (At.condF rfl (At.skip (aC (s_14 (At.seq fun _ s_16=>At.seq fun _ s_17=>At.region (aA (aD rfl) rfl rfl (op_not (aD rfl) rfl rfl (aB (aC (s_17 (At.condB rfl (fun c106=>?_) (fun c106=>?_))))))))))))))))))
   ·cases c106
   refine At.skip (aC (s_16 (At.seq fun _ s_18=>At.region (aA (aD rfl) rfl rfl (aG (nxla rfl) (.cons rfl .nil) (FExpand_cpt hN s22 hAl) Try.func21 rfl rfl (by simp) rfl ?_)))))
   rintro v110 L110 ⟨N110,a110,c110,rfl,rfl,r110⟩
   change At _ _ _ [N110,N77,N71,N70,N50,N22,N17,R] _
   have s110:=r110.rsl
   refine aA (aD rfl) rfl rfl (aH (aD rfl) rfl rfl rfl (aH (aD rfl) rfl rfl rfl (aH (aD rfl) rfl rfl rfl (aE (aD rfl) rfl rfl (aE (aD rfl) rfl rfl (aE (aD rfl) rfl rfl (aB (aC (s_18 (At.seq fun _ s_19=>At.region (aA (aD rfl) rfl rfl (op_eql (aD rfl) rfl rfl rfl (aA (aD rfl) rfl rfl (At.partP (d:=116) rfl (fun g116=>?_) (fun g116=>?_)))))))))))))))
   rotate_left
   ·exact absurd rfl g116
   refine aA (nxgf rfl rfl rfl rfl) rfl rfl (aA (nxgf rfl rfl rfl rfl) rfl rfl (op_eqB (nxgf rfl rfl rfl rfl) Try.underlying4 rfl rfl rfl (op_pickT (aD rfl) rfl rfl rfl (aA (aD rfl) rfl rfl (At.part (d:=121) rfl (fun g121=>?_) (fun g121=>?_))))))
   rotate_left
   ·simp at g121
   refine aA (nxgf rfl rfl rfl rfl) rfl rfl (op_str (nxgf rfl rfl rfl rfl) Try.underlying33 Try.underlying5 Try.underlying9 rfl (by assumption) (by first|exact mem0|exact mem1|exact mem2|exact mem3|exact mem4|exact mem5|exact mem6|exact mem7|exact mem8|exact mem9) rfl ?_)
   refine aA (nxgf rfl rfl rfl rfl) rfl rfl (op_str (nxgf rfl rfl rfl rfl) Try.underlying33 Try.underlying5 Try.underlying9 rfl (by assumption) (by first|exact mem0|exact mem1|exact mem2|exact mem3|exact mem4|exact mem5|exact mem6|exact mem7|exact mem8|exact mem9) rfl ?_)
   refine op_eqS (nxgf rfl rfl rfl rfl) rfl rfl rfl (op_pickT (aD rfl) rfl rfl rfl (aA (aD rfl) rfl rfl (At.partP (d:=128) rfl (fun g128=>?_) (fun g128=>?_))))
   rotate_left
   ·exact absurd rfl g128
   refine aG (nxga rfl rfl rfl rfl) .nil (TWakes) Try.func8 rfl rfl (by simp) rfl ?_
   rintro v129 L129 ⟨rfl,rfl⟩
   change At _ _ _ [N110,N77,N71,N70,N50,N22,N17,R] _
   refine op_pickT (aD rfl) rfl rfl rfl (aE (aD rfl) rfl rfl (aB (aC (s_19 (At.ret ((At.sub (L':= [R]) (.cons _ (.cons _ (.cons _ (.cons _ (.cons _ (.cons _ (.cons _ (.cons_cons _ (.slnil))))))))) (At.ret1 (L1:= []) rfl (.tmp rfl .nil) (.refl _) (.refl _) ?_))))))))
   exact⟨rfl,rfl⟩
  ·rw [hp]at hq;cases hq
 change At _ _ _ [N70,N50,N22,N17,R] _
 have s71:RSl R 1 none 0 0 (u8s []):=RSl.nil _ _
 refine aA (aD rfl) rfl rfl (aH (aD rfl) rfl rfl rfl (aH (aD rfl) rfl rfl rfl (aH (aD rfl) rfl rfl rfl (aE (aD rfl) rfl rfl (aE (aD rfl) rfl rfl (aE (aD rfl) rfl rfl (aB (aC (s_12 (At.seq fun _ s_20=>At.region (aA (aD rfl) rfl rfl (aG (nxla rfl) (.cons rfl .nil) (rExpand s17 (by omega)) Try.func22 rfl rfl (by simp) rfl ?_))))))))))))
 rintro v77 L77 (⟨q,x,hq,N77,a77,c77,rfl,rfl,s77⟩|⟨hq,rfl,rfl⟩)
 ·rw [hp]at hq;cases hq
 change At _ _ _ [N70,N50,N22,N17,R] _
 have s77:RSl R 1 none 0 0 (u8s []):=RSl.nil _ _
 refine aA (aD rfl) rfl rfl (aH (aD rfl) rfl rfl rfl (aH (aD rfl) rfl rfl rfl (aH (aD rfl) rfl rfl rfl (aE (aD rfl) rfl rfl (aE (aD rfl) rfl rfl (aE (aD rfl) rfl rfl (aB (aC (s_20 (At.seq fun _ s_21=>At.seq fun _ s_22=>At.region (aA (aD rfl) rfl rfl (aA (aD rfl) rfl rfl (op_eql (aD rfl) rfl rfl rfl (op_neB (aD rfl) Try.underlying4 rfl rfl rfl (aA (aD rfl) rfl rfl (At.part (d:=85) rfl (fun g85=>?_) (fun g85=>?_)))))))))))))))))
 ·simp at g85
 refine aA (nxgf rfl rfl rfl rfl) rfl rfl (op_str (nxgf rfl rfl rfl rfl) Try.underlying33 Try.underlying5 Try.underlying9 rfl (by assumption) (by first|exact mem0|exact mem1|exact mem2|exact mem3|exact mem4|exact mem5|exact mem6|exact mem7|exact mem8|exact mem9) rfl ?_)
 refine aA (nxgf rfl rfl rfl rfl) rfl rfl (op_str (nxgf rfl rfl rfl rfl) Try.underlying33 Try.underlying5 Try.underlying9 rfl (by assumption) (by first|exact mem0|exact mem1|exact mem2|exact mem3|exact mem4|exact mem5|exact mem6|exact mem7|exact mem8|exact mem9) rfl ?_)
 refine op_neS (nxgf rfl rfl rfl rfl) rfl rfl rfl (op_pickF (aD rfl) rfl rfl rfl (aA (aD rfl) rfl rfl (At.partP (d:=92) rfl (fun g92=>?_) (fun g92=>?_))))
 ·exact absurd rfl g92
 refine aA (nxgf rfl rfl rfl rfl) rfl rfl (aA (nxgf rfl rfl rfl rfl) rfl rfl (op_neB (nxgf rfl rfl rfl rfl) Try.underlying4 rfl rfl rfl (op_pickF (aD rfl) rfl rfl rfl (aA (aD rfl) rfl rfl (At.part (d:=97) rfl (fun g97=>?_) (fun g97=>?_))))))
 ·simp at g97
 refine aA (nxgf rfl rfl rfl rfl) rfl rfl (op_not (nxgf rfl rfl rfl rfl) rfl rfl (aA (nxgf rfl rfl rfl rfl) rfl rfl (At.part (d:=100) rfl (fun g100=>?_) (fun g100=>?_))))
 rotate_left
 ·cases g100
 refine aA (nxgf rfl rfl rfl rfl) rfl rfl (op_neq (nxgf rfl rfl rfl rfl) rfl rfl rfl (op_pickT (nxgf rfl rfl rfl rfl) rfl rfl rfl (op_pickF (aD rfl) rfl rfl rfl (aB (aC (s_22 (aK rfl (fun c104=>?_) (fun c104=>?_))))))))
 ·simp at c104
 refine At.skip (aC (s_21 (At.seq fun _ s_23=>At.seq fun _ s_24=>At.region (aA (aD rfl) rfl rfl (op_not (aD rfl) rfl rfl (aB (aC (s_24 (At.condB rfl (fun c106=>?_) (fun c106=>?_))))))))))
 ·cases c106
 refine At.skip (aC (s_23 (At.seq fun _ s_25=>At.region (aA (aD rfl) rfl rfl (aG (nxla rfl) (.cons rfl .nil) (FExpand_cpt hN s22 hAl) Try.func21 rfl rfl (by simp) rfl ?_)))))
 rintro v110 L110 ⟨N110,a110,c110,rfl,rfl,r110⟩
 change At _ _ _ [N110,N70,N50,N22,N17,R] _
 have s110:=r110.rsl
 refine aA (aD rfl) rfl rfl (aH (aD rfl) rfl rfl rfl (aH (aD rfl) rfl rfl rfl (aH (aD rfl) rfl rfl rfl (aE (aD rfl) rfl rfl (aE (aD rfl) rfl rfl (aE (aD rfl) rfl rfl (aB (aC (s_25 (At.seq fun _ s_26=>At.region (aA (aD rfl) rfl rfl (op_eql (aD rfl) rfl rfl rfl (aA (aD rfl) rfl rfl (At.partP (d:=116) rfl (fun g116=>?_) (fun g116=>?_)))))))))))))))
 rotate_left
 ·exact absurd rfl g116
 refine aA (nxgf rfl rfl rfl rfl) rfl rfl (aA (nxgf rfl rfl rfl rfl) rfl rfl (op_eqB (nxgf rfl rfl rfl rfl) Try.underlying4 rfl rfl rfl (op_pickT (aD rfl) rfl rfl rfl (aA (aD rfl) rfl rfl (At.part (d:=121) rfl (fun g121=>?_) (fun g121=>?_))))))
 rotate_left
 ·simp at g121
 refine aA (nxgf rfl rfl rfl rfl) rfl rfl (op_str (nxgf rfl rfl rfl rfl) Try.underlying33 Try.underlying5 Try.underlying9 rfl (by assumption) (by first|exact mem0|exact mem1|exact mem2|exact mem3|exact mem4|exact mem5|exact mem6|exact mem7|exact mem8|exact mem9) rfl ?_)
 refine aA (nxgf rfl rfl rfl rfl) rfl rfl (op_str (nxgf rfl rfl rfl rfl) Try.underlying33 Try.underlying5 Try.underlying9 rfl (by assumption) (by first|exact mem0|exact mem1|exact mem2|exact mem3|exact mem4|exact mem5|exact mem6|exact mem7|exact mem8|exact mem9) rfl ?_)
 refine op_eqS (nxgf rfl rfl rfl rfl) rfl rfl rfl (op_pickT (aD rfl) rfl rfl rfl (aA (aD rfl) rfl rfl (At.partP (d:=128) rfl (fun g128=>?_) (fun g128=>?_))))
 rotate_left
 ·exact absurd rfl g128
 refine aG (nxga rfl rfl rfl rfl) .nil (TWakes) Try.func8 rfl rfl (by simp) rfl ?_
 rintro v129 L129 ⟨rfl,rfl⟩
 change At _ _ _ [N110,N70,N50,N22,N17,R] _
 refine op_pickT (aD rfl) rfl rfl rfl (aE (aD rfl) rfl rfl (aB (aC (s_26 (At.ret ((At.sub (L':= [R]) (.cons _ (.cons _ (.cons _ (.cons _ (.cons _ (.cons_cons _ (.slnil))))))) (At.ret1 (L1:= []) rfl (.tmp rfl .nil) (.refl _) (.refl _) ?_))))))))
 exact⟨rfl,rfl⟩
set_option maxHeartbeats 4000000 in
theorem Compact_bad (h:RSl N 1 ao n cap (u8s b)) (leaf:Bool) (hN: ¬Nib (b.take 100)):Fn Try.prog 5 #[.slice ao n cap,.bool leaf] [] [N] (fun v L=>v=.bool true∧L= []):=by
 obtain⟨A,hA⟩: ∃A,b.take 100=A:=⟨_,rfl⟩
 have hAl:A.length≤100:=by rw [←hA];exact List.length_take_le _ _
 rw [hA]at hN
 refine Fn.enter (vs:= [.slice ao n cap,.bool leaf]) Try.func5 rfl rfl rfl ?_
 intro E R hR
 have h:=h.le (hR N (by simp))
 change At _ _ E [R] _
 refine At.seq fun _ s_1=>At.region (aE (aD rfl) rfl rfl (aB (aC (s_1 (At.seq fun _ s_2=>At.region (aA (aD rfl) rfl rfl (aG (nxla rfl) (.cons rfl (.cons rfl .nil)) (KTwin_f h 100 100 rfl (by decide)) Try.func18 rfl rfl (by simp) rfl ?_)))))))
 rintro v17 L17 ⟨N17,a17,c17,rfl,rfl,r17⟩
 change At _ _ _ [N17,R] _
 rw [hA]at r17⊢;have s17:=r17.rsl
 refine aE (aD rfl) rfl rfl (aB (aC (s_2 (At.seq fun _ s_3=>At.region (aA (aD rfl) rfl rfl (aG (nxla rfl) (.cons rfl (.cons rfl .nil)) (FTwinA s17 hAl) Try.func18 rfl rfl (by simp) rfl ?_))))))
 rintro v20 L20 ⟨N20,a20,c20,rfl,rfl,r20⟩
 change At _ _ _ [N20,N17,R] _
 have s20:=r20.rsl
 refine aA (aD rfl) rfl rfl (aG (nxla rfl) (.cons rfl (.cons rfl .nil)) (FCompact_bad s20 (by omega) leaf hN) Try.func19 rfl rfl (by simp) rfl ?_)
 rintro v22 L22 ⟨rfl,rfl⟩
 change At _ _ _ [N20,N17,R] _
 have s22:RSl R 1 none 0 0 (u8s []):=RSl.nil _ _
 refine aA (aD rfl) rfl rfl (aH (aD rfl) rfl rfl rfl (aH (aD rfl) rfl rfl rfl (aE (aD rfl) rfl rfl (aE (aD rfl) rfl rfl (aB (aC (s_3 (At.seq fun _ s_4=>At.region (aE (aD rfl) rfl rfl (aB (aC (s_4 (At.seq fun _ s_5=>At.seq fun _ s_6=>At.region (aE (aD rfl) rfl rfl (aB (aC (s_6 (At.block (At.sub (L':= [N17,R]) (.cons _ (.cons_cons _ (.cons_cons _ (.slnil)))) (At.loop (fun fr_ hp_ ms_=> ∃(i:Nat) (g:Bool),fr_= [(1,.bool leaf),(4,.bool false),(5,.slice a17 A.length c17),(6,.slice none 0 0),(7,.int .i64 2),(8,.bool g),(9,.int .i64 (i:Int))]∧hp_= [N17,R]∧A.length- i=ms_∧(i≤A.length)∧(g=true↔Nib (A.take i))) ?_ (.refl _) ⟨0,true,rfl,rfl,rfl,Nat.zero_le _,⟨fun _ x hx=>by simp at hx,fun _=>rfl⟩⟩ ?_))))))))))))))))))))
 ·exact .cons (by first|exact lkI rfl (by omega)|rfl) (.cons (by first|exact lkI rfl (by omega)|rfl) (.cons (by first|exact lkI rfl (by omega)|rfl) (.cons (by first|exact lkI rfl (by omega)|rfl) (.cons (by first|exact lkI rfl (by omega)|rfl) (.cons (by first|exact lkI rfl (by omega)|rfl) (.cons (by first|exact lkI rfl (by omega)|rfl) .nil))))))
 rintro _ _ _ ⟨i,g,rfl,rfl,rfl,hi,hg⟩
 refine At.seq fun _ s_7=>At.seq fun _ s_8=>At.region (aA (aD rfl) rfl rfl (aA (aD rfl) rfl rfl (op_lenS (aD rfl) se33 rfl rfl (op_lss (aD rfl) rfl rfl rfl (aB (aC (s_8 (aK rfl (fun c28=>?_) (fun c28=>?_)))))))))
 ·refine At.skip (aC (s_7 (At.seq fun _ s_9=>At.block (At.region (aA (aD rfl) rfl rfl (aA (aD rfl) rfl rfl (At.part (d:=32) rfl (fun g32=>?_) (fun g32=>?_))))))))
  ·refine aA (nxgf rfl rfl rfl rfl) rfl rfl (aA (nxgf rfl rfl rfl rfl) rfl rfl (op_idx1 (nxgf rfl rfl rfl rfl) se33 rfl rfl s17 (by first|rfl|exact(Int.toNat_of_nonneg (by omega)).symm) (by omega) rfl ?_))
   refine op_loadE (nxgf rfl rfl rfl rfl) sc5 rfl s17 (by first|exact get8 (by omega)|exact get64 (by omega)|exact get32 (by omega)) (by first|exact mem0|exact mem1|exact mem2|exact mem3|exact mem4|exact mem5|exact mem6|exact mem7|exact mem8|exact mem9) rfl ?_
   refine op_lss (nxgf rfl rfl rfl rfl) rfl rfl rfl (op_pickT (aD rfl) rfl rfl rfl (aE (aD rfl) rfl rfl (aB (At.inNorm (aC (s_9 (At.region (aA (aD rfl) rfl rfl (op_addI (aD rfl) rfl rfl (by omega) (by omega) rfl (aE (aD rfl) rfl rfl (aB (aC (At.back ?_ (.refl _) ⟨i+1,decide (((A.getD i 0).toNat:Int)<16),rfl,rfl,rfl,by omega,gF_T (by omega) hg g32⟩ ?_)))))))))))))
   ·exact .cons (by first|exact lkI rfl (by omega)|rfl) (.cons (by first|exact lkI rfl (by omega)|rfl) (.cons (by first|exact lkI rfl (by omega)|rfl) (.cons (by first|exact lkI rfl (by omega)|rfl) (.cons (by first|exact lkI rfl (by omega)|rfl) (.cons (by first|exact lkI rfl (by omega)|rfl) (.cons (by first|exact lkI rfl (by omega)|rfl) .nil))))))
   ·omega
  refine aI rfl rfl rfl rfl rfl rfl rfl (aI rfl rfl rfl rfl rfl rfl rfl (aI rfl rfl rfl rfl rfl rfl rfl (aI rfl rfl rfl rfl rfl rfl rfl (aI rfl rfl rfl rfl rfl rfl rfl (op_pickF (aD rfl) rfl rfl rfl (aE (aD rfl) rfl rfl (aB (At.inNorm (aC (s_9 (At.region (aA (aD rfl) rfl rfl (op_addI (aD rfl) rfl rfl (by omega) (by omega) rfl (aE (aD rfl) rfl rfl (aB (aC (At.back ?_ (.refl _) ⟨i+1,false,rfl,rfl,rfl,by omega,gF_F (by omega) hg g32⟩ ?_)))))))))))))))))
  ·exact .cons (by first|exact lkI rfl (by omega)|rfl) (.cons (by first|exact lkI rfl (by omega)|rfl) (.cons (by first|exact lkI rfl (by omega)|rfl) (.cons (by first|exact lkI rfl (by omega)|rfl) (.cons (by first|exact lkI rfl (by omega)|rfl) (.cons (by first|exact lkI rfl (by omega)|rfl) (.cons (by first|exact lkI rfl (by omega)|rfl) .nil))))))
  ·omega
 obtain rfl:g=false:=by
  cases g with
  |false=>rfl
  |true=>exact absurd (by have:=hg.1 rfl;rwa [List.take_of_length_le (by omega)]at this) hN
 refine At.exit (aF (aF (At.inHit (aC (s_5 (At.seq fun _ s_10=>At.seq fun _ s_11=>At.drawnS [N17,R] [] [7] [0,1,2,3,4,5,6,7,8,9,10,11,12,13,14,15,16,17,18,19,20,21,22,23,24,25,26,27,28] (by kernel_rfl) (by kernel_rfl) (.refl _) (aA (nxsf rfl rfl rfl) rfl rfl (aA (nxsf rfl rfl rfl) rfl rfl (op_eql (nxsf rfl rfl rfl) rfl rfl rfl (op_neB (nxsf rfl rfl rfl) Try.underlying4 rfl rfl rfl (aA (nxsf rfl rfl rfl) rfl rfl (At.part (d:=43) rfl (fun g43=>?_) (fun g43=>?_)))))))))))))
 ·simp at g43
 refine aA (nxsgf rfl rfl rfl rfl rfl rfl) rfl rfl (aA (nxsgf rfl rfl rfl rfl rfl rfl) rfl rfl (At.part (d:=45) rfl (fun g45=>?_) (fun g45=>?_)))
 ·cases g45
 refine op_sskip rfl rfl rfl rfl rfl rfl rfl rfl (op_sskip rfl rfl rfl rfl rfl rfl rfl rfl (op_sskip rfl rfl rfl rfl rfl rfl rfl rfl (op_sskip rfl rfl rfl rfl rfl rfl rfl rfl (op_sskip rfl rfl rfl rfl rfl rfl rfl rfl (op_sskip rfl rfl rfl rfl rfl rfl rfl rfl (op_sskip rfl rfl rfl rfl rfl rfl rfl rfl (op_pickF (nxsgf rfl rfl rfl rfl rfl rfl) rfl rfl rfl (op_pickF (nxsf rfl rfl rfl) rfl rfl rfl (aA (nxsf rfl rfl rfl) rfl rfl (aA (nxsgf rfl rfl rfl rfl rfl rfl) rfl rfl (op_not (nxsgf rfl rfl rfl rfl rfl rfl) rfl rfl (aA (nxsgf rfl rfl rfl rfl rfl rfl) rfl rfl (At.part (d:=58) rfl (fun g58=>?_) (fun g58=>?_))))))))))))))
 rotate_left
 ·cases g58
 refine aA (nxsgf rfl rfl rfl rfl rfl rfl) rfl rfl (op_neq (nxsgf rfl rfl rfl rfl rfl rfl) rfl rfl rfl (aA (nxsgf rfl rfl rfl rfl rfl rfl) rfl rfl (At.partP (d:=61) rfl (fun g61=>?_) (fun g61=>?_))))
 ·simp at g61
 refine aA (nxsgf rfl rfl rfl rfl rfl rfl) rfl rfl (op_lenS (nxsgf rfl rfl rfl rfl rfl rfl) se33 rfl rfl (op_neq (nxsgf rfl rfl rfl rfl rfl rfl) rfl rfl rfl (op_pickF (nxsgf rfl rfl rfl rfl rfl rfl) rfl rfl rfl (op_pickT (nxsgf rfl rfl rfl rfl rfl rfl) rfl rfl rfl (op_pickF (nxsf rfl rfl rfl) rfl rfl rfl (At.sNil (aC (s_11 (aK rfl (fun c67=>?_) (fun c67=>?_))))))))))
 ·simp at c67
 refine At.skip (aC (s_10 (At.seq fun _ s_12=>At.region (aA (aD rfl) rfl rfl (aG (nxla rfl) (.cons rfl (.cons rfl .nil)) (FTwinA s17 hAl) Try.func18 rfl rfl (by simp) rfl ?_)))))
 rintro v70 L70 ⟨N70,a70,c70,rfl,rfl,r70⟩
 change At _ _ _ [N70,N17,R] _
 have s70:=r70.rsl
 refine aG (nxla rfl) (.cons rfl .nil) (FExpand s70 (by omega)) Try.func21 rfl rfl (by simp) rfl ?_
 rintro v71 L71 (⟨p,w,hp,N71,a71,c71,rfl,rfl,r71⟩|⟨hp,rfl,rfl⟩)
 ·change At _ _ _ [N71,N70,N17,R] _
  have s71:=r71.rsl
  refine aA (aD rfl) rfl rfl (aH (aD rfl) rfl rfl rfl (aH (aD rfl) rfl rfl rfl (aH (aD rfl) rfl rfl rfl (aE (aD rfl) rfl rfl (aE (aD rfl) rfl rfl (aE (aD rfl) rfl rfl (aB (aC (s_12 (At.seq fun _ s_13=>At.region (aA (aD rfl) rfl rfl (aG (nxla rfl) (.cons rfl .nil) (rExpand s17 (by omega)) Try.func22 rfl rfl (by simp) rfl ?_))))))))))))
  rintro v77 L77 (⟨q,x,hq,N77,a77,c77,rfl,rfl,s77⟩|⟨hq,rfl,rfl⟩)
  ·change At _ _ _ [N77,N71,N70,N17,R] _
   rw [hp]at hq;obtain⟨rfl,rfl⟩:p=q∧w=x:=by simpa using hq
   refine aA (aD rfl) rfl rfl (aH (aD rfl) rfl rfl rfl (aH (aD rfl) rfl rfl rfl (aH (aD rfl) rfl rfl rfl (aE (aD rfl) rfl rfl (aE (aD rfl) rfl rfl (aE (aD rfl) rfl rfl (aB (aC (s_13 (At.seq fun _ s_14=>At.seq fun _ s_15=>At.region (aA (aD rfl) rfl rfl (aA (aD rfl) rfl rfl (op_eql (aD rfl) rfl rfl rfl (op_neB (aD rfl) Try.underlying4 rfl rfl rfl (aA (aD rfl) rfl rfl (At.part (d:=85) rfl (fun g85=>?_) (fun g85=>?_)))))))))))))))))
   ·simp at g85
   refine aA (nxgf rfl rfl rfl rfl) rfl rfl (op_str (nxgf rfl rfl rfl rfl) Try.underlying33 Try.underlying5 Try.underlying9 rfl (by assumption) (by first|exact mem0|exact mem1|exact mem2|exact mem3|exact mem4|exact mem5|exact mem6|exact mem7|exact mem8|exact mem9) rfl ?_)
   refine aA (nxgf rfl rfl rfl rfl) rfl rfl (op_str (nxgf rfl rfl rfl rfl) Try.underlying33 Try.underlying5 Try.underlying9 rfl (by assumption) (by first|exact mem0|exact mem1|exact mem2|exact mem3|exact mem4|exact mem5|exact mem6|exact mem7|exact mem8|exact mem9) rfl ?_)
   refine op_neS (nxgf rfl rfl rfl rfl) rfl rfl rfl (op_pickF (aD rfl) rfl rfl rfl (aA (aD rfl) rfl rfl (At.partP (d:=92) rfl (fun g92=>?_) (fun g92=>?_))))
   ·exact absurd rfl g92
   refine aA (nxgf rfl rfl rfl rfl) rfl rfl (aA (nxgf rfl rfl rfl rfl) rfl rfl (op_neB (nxgf rfl rfl rfl rfl) Try.underlying4 rfl rfl rfl (op_pickF (aD rfl) rfl rfl rfl (aA (aD rfl) rfl rfl (At.part (d:=97) rfl (fun g97=>?_) (fun g97=>?_))))))
   ·simp at g97
   refine aA (nxgf rfl rfl rfl rfl) rfl rfl (op_not (nxgf rfl rfl rfl rfl) rfl rfl (aA (nxgf rfl rfl rfl rfl) rfl rfl (At.part (d:=100) rfl (fun g100=>?_) (fun g100=>?_))))
   ·cases g100
   refine aI rfl rfl rfl rfl rfl rfl rfl (aI rfl rfl rfl rfl rfl rfl rfl (op_pickF (nxgf rfl rfl rfl rfl) rfl rfl rfl (op_pickF (aD rfl) rfl rfl rfl (aB (aC (s_15 (At.condF rfl (At.skip (aC (s_14 (At.seq fun _ s_16=>At.seq fun _ s_17=>At.region (aA (aD rfl) rfl rfl (op_not (aD rfl) rfl rfl (aB (aC (s_17 (At.condB rfl (fun c106=>?_) (fun c106=>?_))))))))))))))))))
   rotate_left
   ·cases c106
   refine At.seq fun _ s_18=>At.region (aG (nxla rfl) .nil (TWakes) Try.func8 rfl rfl (by simp) rfl ?_)
   rintro v107 L107 ⟨rfl,rfl⟩
   change At _ _ _ [N77,N71,N70,N17,R] _
   refine aE (aD rfl) rfl rfl (aB (aC (s_18 (At.ret (At.thenRet ((At.sub (L':= [R]) (.cons _ (.cons _ (.cons _ (.cons _ (.cons_cons _ (.slnil)))))) (At.ret1 (L1:= []) rfl (.tmp rfl .nil) (.refl _) (.refl _) ?_))))))))
   exact⟨rfl,rfl⟩
  ·rw [hp]at hq;cases hq
 change At _ _ _ [N70,N17,R] _
 have s71:RSl R 1 none 0 0 (u8s []):=RSl.nil _ _
 refine aA (aD rfl) rfl rfl (aH (aD rfl) rfl rfl rfl (aH (aD rfl) rfl rfl rfl (aH (aD rfl) rfl rfl rfl (aE (aD rfl) rfl rfl (aE (aD rfl) rfl rfl (aE (aD rfl) rfl rfl (aB (aC (s_12 (At.seq fun _ s_19=>At.region (aA (aD rfl) rfl rfl (aG (nxla rfl) (.cons rfl .nil) (rExpand s17 (by omega)) Try.func22 rfl rfl (by simp) rfl ?_))))))))))))
 rintro v77 L77 (⟨q,x,hq,N77,a77,c77,rfl,rfl,s77⟩|⟨hq,rfl,rfl⟩)
 ·rw [hp]at hq;cases hq
 change At _ _ _ [N70,N17,R] _
 have s77:RSl R 1 none 0 0 (u8s []):=RSl.nil _ _
 refine aA (aD rfl) rfl rfl (aH (aD rfl) rfl rfl rfl (aH (aD rfl) rfl rfl rfl (aH (aD rfl) rfl rfl rfl (aE (aD rfl) rfl rfl (aE (aD rfl) rfl rfl (aE (aD rfl) rfl rfl (aB (aC (s_19 (At.seq fun _ s_20=>At.seq fun _ s_21=>At.region (aA (aD rfl) rfl rfl (aA (aD rfl) rfl rfl (op_eql (aD rfl) rfl rfl rfl (op_neB (aD rfl) Try.underlying4 rfl rfl rfl (aA (aD rfl) rfl rfl (At.part (d:=85) rfl (fun g85=>?_) (fun g85=>?_)))))))))))))))))
 ·simp at g85
 refine aA (nxgf rfl rfl rfl rfl) rfl rfl (op_str (nxgf rfl rfl rfl rfl) Try.underlying33 Try.underlying5 Try.underlying9 rfl (by assumption) (by first|exact mem0|exact mem1|exact mem2|exact mem3|exact mem4|exact mem5|exact mem6|exact mem7|exact mem8|exact mem9) rfl ?_)
 refine aA (nxgf rfl rfl rfl rfl) rfl rfl (op_str (nxgf rfl rfl rfl rfl) Try.underlying33 Try.underlying5 Try.underlying9 rfl (by assumption) (by first|exact mem0|exact mem1|exact mem2|exact mem3|exact mem4|exact mem5|exact mem6|exact mem7|exact mem8|exact mem9) rfl ?_)
 refine op_neS (nxgf rfl rfl rfl rfl) rfl rfl rfl (op_pickF (aD rfl) rfl rfl rfl (aA (aD rfl) rfl rfl (At.partP (d:=92) rfl (fun g92=>?_) (fun g92=>?_))))
 ·exact absurd rfl g92
 refine aA (nxgf rfl rfl rfl rfl) rfl rfl (aA (nxgf rfl rfl rfl rfl) rfl rfl (op_neB (nxgf rfl rfl rfl rfl) Try.underlying4 rfl rfl rfl (op_pickF (aD rfl) rfl rfl rfl (aA (aD rfl) rfl rfl (At.part (d:=97) rfl (fun g97=>?_) (fun g97=>?_))))))
 ·simp at g97
 refine aA (nxgf rfl rfl rfl rfl) rfl rfl (op_not (nxgf rfl rfl rfl rfl) rfl rfl (aA (nxgf rfl rfl rfl rfl) rfl rfl (At.part (d:=100) rfl (fun g100=>?_) (fun g100=>?_))))
 rotate_left
 ·cases g100
 refine aA (nxgf rfl rfl rfl rfl) rfl rfl (op_neq (nxgf rfl rfl rfl rfl) rfl rfl rfl (op_pickT (nxgf rfl rfl rfl rfl) rfl rfl rfl (op_pickF (aD rfl) rfl rfl rfl (aB (aC (s_21 (aK rfl (fun c104=>?_) (fun c104=>?_))))))))
 ·simp at c104
 refine At.skip (aC (s_20 (At.seq fun _ s_22=>At.seq fun _ s_23=>At.region (aA (aD rfl) rfl rfl (op_not (aD rfl) rfl rfl (aB (aC (s_23 (At.condB rfl (fun c106=>?_) (fun c106=>?_))))))))))
 rotate_left
 ·cases c106
 refine At.seq fun _ s_24=>At.region (aG (nxla rfl) .nil (TWakes) Try.func8 rfl rfl (by simp) rfl ?_)
 rintro v107 L107 ⟨rfl,rfl⟩
 change At _ _ _ [N70,N17,R] _
 refine aE (aD rfl) rfl rfl (aB (aC (s_24 (At.ret (At.thenRet ((At.sub (L':= [R]) (.cons _ (.cons _ (.cons_cons _ (.slnil)))) (At.ret1 (L1:= []) rfl (.tmp rfl .nil) (.refl _) (.refl _) ?_))))))))
 exact⟨rfl,rfl⟩
theorem TrieCompact_f (h:RSl N 1 ao n cap (u8s b)) (leaf:Bool):Fn Try.prog 5 #[.slice ao n cap,.bool leaf] [] [N] (fun v L=>v=.bool true∧L= []):=by
 by_cases hN:Nib (b.take 100)
 ·exact Compact_good h leaf hN
 ·exact Compact_bad h leaf hN
end
end Go.Proofs.Ytdpjbefeabokgaa
/- Bytes, numbers, byte strings as arguments. No condition. -/
namespace Go.Proofs.Ytdpjbefeabokgaa
open Go Go.RowKit Go.ChangeShapes Go.WideShapes Go.Deep
set_option maxRecDepth 100000
section
variable {H : Type} {enc : TypeId × Value → H} {w : World} {spare : Nat → Bool} {held : Bool}
theorem open_bytes {r:Reach} {b0:Nat} {v:Value} {d:DataW H} {ps:List MemPlace} (hval:Value.okWide Try.prog w r b0 33 v) (hd:DataW.Trod enc Try.prog w 0 spare held 33 v d ps):
 ∃ao n cap bs,v=.slice ao n cap∧RSl (whole w) 1 ao n cap (u8s bs):=by
 obtain⟨ao',n',cap',rfl⟩:=okWide_slice Try.underlying33 hval
 obtain⟨fuel,hf⟩:=hd
 obtain⟨ao,n,cap,bs,e,h⟩:=open_u8 Try.underlying33 Try.underlying5 (by kernel_rfl) hf
 exact⟨ao,n,cap,bs,(List.cons.inj e).1,h⟩
end
end Go.Proofs.Ytdpjbefeabokgaa
