/- Several texts in one: see the remarks ahead of each part. No condition but those told there. -/
import Derived.Test.YtjfagifjajielaaGreatX1
import Derived.Test.YtjfagifjajielaaGreatX8
import Derived.Test.YtjfagifjajielaaGreatX4
import Derived.Test.YtjfagifjajielaaGreatX35
import Derived.Test.YtjfagifjajielaaGreatX33
import Derived.Test.YtjfagifjajielaaGreatX25
set_option linter.unusedSimpArgs false
set_option linter.unusedVariables false
namespace Go.Proofs.YtjfagifjajielaaGreat
open Go Go.RowKit
theorem Fn.of_val {P:Program} {f:FuncId} {args:Array Value} {Lr:List Heaplet} {X:Value} (h: ∀w,(∀N∈Lr,N.le (whole w))→Calls P f args w (Ret w fun v _=>v=X)):Fn P f args [] Lr (fun v L=>v=X∧L= []):=
 Fn.of_ret h fun _ _ _ hv _=>⟨[],⟨hv,rfl⟩,fun N hN=>absurd hN List.not_mem_nil,.nil⟩
def rulesL (f:Int):List Value:= [.int .i64 f,.int .u64 21000,.int .u64 (mTxCreate f:Int),.int .u64 4,.int .u64 (mTxByte f:Int),.int .u64 (mTxAddress f:Int),.int .u64 (mTxKey f:Int),.int .u64 (mInitWord f:Int),.int .i64 (mMaxInit f:Int),.int .i64 (mMaxCode f:Int),.int .u64 (mBalance f:Int),.int .u64 (mExtSize f:Int),.int .u64 (mExtHash f:Int),.int .u64 (mLoad f:Int),.int .u64 (mCall f:Int),.int .u64 (mCold f:Int),.int .u64 (mColdSlot f:Int),.int .u64 (mWarm f:Int),.int .u64 (mDestroy f:Int),.int .u64 (mDestroyNew f:Int),.int .u64 (mDestroyBack f:Int),.int .u64 (mExpByte f:Int),.int .u64 (mStoreBack f:Int),.int .u64 (mRefundPart f:Int),.int .u64 (mReward f:Int),.int .u64 (mBomb f:Int)]
theorem FOf_f (f:Int) (h:0≤f) (h2:f≤15):Fn Tryz.prog 128 #[.int .i64 f] [] [] (fun v L=>v=.tuple #[.agg (rulesL f).toArray,.int .i64 0]∧L= []):=Fn.of_val fun w _=>of_c w f h h2
set_option maxRecDepth 100000
set_option maxRecDepth 100000 in
theorem FBomb0_f:Fn Tryz.prog 137 #[.int .u64 ((0:UInt64).toNat:Int),.int .u64 ((0:UInt64).toNat:Int)] [] [] (fun v L=>v=.slice none 0 0∧L= []):=by
 have e0:(0:UInt64).toNat=0:=rfl
 have e1:(1:UInt64).toNat=1:=rfl
 have e2:(2:UInt64).toNat=2:=rfl
 have e5:(100000:UInt64).toNat=100000:=rfl
 have l1:(limbsOf 1).length≤1:=limbs_le (V:=1) (k:=1) (by decide)
 have l0:(limbsOf 0).length=0:=limbs_nil.2 rfl
 refine Fn.enter (vs:= [.int .u64 ((0:UInt64).toNat:Int),.int .u64 ((0:UInt64).toNat:Int)]) Tryz.func137 U U U ?_
 intro E R hR
 change At _ _ E [R] _
 refine aC fun _ s_1=>aA (aG U U (aB (s_1 (aC fun _ s_2=>aA (aF U U (aH aZ (.cons U .nil) (small_f 0) Tryz.func132 U U (by simp) U ?_))))))
 rintro _ _ ⟨N10,p10,c10,rfl,rfl,s10⟩
 show At _ _ _ [N10,R] _
 refine aH aZ (.cons U .nil) (small_f 1) Tryz.func132 U U (by simp) U ?_
 rintro _ _ ⟨N11,p11,c11,rfl,rfl,s11⟩
 show At _ _ _ [N11,N10,R] _
 refine aH aZ (.cons U (.cons U .nil)) (Add_f s10 s11 (by omega) (by omega)) Tryz.func134 U U (by simp) U ?_
 rintro _ _ ⟨N12,p12,c12,rfl,rfl,s12⟩
 show At _ _ _ [N12,N11,N10,R] _
 rw [v64_x1,v64_x1,e0,e1,Nat.zero_add]at s12⊢
 refine aG U U (aB (s_2 (aC fun _ s_3=>aC fun _ s_4=>aA (aF U U (aF U U (aH aZ (.cons U .nil) (small_f 0) Tryz.func132 U U (by simp) U ?_))))))
 rintro _ _ ⟨N15,p15,c15,rfl,rfl,s15⟩
 show At _ _ _ [N15,N12,N11,N10,R] _
 refine aH aZ (.cons U (.cons U .nil)) (Cmp_f s12 s15 (by omega) (by omega)) Tryz.func135 U U (by simp) U ?_
 rintro _ _ ⟨rfl,rfl⟩
 show At _ _ _ [N15,N12,N11,N10,R] _
 rw [v64_limbsOf,v64_x1,e0,show cmpN 1 0=1 from rfl]
 refine op_leq aD U U U (aB (s_4 (At.condF U (aQ (aE (s_3 (aC fun _ s_5=>aA (aF U U (aF U U (aH aZ (.cons U .nil) (small_f 0) Tryz.func132 U U (by simp) U ?_))))))))))
 rintro _ _ ⟨N20,p20,c20,rfl,rfl,s20⟩
 show At _ _ _ [N20,N15,N12,N11,N10,R] _
 refine aH aZ (.cons U (.cons U .nil)) (Sub_f s12 s20 (by omega) (by omega) (by rw [v64_limbsOf,v64_x1,e0];decide)) Tryz.func133 U U (by simp) U ?_
 rintro _ _ ⟨N21,p21,c21,rfl,rfl,s21⟩
 show At _ _ _ [N21,N20,N15,N12,N11,N10,R] _
 rw [v64_limbsOf,v64_x1,e0,Nat.sub_zero]at s21⊢
 refine aH aZ (.cons U (.cons U .nil)) (over_f s21 (by omega) 100000 (by decide)) Tryz.func131 U U (by simp) U ?_
 rintro _ _ ⟨N22,p22,c22,rfl,rfl,s22⟩
 show At _ _ _ [N22,N21,N20,N15,N12,N11,N10,R] _
 rw [v64_limbsOf,e5,show 1/100000=0 from rfl]at s22⊢
 refine aH aZ (.cons U .nil) (Trim_f s22) Tryz.func139 U U (by simp) U ?_
 rintro _ _ ⟨rfl,rfl,t23,l23⟩
 show At _ _ _ [N22,N21,N20,N15,N12,N11,N10,R] _
 have s23:=s22.trimmed t23 l23
 rw [v64_limbsOf]at s23⊢
 refine aG U U (aB (s_5 (aC fun _ s_6=>aC fun _ s_7=>aA (aF U U (aH aZ (.cons U .nil) (small_f 2) Tryz.func132 U U (by simp) U ?_)))))
 rintro _ _ ⟨N25,p25,c25,rfl,rfl,s25⟩
 show At _ _ _ [N25,N22,N21,N20,N15,N12,N11,N10,R] _
 refine aH aZ (.cons U (.cons U .nil)) (Cmp_f s23 s25 (by omega) (by omega)) Tryz.func135 U U (by simp) U ?_
 rintro _ _ ⟨rfl,rfl⟩
 show At _ _ _ [N25,N22,N21,N20,N15,N12,N11,N10,R] _
 rw [v64_limbsOf,v64_x1,e2,show cmpN 0 2= -1 from rfl]
 refine op_lss aD U U U (aB (s_7 (At.condT U (aC fun _ s_8=>aA (aG U U (aB (s_8 (aR (aJ ((dropAt7 (dropAt6 (dropAt5 (dropAt4 (dropAt3 (cA (a7 (bP (aW (L1:= []) U (.tmp U .nil) (.refl _) aM ?_)))))))))))))))))))
 exact⟨rfl,rfl⟩
theorem WW_small {n:Nat} (h:n<18446744073709551616):n<WW:=Nat.lt_of_lt_of_le h (by decide+kernel)
set_option maxRecDepth 100000 in
set_option maxHeartbeats 2000000 in
theorem FDiff_f:Fn Tryz.prog 85 #[.int .i64 0,.agg (rh.cells none 0 0).toArray,.int .u64 ((112:UInt64).toNat:Int)] [] [] (fun v L=>v=.tuple #[wo 1000488,.bool true]∧L= []):=by
 have hd:v64 (wl rh.df)=1000000:=v64_wl_lt (WW_small (by decide))
 have e1:(1:UInt64).toNat=1:=rfl
 have e3:(131072:UInt64).toNat=131072:=rfl
 have l4:(limbsOf 488).length≤1:=limbs_le (V:=488) (k:=10) (by decide)
 have l5:(limbsOf 1000488).length≤1:=limbs_le (V:=1000488) (k:=20) (by decide)
 refine Fn.enter (vs:= [.int .i64 0,.agg (rh.cells none 0 0).toArray,.int .u64 ((112:UInt64).toNat:Int)]) Tryz.func85 U U U ?_
 intro E R hR
 change At _ _ E [R] _
 refine aC fun _ s_1=>aA (op_box aZ U U U (fun N4 b4 B4=>bE aZ ze26 U (fun N6 b6 B6=>?_)))
 change Blk N6 b6 _ [.int .u64 0,.int .u64 0,.int .u64 0,.int .u64 0]at B6
 change Blk N4 b4 _ (rh.cells none 0 0)at B4
 refine aG U U (aB (s_1 (aC fun _ s_2=>aA (aF U U (aH aZ (.cons U .nil) (FOf_f 0 (by decide) (by decide)) Tryz.func128 U U (by simp) U ?_)))))
 rintro _ _ ⟨rfl,rfl⟩
 show At _ _ _ [N6,N4,R] _
 refine aF U U (aN aD U U U (aN aD U U U (bE aZ ze196 U (fun N8 b8 B8=>?_))))
 change Blk N8 b8 _ [.int .i64 0,.int .u64 0,.int .u64 0,.int .u64 0,.int .u64 0,.int .u64 0,.int .u64 0,.int .u64 0,.int .i64 0,.int .i64 0,.int .u64 0,.int .u64 0,.int .u64 0,.int .u64 0,.int .u64 0,.int .u64 0,.int .u64 0,.int .u64 0,.int .u64 0,.int .u64 0,.int .u64 0,.int .u64 0,.int .u64 0,.int .u64 0,.int .u64 0,.int .u64 0]at B8
 refine aX nxQ sz196 U U U U U B8 (by exact(by decide:26≤26)) sel0 (fun N8 B8=>?_)
 change Blk N8 b8 _ (rulesL 0)at B8
 refine aG U U (aB (s_2 (aC fun _ s_3=>aC fun _ s_4=>aA (aF U U (op_neq aD U U U (aF U U (aL (cL U U U U) U U (op_geq (cL U U U U) U U U (cB aD U U U (aF U U (aL (cL U U U U) U U (aI (cL U U U U) fl44_12 U U (aV (cL U U U U) sc24 U B4 (by first|rfl|exact Hd.ti_at rh_ok|exact Hd.nu_at rh_ok) mem2 U ?_)))))))))))))
 refine op_leq (cL U U U U) U U U (cB aD U U U (aB (s_4 (At.condF U (aQ (aE (s_3 (aC fun _ s_5=>aA (aF U U (aI aD fl44_12 U U (aV aD sc24 U B4 (by first|rfl|exact Hd.ti_at rh_ok|exact Hd.nu_at rh_ok) mem2 U ?_)))))))))))
 refine op_subU aD U U U (aG U U (aG U U (aG U U (aB (s_5 (aC fun _ s_6=>aC fun _ s_7=>aA (aF U U (op_eql aD U U U (aB (s_7 (At.condT U (aA (aF U U (op_geq aD U U U (aG U U (aB (s_6 (aC fun _ s_8=>aA (aI aD fl44_8 U U ?_)))))))))))))))))))
 have sd:=Hd.slice_df B4 rh_ok
 refine op_sliceA aD ae26 U .none .none .none (by omega) (by omega) (by omega) (by simp) U (aG U U (aB (s_8 (aC fun _ s_9=>aA (aF U U (aH aZ (.cons U (.cons U .nil)) (over_f sd (by decide) 2048 (by decide)) Tryz.func131 U U (by simp) U ?_))))))
 rintro _ _ ⟨N51,p51,c51,rfl,rfl,s51⟩
 show At _ _ _ [N51,N8,N6,N4,R] _
 rw [hd,show 1000000/ (2048:UInt64).toNat=488 from rfl]at s51⊢
 refine aF U U (aH aZ (.cons U .nil) (small_f 1) Tryz.func132 U U (by simp) U ?_)
 rintro _ _ ⟨N53,p53,c53,rfl,rfl,s53⟩
 show At _ _ _ [N53,N51,N8,N6,N4,R] _
 refine aH aZ (.cons U (.cons U .nil)) (Mul_f s51 s53 (by omega) (by omega)) Tryz.func130 U U (by simp) U ?_
 rintro _ _ ⟨N54,p54,c54,rfl,rfl,s54⟩
 show At _ _ _ [N54,N53,N51,N8,N6,N4,R] _
 rw [v64_limbsOf,v64_x1,e1,Nat.mul_one]at s54⊢
 refine aG U U (aB (s_9 (aC fun _ s_10=>aC fun _ s_11=>aA (aF U U (aB (s_11 (At.condF U (aA (aF U U (aF U U (aH aZ (.cons U (.cons U .nil)) (Add_f sd s54 (by decide) (by omega)) Tryz.func134 U U (by simp) U ?_)))))))))))
 rintro _ _ ⟨N61,p61,c61,rfl,rfl,s61⟩
 show At _ _ _ [N61,N54,N53,N51,N8,N6,N4,R] _
 rw [hd,v64_limbsOf,show 1000000+488=1000488 from rfl]at s61⊢
 refine aG U U (aB (s_10 (aC fun _ s_12=>aC fun _ s_13=>aA (aF U U (aH aZ (.cons U .nil) (small_f 131072) Tryz.func132 U U (by simp) U ?_)))))
 rintro _ _ ⟨N63,p63,c63,rfl,rfl,s63⟩
 show At _ _ _ [N63,N61,N54,N53,N51,N8,N6,N4,R] _
 refine aH aZ (.cons U (.cons U .nil)) (Cmp_f s61 s63 (by omega) (by omega)) Tryz.func135 U U (by simp) U ?_
 rintro v64 L64 ⟨rfl,rfl⟩
 show At _ _ _ [N63,N61,N54,N53,N51,N8,N6,N4,R] _
 rw [v64_limbsOf,v64_x1,e3,show cmpN 1000488 131072=1 from rfl]
 refine op_lss aD U U U (aB (s_13 (At.condF U (aQ (aE (s_12 (aC fun _ s_14=>aA (aF U U (aI aD fl196_25 U U (aV aD sc24 U B8 (by first|rfl|exact Hd.ti_at rh_ok|exact Hd.nu_at rh_ok) mem5 U ?_))))))))))
 refine aI aD fl44_9 U U (aV aD sc24 U B4 (by first|rfl|exact Hd.ti_at rh_ok|exact Hd.nu_at rh_ok) mem7 U ?_)
 refine aH aZ (.cons U (.cons U .nil)) (FBomb0_f) Tryz.func137 U U (by simp) U ?_
 rintro _ _ ⟨rfl,rfl⟩
 show At _ _ _ [N63,N61,N54,N53,N51,N8,N6,N4,R] _
 have s0:RSl R 1 none 0 0 (u64s ([]:List UInt64)):=RSl.nil R 1
 refine aH aZ (.cons U (.cons U .nil)) (Add_f s61 s0 (by omega) (by omega)) Tryz.func134 U U (by simp) U ?_
 rintro _ _ ⟨N73,p73,c73,rfl,rfl,s73⟩
 show At _ _ _ [N73,N63,N61,N54,N53,N51,N8,N6,N4,R] _
 rw [v64_limbsOf,show v64 []=0 from rfl,Nat.add_zero]at s73⊢
 refine aH aZ (.cons U .nil) (fit_f s73 (by omega)) Tryz.func136 U U (by simp) U ?_
 rintro _ _ ⟨rfl,rfl⟩
 show At _ _ _ [N73,N63,N61,N54,N53,N51,N8,N6,N4,R] _
 rw [v64_limbsOf,fitV_y (WW_small (by decide)),decide_eq_true (WW_small (by decide))]
 refine aN aD U U U (aN aD U U U (aX nxQ sz26 U U U U U B6 (by simp) sel7 (fun N6 B6=>?_)))
 rw [setL_whole (by simp)]at B6
 refine aG U U (aB (s_14 (aR ((dropAt8 (dropAt7 (dropAt6 (dropAt5 (dropAt4 (dropAt3 (cA (a7 ?_))))))))))))
 refine bV (L1:= []) U (.cell U (res_agg (ds:=u64s (wl 1000488)) ag26 B6 (by first|(rw [List.drop_zero,List.take_of_length_le (by first|(simp;done)|(simp;omega))];done)|rfl) (by first|(simp;done)|(simp;omega)) bZ) (.tmp U .nil)) U (.cons _ (.refl _)) aM ?_
 exact⟨rfl,rfl⟩
set_option maxRecDepth 100000 in
set_option maxHeartbeats 2000000 in
theorem Hwakes_f:Fn Tryz.prog 27 #[] [] [] (fun v L=>v=.bool true∧L= []):=by
 have e8:wl 1000488= [1000488,0,0,0]:=wl_small 1000488
 have e1:wl 1= [1,0,0,0]:=wl_small 1
 have e19:wl 19= [19,0,0,0]:=wl_small 19
 refine Fn.enter (vs:= []) Tryz.func27 U U U ?_
 intro E R hR
 change At _ _ E [R] _
 refine aC fun _ s_1=>aA (aG U U (aB (s_1 (aC fun _ s_2=>aA (op_buildA (out:= [_,.int .u64 0,.int .u64 0,.int .u64 0]) aD ze26 ae26 (.cons U .nil) U U (op_build (out:=rh.cells none 0 0) aD zeHdr pl44 (.cons U (.cons U .nil)) (by kernel_rfl) U (aH aZ (.cons U (.cons U (.cons U .nil))) (FDiff_f) Tryz.func85 U U (by simp) U ?_)))))))
 rintro _ _ ⟨rfl,rfl⟩
 show At _ _ _ [R] _
 refine aF U U (aN aD U U U (aN aD U U U (bE aZ ze26 U (fun N1 b1 B1=>?_))))
 change Blk N1 b1 _ [.int .u64 0,.int .u64 0,.int .u64 0,.int .u64 0]at B1
 refine aX nxQ sz26 U U U U U B1 (by simp) sel0 (fun N1 B1=>?_)
 rw [setL_whole (by simp)]at B1
 refine aG U U (aB (s_2 (aC fun _ s_3=>aA (aF U U (aF U U ?_)))))
 refine aY (ds:=u64s (wl 1000488)) (cL U U U U) ag26 U B1 (by first|(rw [List.drop_zero,List.take_of_length_le (by first|(simp;done)|(simp;omega))];done)|rfl) (by first|(simp;done)|(simp;omega)) bZ U ?_
 refine op_buildA (out:= [_,.int .u64 0,.int .u64 0,.int .u64 0]) (cL U U U U) ze26 ae26 (.cons U .nil) U U (op_eqW (a:=wl 1000488) (b:= [1000488,0,0,0]) (cL U U U U) ae26 Tryz.underlying24 (by kernel_rfl) U U U U U (bO aD U U U (aF U U (cJ (d:=15) U (fun g15=>?_) (fun g15=>?_)))))
 rotate_left
 ·exact absurd e8 g15
 refine aH (nxga U U U U) (.cons U .nil) (FBlobFee_f 0) Tryz.func86 U U (by simp) U ?_
 rintro _ _ ⟨rfl,rfl⟩
 show At _ _ _ [N1,R] _
 rw [show(0:UInt64).toNat=0 from rfl,blobF_0]
 refine op_buildA (out:= [_,.int .u64 0,.int .u64 0,.int .u64 0]) (cL U U U U) ze26 ae26 (.cons U .nil) U U (op_eqW (a:=wl 1) (b:= [1,0,0,0]) (cL U U U U) ae26 Tryz.underlying24 (by kernel_rfl) U U U U U (bO aD U U U (aF U U (cJ (d:=20) U (fun g20=>?_) (fun g20=>?_)))))
 rotate_left
 ·exact absurd e1 g20
 refine aH (nxga U U U U) (.cons U .nil) (FBlobFee_f 10000000) Tryz.func86 U U (by simp) U ?_
 rintro _ _ ⟨rfl,rfl⟩
 show At _ _ _ [N1,R] _
 rw [show(10000000:UInt64).toNat=10000000 from rfl,blobF_1]
 refine op_buildA (out:= [_,.int .u64 0,.int .u64 0,.int .u64 0]) (cL U U U U) ze26 ae26 (.cons U .nil) U U (op_eqW (a:=wl 19) (b:= [19,0,0,0]) (cL U U U U) ae26 Tryz.underlying24 (by kernel_rfl) U U U U U (bO aD U U U (aG U U (aB (s_3 (aR ((bP (aW (L1:= []) U (.tmp U .nil) (.refl _) aM ?_)))))))))
 exact⟨by rw [decide_eq_true e19],rfl⟩
def cutX (h:HdM):HdM:= { h with ex:=h.ex.take 100 }
theorem cutX_ok {h:HdM} (k:h.Ok):(cutX h).Ok:=⟨k.pa,k.om,k.co,k.st,k.tx,k.rc,k.bl,k.df,k.mx,k.no,k.bf,k.wd,k.be⟩
theorem cutX_ex (h:HdM):(cutX h).ex.length≤100:=by simp only [cutX,List.length_take];omega
def famP (C D:List Value) (l k:Value):List (List Value):= [C,D,[l],[k]]
def FamR (N:Heaplet) (q:PlanM) (h:HdM) (xs:List (HdM×Value)) (ks:List (List UInt8)) (cs:List Value):Prop:= ∃(C:List Value) (hv:Value) (oa ko:Option Addr) (oc kc:Nat),
 cs=(famP C (h.cells hv) (.slice oa xs.length oc) (.slice ko ks.length kc)).flatten∧CfgIn N q C∧HdIn N h hv∧RSl N 556 oa xs.length oc (omC xs)∧(∀x∈xs,HdIn N x.1 x.2)∧RSl N 32 ko ks.length kc (hashC ks)∧ ∀y∈ks,y.length=32
section
variable {C D : List Value} {l k : Value}
theorem fam_lens (hC:C.length=39) (hD:D.length=556):(famP C D l k).map List.length= [39,556,1,1]:=by
 simp only [famP,List.map_cons,List.map_nil,hC,hD];rfl
theorem fam_c (hC:C.length=39) (hD:D.length=556):((famP C D l k).flatten.drop (0+0)).take 39=C:=part_get (fam_lens hC hD) (j:=0) rfl rfl hC
theorem fam_h (hC:C.length=39) (hD:D.length=556):((famP C D l k).flatten.drop (0+39)).take 556=D:=part_get (fam_lens hC hD) (j:=1) rfl rfl hD
theorem fam_l (hC:C.length=39) (hD:D.length=556):(famP C D l k).flatten[0+595]? =some l:=aP (fam_lens hC hD) (j:=2) rfl rfl
theorem fam_k (hC:C.length=39) (hD:D.length=556):(famP C D l k).flatten[0+596]? =some k:=aP (fam_lens hC hD) (j:=3) rfl rfl
end
section
variable {N : Heaplet} {h : HdM} {v : Value}
set_option maxHeartbeats 4000000 in
theorem FCut (hi:HdIn N h v):Fn Tryz.prog 23 #[.agg (h.cells v).toArray] [] [N] (fun v L=> ∃(M:Heaplet) (u:Value),v=.agg ((cutX h).cells u).toArray∧L= [M]∧HdIn M (cutX h) u):=by
 obtain⟨hk,ea,ec,rfl,hex⟩:=hi
 have hcl:=fun u=>HdM.len hk u
 refine Fn.enter (vs:= [.agg (h.cells (.slice ea h.ex.length ec)).toArray]) Tryz.func23 U U U ?_
 intro E R hR
 have hNR:=hR N (by simp)
 change At _ _ E [R] _
 refine aC fun _ s_1=>aA (op_box aZ U U U (fun N1 b1 B1=>bE aZ ze44 U (fun N2 b2 B2=>?_)))
 change Blk N2 b2 _ z44 at B2
 refine aB (s_1 (aC fun _ s_2=>aA (aI aD fl44_13 U U (aV aD sc22 U B1 (hk_x hk) mem1 U (aH aZ (.cons U (.cons U .nil)) ((KTwin_f hex 100 100 U (by decide)).liftB hNR) Tryz.func6 U U (by simp) U ?_)))))
 rintro _ _ ⟨N5,a5,c5,rfl,rfl,r5⟩
 show At _ _ _ [N5,N2,N1,R] _
 refine aI aD fl44_13 U U ?_
 refine aX nxQ sz22 U U U U U B1 (by rw [hcl];exact show 0+445+1≤556 by decide) sel2 (fun N1 B1=>?_)
 rw [hs_x hk]at B1
 refine aB (s_2 (aC fun _ s_3=>aA (aY (ds:=_) aD ag44 U B1 (by exact tk_all (hcl _)) (by exact hcl _) bZ U ?_)))
 refine aX nxQ sz44 U U U (hcl _) (HdM.one U) B2 (by rw [hcl];exact Nat.le_refl _) sel2 (fun N2 B2=>?_)
 rw [setL_whole (by rw [hcl];rfl)]at B2
 refine aB (s_3 (aR ((a7 (aW (L1:= [N5]) U (.cell U (res_agg (ds:=_) ag44 B2 (tk_all (hcl _)) (hcl _) bZ) .nil) (.cons _ (.refl _)) aM ?_)))))
 exact⟨N5,_,rfl,rfl,cutX_ok hk,a5,c5,rfl,r5.rsl⟩
end
theorem fam_end {xs:List (HdM×Value)} {ll:List HdM} {i:Nat} (hll:(xs.take 4).map (fun x=>cutX x.1)=ll) (hi:i≤xs.length) (h4:i≤4) (he:xs.length≤i∨4≤i):i=ll.length:=by
 rw [←hll,List.length_map,List.length_take];omega
theorem fam_take {xs:List (HdM×Value)} {ll:List HdM} {i:Nat} (hll:(xs.take 4).map (fun x=>cutX x.1)=ll) (hi:i≤xs.length) (h4:i≤4) (he:xs.length≤i∨4≤i):(xs.take i).map (fun x=>cutX x.1)=ll:=by
 rw [←hll,take_stop hi h4 he]
section
variable {N : Heaplet} {q : PlanM} {h : HdM} {xs : List (HdM × Value)} {ks : List (List UInt8)} {cs : List Value}
set_option maxHeartbeats 16000000 in
theorem HeadOmmers_f (hF:FamR N q h xs ks cs):Fn Tryz.prog 5 #[.agg cs.toArray] [] [N] (fun v L=>v=.bool true∧L= []):=by
 obtain⟨C,hv,oa,ko,oc,kc,rfl,hc,hh,hO,hxs,hK,k32⟩:=hF
 obtain⟨c1,c2⟩:=hc.len
 obtain⟨h1,h2⟩:=hh.one
 have z1:=hO.2.1
 have z2:=hO.2.2.1
 have z3:=hK.2.1
 have z4:=hK.2.2.1
 unfold maxLen at z2 z4
 obtain⟨ll,hll⟩: ∃ll,(xs.take 4).map (fun x=>cutX x.1)=ll:=⟨_,rfl⟩
 obtain⟨kk,hkk⟩: ∃kk,ks.take 256=kk:=⟨_,rfl⟩
 have kk32: ∀y∈kk,y.length=32:=fun y hy=>k32 y (List.mem_of_mem_take (hkk▸hy))
 obtain⟨H,hH⟩: ∃H:HdM→List UInt8, ∀o:HdM,kec o.it.form=H o:=⟨fun o=>kec o.it.form,fun _=>rfl⟩
 obtain⟨Kf,hKf⟩: ∃Kf,kec (itL (ll.map HdM.it)).form=Kf:=⟨_,rfl⟩
 have hll4:ll.length≤10:=by rw [←hll,List.length_map,List.length_take];omega
 have hlex: ∀o∈ll,o.ex.length≤1000:=fun o ho=>by
  rw [←hll]at ho
  obtain⟨x,_,rfl⟩:=List.mem_map.1 ho
  have:=cutX_ex x.1
  omega
 have hhex:=cutX_ex h
 have hkl:kk.length≤256:=by rw [←hkk,List.length_take];omega
 refine Fn.enter (vs:= [.agg (famP C (h.cells hv) (.slice oa xs.length oc) (.slice ko ks.length kc)).flatten.toArray]) Tryz.func5 U U U ?_
 intro E R hR
 have hNR:=hR N (by simp)
 have hO':=hO.le hNR
 have hK':=hK.le hNR
 change At _ _ E [R] _
 refine aC fun _ s_1=>aA (op_box aZ U U U (fun N1 b1 B1=>aG U U (aB (s_1 (aC fun _ s_2=>At.meet (fun fr_ hp_=> ∃(b3 b4:Nat) (N3 N4:Heaplet),fr_= [(3,.pointer (some ⟨b3,0,none⟩)),(4,.pointer (some ⟨b4,0,none⟩)),(5,.slice oa xs.length oc),(6,.slice ko ks.length kc)]∧hp_= [N3,N4,R]∧(Blk N3 b3 75 C)∧(Blk N4 b4 44 (h.cells hv))) ?_ (fun K2_ jk_2=>?_))))))
 rotate_left
 ·skip
  refine At.planS [N1,R] (.take 0 (.take 1 (.take 2 (.take 3 (.take 4 (.take 5 (.take 6 (.take 7 (.fork 8 false (.fork 9 false (.fork 10 false (.fork 11 false (.take 12 (.take 13 .done)) .nofork) .nofork) .nofork) (.fork 9 false (.fork 8 false (.fork 10 false (.fork 11 false (.take 12 (.take 13 .done)) .nofork) .nofork) .nofork) .nofork)))))))))) (by kernel_rfl) (by kernel_rfl) (.refl _) (aI (nxpf U U) fl77_0 U U (aY (ds:=C) (nxpf U U) ag75 U B1 (by exact fam_c c1 h1) (by exact c1) bZ U ?_))
  refine aI (nxpf U U) fl77_1 U U (aY (ds:=h.cells hv) (nxpf U U) ag44 U B1 (by exact fam_h c1 h1) (by exact h1) bZ U ?_)
  refine aI (nxpf U U) fl77_2 U U (aV (nxpf U U) sc51 U B1 (fam_l c1 h1) bZ U (aI (nxpf U U) fl77_3 U U (aV (nxpf U U) sc30 U B1 (fam_k c1 h1) bZ U (At.fork ?_ ?_))))
  rotate_left
  ·refine At.fork ?_ ?_
   rotate_left
   ·exact At.pNo
   refine bE (Nx.agree (nxpa U U)) ze44 U (fun N4 b4 B4=>?_)
   change Blk N4 b4 _ z44 at B4
   refine At.andS (.cons _ (.refl _)) (At.fork ?_ ?_)
   rotate_left
   ·exact At.pNo
   refine bE (Nx.agree (nxpa U U)) ze75 U (fun N3 b3 B3=>?_)
   change Blk N3 b3 _ [.int .u64 0,.int .u64 0,.int .u64 0,.int .u64 0,.int .u64 0,.int .u64 0,.int .u64 0,.int .u64 0,.int .u64 0,.int .u64 0,.int .u64 0,.int .u64 0,.int .u64 0,.int .u64 0,.int .u64 0,.int .u64 0,.int .u64 0,.int .u64 0,.slice none 0 0,.int .u8 0,.int .u8 0,.int .u8 0,.int .u8 0,.int .u8 0,.int .u8 0,.int .u8 0,.int .u8 0,.int .u8 0,.int .u8 0,.int .u8 0,.int .u8 0,.int .u8 0,.int .u8 0,.int .u8 0,.int .u8 0,.int .u8 0,.int .u8 0,.int .u8 0,.int .u8 0]at B3
   refine At.andS (.cons _ (.cons _ (.refl _))) (At.fork ?_ ?_)
   rotate_left
   ·exact At.pNo
   refine aX (nxpa U U) sz75 U U U c1 c2 B3 (by rw [c1];exact Nat.le_refl _) sel0 (fun N3 B3=>?_)
   rw [setL_whole (by rw [c1];rfl)]at B3
   refine At.andS (.cons _ (.cons _ (.refl _))) (At.fork ?_ ?_)
   rotate_left
   ·exact At.pNo
   refine aX (nxpa U U) sz44 U U U h1 h2 B4 (by rw [h1];exact Nat.le_refl _) sel1 (fun N4 B4=>?_)
   rw [setL_whole (by rw [h1];rfl)]at B4
   refine At.andS (.cons _ (.cons _ (.refl _))) (bX (nxpf U U) U U (bX (nxpf U U) U U (At.pDone (cA (bR (permSel1 (bR (aE (jk_2 ?_ (.refl _) ⟨b3,b4,N3,N4,rfl,rfl,B3,B4⟩)))))))))
   repeat first|apply bD|exact .nil|exact lkI rfl (by omega)|rfl
  refine bE (Nx.agree (nxpa U U)) ze75 U (fun N3 b3 B3=>?_)
  change Blk N3 b3 _ [.int .u64 0,.int .u64 0,.int .u64 0,.int .u64 0,.int .u64 0,.int .u64 0,.int .u64 0,.int .u64 0,.int .u64 0,.int .u64 0,.int .u64 0,.int .u64 0,.int .u64 0,.int .u64 0,.int .u64 0,.int .u64 0,.int .u64 0,.int .u64 0,.slice none 0 0,.int .u8 0,.int .u8 0,.int .u8 0,.int .u8 0,.int .u8 0,.int .u8 0,.int .u8 0,.int .u8 0,.int .u8 0,.int .u8 0,.int .u8 0,.int .u8 0,.int .u8 0,.int .u8 0,.int .u8 0,.int .u8 0,.int .u8 0,.int .u8 0,.int .u8 0,.int .u8 0]at B3
  refine At.andS (.cons _ (.refl _)) (At.fork ?_ ?_)
  rotate_left
  ·exact At.pNo
  refine bE (Nx.agree (nxpa U U)) ze44 U (fun N4 b4 B4=>?_)
  change Blk N4 b4 _ z44 at B4
  refine At.andS (.cons _ (.cons _ (.refl _))) (At.fork ?_ ?_)
  rotate_left
  ·exact At.pNo
  refine aX (nxpa U U) sz75 U U U c1 c2 B3 (by rw [c1];exact Nat.le_refl _) sel1 (fun N3 B3=>?_)
  rw [setL_whole (by rw [c1];rfl)]at B3
  refine At.andS (.cons _ (.cons _ (.refl _))) (At.fork ?_ ?_)
  rotate_left
  ·exact At.pNo
  refine aX (nxpa U U) sz44 U U U h1 h2 B4 (by rw [h1];exact Nat.le_refl _) sel1 (fun N4 B4=>?_)
  rw [setL_whole (by rw [h1];rfl)]at B4
  refine At.andS (.cons _ (.cons _ (.refl _))) (bX (nxpf U U) U U (bX (nxpf U U) U U (At.pDone (cA (bR (permSel1 (bR (aE (jk_2 ?_ (.refl _) ⟨b3,b4,N3,N4,rfl,rfl,B3,B4⟩)))))))))
  repeat first|apply bD|exact .nil|exact lkI rfl (by omega)|rfl
 rintro _ _ ⟨b3,b4,N3,N4,rfl,rfl,B3,B4⟩
 refine s_2 (aC fun _ s_3=>aA (aG U U (aG U U (aB (s_3 (aC fun _ s_4=>At.meet (fun fr_ hp_=> ∃(i:Nat) (a:Option Addr) (c:Nat) (ys:List (HdM×Value)) (a2:Option Addr) (c2':Nat) (zs:List (HdM×Value)) (Na NJ Nb NK:Heaplet),fr_= [(3,.pointer (some ⟨b3,0,none⟩)),(4,.pointer (some ⟨b4,0,none⟩)),(6,.slice ko ks.length kc),(7,.slice a i c),(8,.slice a2 i c2')]∧hp_= [Na,NJ,Nb,NK,N3,N4,R]∧(i=ll.length)∧(Row Na 44 556 a i c (omC ys))∧(∀K:Heaplet,NJ.le K→ ∀x∈ys,HdIn K x.1 x.2)∧(ys.map Prod.fst=ll)∧(Row Nb 44 556 a2 i c2' (omC zs))∧(∀K:Heaplet,NK.le K→ ∀x∈zs,HdIn K x.1 x.2)∧(zs.map Prod.fst=ll)) ?_ (fun K4_ jk_4=>?_)))))))
 rotate_left
 ·skip
  refine aC fun _ s_5=>aA (aG U U (aB (s_5 (aT (At.empty (At.empty (At.empty (At.empty (bM (bM (bM (cH (bI (bY (bM (cF (fun fr_ hp_ ms_=> ∃(i:Nat) (a:Option Addr) (c:Nat) (ys:List (HdM×Value)) (a2:Option Addr) (c2':Nat) (zs:List (HdM×Value)) (Na NJ Nb NK:Heaplet),fr_= [(3,.pointer (some ⟨b3,0,none⟩)),(4,.pointer (some ⟨b4,0,none⟩)),(5,.slice oa xs.length oc),(6,.slice ko ks.length kc),(7,.slice a i c),(8,.slice a2 i c2'),(9,.int .i64 (i:Int))]∧hp_= [Na,NJ,Nb,NK,N3,N4,R]∧xs.length- i=ms_∧(i≤xs.length)∧(i≤4)∧(Row Na 44 556 a i c (omC ys))∧(∀K:Heaplet,NJ.le K→ ∀x∈ys,HdIn K x.1 x.2)∧(ys.map Prod.fst=(xs.take i).map (fun x=>cutX x.1))∧(Row Nb 44 556 a2 i c2' (omC zs))∧(∀K:Heaplet,NK.le K→ ∀x∈zs,HdIn K x.1 x.2)∧(zs.map Prod.fst=(xs.take i).map (fun x=>cutX x.1))) ?_ aM ⟨0,none,0,[],none,0,[],nilH,nilH,nilH,nilH,rfl,rfl,rfl,Nat.zero_le _,Nat.zero_le _,Row.nil _ _ _,fun K _ x hx=>absurd hx List.not_mem_nil,rfl,Row.nil _ _ _,fun K _ x hx=>absurd hx List.not_mem_nil,rfl⟩ ?_))))))))))))))))
  ·repeat first|apply bD|exact .nil|exact lkI rfl (by omega)|rfl
  rintro _ _ _ ⟨i,a,c,ys,a2,c2',zs,Na,NJ,Nb,NK,rfl,rfl,rfl,hi,hi4,ra,hy,hym,rb,hz,hzm⟩
  refine aC fun _ s_6=>aC fun _ s_7=>aA (aF U U (aF U U (bG aD se51 U U (op_lss aD U U U (aF U U (cJ (d:=23) U (fun g23=>?_) (fun g23=>?_)))))))
  ·refine aL (cL U U U U) U U (op_lss (cL U U U U) U U U (bO aD U U U (aB (s_7 (aO U (fun c26=>?_) (fun c26=>?_))))))
   ·refine At.knowT (d:=26) U c26 ?_
    obtain⟨xh,hxi⟩: ∃x,xs[i]? =some x:=⟨_,List.getElem?_eq_getElem (by omega)⟩
    have hxin:=hxs _ (List.mem_of_getElem? hxi)
    obtain⟨hxl2,hx1⟩:=hxin.one
    refine aQ (aE (s_6 (aC fun _ s_8=>aT (aC fun _ s_9=>aA (aF U U (aF U U (aF U U (op_idxE aD se51 U U hO' (show _=(((i:Nat)):Int)from by omega) (by omega) U ?_))))))))
    refine op_loadAggE (ds:=xh.1.cells xh.2) aD ag44 U hO' (by exact flat_at (fun x:HdM×Value=>x.1.cells x.2) (omC_cells hxs) hxi) (by exact hxl2) (by omega) (by simp) U ?_
    refine aH aZ (.cons U .nil) ((FCut hxin).liftB hNR) Tryz.func23 U U (by simp) U ?_
    rintro _ _ ⟨M34,u34,rfl,rfl,i34⟩
    show At _ _ _ [M34,Na,NJ,Nb,NK,N3,N4,R] _
    obtain⟨l34,o34⟩:=i34.one
    refine op_lit aZ Tryz.underlying51 ze44 sz44 (.cons rfl .nil) rfl rfl (by(intro p hp;rw [List.mem_singleton.1 hp];exact l34)) rfl rfl rfl (fun N35 a35 r35=>?_)
    simp only [flatV,List.flatMap_cons,List.flatMap_nil,Value.cells,List.append_nil,List.cons_append,List.nil_append]at r35
    have s35:=r35.rsl
    have s35:RSl N35 556 a35 1 1 (omC [(cutX xh.1,u34)]):=by
     have:=r35.rsl
     simp only [omC,List.flatMap_cons,List.flatMap_nil,List.append_nil]
     exact this
    refine op_append nxQ Tryz.underlying51 Tryz.underlying51 te44 rfl rfl ra s35 (by simp) (om_one (fun x hx=>by rw [List.mem_singleton.1 hx];obtain⟨_,ea,ec,e,_⟩:=i34;rw [e];rfl)) (by omega) (by omega) sel2 rfl (fun N36 a36 p36 r36=>?_)
    have s36:=r36.rsl
    rw [omC,omC, ←List.flatMap_append]at r36
    change Row N36 _ 556 a36 (i+1) p36 (omC (ys++ [(cutX xh.1,u34)]))at r36
    refine aG U U (aB (s_9 (aA (aF U U (aF U U (aF U U (op_idxE aD se51 U U hO' (show _=(((i:Nat)):Int)from by omega) (by omega) U ?_)))))))
    refine op_loadAggE (ds:=xh.1.cells xh.2) aD ag44 U hO' (by exact flat_at (fun x:HdM×Value=>x.1.cells x.2) (omC_cells hxs) hxi) (by exact hxl2) (by omega) (by simp) U ?_
    refine aH aZ (.cons U .nil) ((FCut hxin).liftB hNR) Tryz.func23 U U (by simp) U ?_
    rintro _ _ ⟨M42,u42,rfl,rfl,i42⟩
    show At _ _ _ [M42,N36,N35,M34,NJ,Nb,NK,N3,N4,R] _
    obtain⟨l42,o42⟩:=i42.one
    refine op_lit aZ Tryz.underlying51 ze44 sz44 (.cons rfl .nil) rfl rfl (by(intro p hp;rw [List.mem_singleton.1 hp];exact l42)) rfl rfl rfl (fun N43 a43 r43=>?_)
    simp only [flatV,List.flatMap_cons,List.flatMap_nil,Value.cells,List.append_nil,List.cons_append,List.nil_append]at r43
    have s43:=r43.rsl
    have s43:RSl N43 556 a43 1 1 (omC [(cutX xh.1,u42)]):=by
     have:=r43.rsl
     simp only [omC,List.flatMap_cons,List.flatMap_nil,List.append_nil]
     exact this
    refine op_append nxQ Tryz.underlying51 Tryz.underlying51 te44 rfl rfl rb s43 (by simp) (om_one (fun x hx=>by rw [List.mem_singleton.1 hx];obtain⟨_,ea,ec,e,_⟩:=i42;rw [e];rfl)) (by omega) (by omega) sel6 rfl (fun N44 a44 p44 r44=>?_)
    have s44:=r44.rsl
    rw [omC,omC, ←List.flatMap_append]at r44
    change Row N44 _ 556 a44 (i+1) p44 (omC (zs++ [(cutX xh.1,u42)]))at r44
    refine aG U U (At.opsNil (a0 (aE (s_8 (aA (aF U U (a6 aD U U (by omega) (by omega) U (aG U U (aB (bB (bB (bB (bB (bL (bL (bL (bL (bL (bJ (bB (At.mergeN (fun W W1 W2=>bJ (bJ (bJ (bL (bL (bN (bN (bN (bL (bJ (At.mergeN (fun X X1 X2=>dropAt5 (dropAt3 (bM (bM (bM (cH (bY (bY (bM ?_)))))))))))))))))))))))))))))))))))))))))
    refine bQ ?_ aM ⟨i+1,a36,p36,ys++ [(cutX xh.1,u34)],a44,p44,zs++ [(cutX xh.1,u42)],N36,W,N44,X,rfl,rfl,rfl,by omega,by omega,r36,hd_up hy i34 W1 W2,by rw [take_next2 hxi,List.map_append,List.map_append,hym];rfl,r44,hd_up hz i42 X1 X2,by rw [take_next2 hxi,List.map_append,List.map_append,hzm];rfl⟩ ?_
    ·repeat first|apply bD|exact .nil|exact lkI rfl (by omega)|rfl
    ·omega
   refine At.knowF (d:=26) U c26 (bW (aK (aK (bH (aE (jk_4 ?_ aM ⟨i,a,c,ys,a2,c2',zs,Na,NJ,Nb,NK,rfl,rfl,fam_end hll hi hi4 (by omega),ra,hy,hym.trans (fam_take hll hi hi4 (by omega)),rb,hz,hzm.trans (fam_take hll hi hi4 (by omega))⟩))))))
   repeat first|apply bD|exact .nil|exact lkI rfl (by omega)|rfl
  refine aU U U U U U U U (aU U U U U U U U (cB aD U U U (aB (s_7 (At.condF U (bW (aK (aK (bH (aE (jk_4 ?_ aM ⟨i,a,c,ys,a2,c2',zs,Na,NJ,Nb,NK,rfl,rfl,fam_end hll hi hi4 (by omega),ra,hy,hym.trans (fam_take hll hi hi4 (by omega)),rb,hz,hzm.trans (fam_take hll hi hi4 (by omega))⟩)))))))))))
  repeat first|apply bD|exact .nil|exact lkI rfl (by omega)|rfl
 rintro _ _ ⟨i,a,c,ys,a2,c2',zs,Na,NJ,Nb,NK,rfl,rfl,hil,ra,hy,hym,rb,hz,hzm⟩
 refine s_4 (aC fun _ s_10=>?_)
 subst hil
 refine aA (aF U U (aG U U (aB (s_10 (aC fun _ s_11=>At.meet (fun fr_ hp_=> ∃(k2 kc2:Nat),fr_= [(3,.pointer (some ⟨b3,0,none⟩)),(4,.pointer (some ⟨b4,0,none⟩)),(7,.slice a ll.length c),(8,.slice a2 ll.length c2'),(10,.slice ko k2 kc2)]∧hp_= [Na,NJ,Nb,NK,N3,N4,R]∧(k2=kk.length)∧(RSl R 32 ko k2 kc2 (hashC kk))) ?_ (fun K11_ jk_11=>?_))))))
 rotate_left
 ·skip
  refine aC fun _ s_12=>aA (aF U U (bG aD se30 U U (op_gtr aD U U U (aB (s_12 (aO U (fun c48=>?_) (fun c48=>?_)))))))
  ·refine At.knowT (d:=48) U c48 (aA (aF U U (op_slice0 aD se30 U (.some U (show _=(((256:Nat)):Int)from by omega)) .none (by omega) (by omega) (by simp) U ?_)))
   refine aG U U (At.opsNil ?_)
   refine aE (jk_11 ?_ aM ⟨256,kc,rfl,rfl,by rw [←hkk,List.length_take];omega,by rw [←hkk, ←hs_take k32];exact hK'.take (hi:=256) (m:=kc) (by omega) (by omega) (by omega)⟩)
   repeat first|apply bD|exact .nil|exact lkI rfl (by omega)|rfl
  refine At.knowF (d:=48) U c48 (aQ ?_)
  refine aE (jk_11 ?_ aM ⟨ks.length,kc,rfl,rfl,by rw [←hkk,List.length_take];omega,by rw [←hkk,List.take_of_length_le (by omega)];exact hK'⟩)
  repeat first|apply bD|exact .nil|exact lkI rfl (by omega)|rfl
 rintro _ _ ⟨k2,kc2,rfl,rfl,hk2,sk⟩
 refine s_11 (aC fun _ s_13=>?_)
 subst hk2
 refine At.planS [Na,NJ,Nb,NK,N3,N4,R] (.take 0 (.take 2 (.take 4 (.take 6 (.take 9 (.take 11 (.take 13 (.take 14 (.fork 1 false (.fork 3 false (.fork 5 false (.fork 7 false (.fork 8 false (.fork 10 false (.fork 12 false (.fork 15 true (.take 16 (.take 17 (.fork 18 true (.take 19 (.take 20 .done)) .nofork))) .nofork) .nofork) .nofork) .nofork) .nofork) .nofork) (.fork 5 false (.fork 3 false (.fork 7 false (.fork 8 false (.fork 10 false (.fork 12 false (.fork 15 true (.take 16 (.take 17 (.fork 18 true (.take 19 (.take 20 .done)) .nofork))) .nofork) .nofork) .nofork) .nofork) .nofork) .nofork) .nofork)) (.fork 5 false (.fork 1 false (.fork 3 false (.fork 7 false (.fork 8 false (.fork 10 false (.fork 12 false (.fork 15 true (.take 16 (.take 17 (.fork 18 true (.take 19 (.take 20 .done)) .nofork))) .nofork) .nofork) .nofork) .nofork) .nofork) .nofork) .nofork) .nofork)))))))))) (by kernel_rfl) (by kernel_rfl) (.refl _) (aY (ds:=C) (nxpf U U) ag75 U B3 (by exact tk_all c1) (by exact c1) mem4 U ?_)
 refine aY (ds:=h.cells hv) (nxpf U U) ag44 U B4 (by exact tk_all h1) (by exact h1) mem5 U ?_
 refine aL (nxpf U U) U U (aL (nxpf U U) U U (aY (ds:=C) (nxpf U U) ag75 U B3 (by exact tk_all c1) (by exact c1) mem4 U ?_))
 refine aY (ds:=h.cells hv) (nxpf U U) ag44 U B4 (by exact tk_all h1) (by exact h1) mem5 U ?_
 refine aL (nxpf U U) U U (aL (nxpf U U) U U (At.fork ?_ ?_))
 rotate_left
 ·refine At.fork ?_ ?_
  rotate_left
  ·exact At.pNo
  refine op_lit (Nx.agree (nxpa U U)) Tryz.underlying30 ze40 sz40 .nil U U (by simp [Value.cells]) U U U (fun N56 a56 r56=>?_)
  simp only [flatV,List.flatMap_cons,List.flatMap_nil,Value.cells,List.append_nil,List.cons_append,List.nil_append]at r56
  have s56:=r56.rsl
  refine At.andS (.cons _ (.refl _)) (At.fork ?_ ?_)
  rotate_left
  ·exact At.pNo
  refine aH (Nx.agree (nxpa U U)) (.cons U .nil) ((FTw_g hc).liftB hNR) Tryz.func25 U U (by simp) U ?_
  rintro _ _ ⟨M52,C52,rfl,rfl,q52⟩
  show At _ _ _ [M52,N56,Na,NJ,Nb,NK,N3,N4,R] _
  refine At.andS (.cons _ (.cons _ (.refl _))) (At.fork ?_ ?_)
  rotate_left
  ·exact At.pNo
  refine aH (Nx.agree (nxpa U U)) (.cons U .nil) ((FCut hh).liftB hNR) Tryz.func23 U U (by simp) U ?_
  rintro _ _ ⟨M54,u54,rfl,rfl,i54⟩
  show At _ _ _ [M54,M52,N56,Na,NJ,Nb,NK,N3,N4,R] _
  refine At.andS (.cons _ (.cons _ (.cons _ (.refl _)))) (At.fork ?_ ?_)
  rotate_left
  ·exact At.pNo
  refine op_append (nxpa U U) Tryz.underlying30 Tryz.underlying30 te40 U U r56 sk (by simp) (hashC_one _) (by omega) (by omega) sel2 U (fun N58 a58 p58 r58=>?_)
  have s58:=r58.rsl
  refine At.andS (.cons _ (.cons _ (.cons _ (.refl _)))) (At.fork ?_ ?_)
  rotate_left
  ·exact At.pNo
  refine aH (Nx.agree (nxpa U U)) (.cons U (.cons U (.cons U (.cons U .nil)))) (Fn.overJ (Ns:= [M52,M54,Na,NJ,N58]) fun K hK=>FOmmers (q52.le (hK _ (by simp))) (i54.le (hK _ (by simp))) (by omega) (ra.rsl.le (hK _ (by simp))) (hy K (hK _ (by simp))) hym hlex hll4 (r58.rsl.le (hK _ (by simp))) (by omega) kk32 hH hKf) Tryz.func24 U U (by simp) U ?_
  rintro _ _ ⟨r1,rfl,om1,rfl⟩
  show At _ _ _ [N58,M54,M52,Na,NJ,Nb,NK,N3,N4,R] _
  refine At.andS (.cons _ (.cons _ (.cons _ (.refl _)))) (At.fork ?_ ?_)
  rotate_left
  ·exact At.pNo
  refine aH (Nx.agree (nxpa U U)) (.cons U .nil) ((FTw_g hc).liftB hNR) Tryz.func25 U U (by simp) U ?_
  rintro _ _ ⟨M61,C61,rfl,rfl,q61⟩
  show At _ _ _ [M61,N58,M54,M52,Na,NJ,Nb,NK,N3,N4,R] _
  refine At.andS (.cons _ (.cons _ (.cons _ (.cons _ (.refl _))))) (At.fork ?_ ?_)
  rotate_left
  ·exact At.pNo
  refine aH (Nx.agree (nxpa U U)) (.cons U .nil) ((FCut hh).liftB hNR) Tryz.func23 U U (by simp) U ?_
  rintro _ _ ⟨M63,u63,rfl,rfl,i63⟩
  show At _ _ _ [M63,M61,N58,M54,M52,Na,NJ,Nb,NK,N3,N4,R] _
  refine At.andS (.cons _ (.cons _ (.cons _ (.cons _ (.cons _ (.refl _)))))) (At.fork ?_ ?_)
  rotate_left
  ·exact At.pNo
  refine aH (Nx.agree (nxpa U U)) (.cons U (.cons U (.cons U (.cons U .nil)))) (Fn.overJ (Ns:= [M61,M63,Nb,NK,R]) fun K hK=>ROmmers (q61.le (hK _ (by simp))) (i63.le (hK _ (by simp))) (by omega) (rb.rsl.le (hK _ (by simp))) (hz K (hK _ (by simp))) hzm hlex hll4 (sk.le (hK _ (by simp))) U kk32 hH hKf) Tryz.func26 U U (by simp) U ?_
  rintro _ _ ⟨r2,rfl,om2,rfl⟩
  show At _ _ _ [M63,M61,N58,M54,M52,Na,NJ,Nb,NK,N3,N4,R] _
  obtain rfl:=om1.same om2
  refine At.andS (.cons _ (.cons _ (.cons _ (.cons _ (.cons _ (.refl _)))))) (op_eql (nxpf U U) U U U (aL (nxpf U U) U U (At.fork ?_ ?_)))
  rotate_left
  ·exact At.pNo
  refine cJ (d:=68) U (fun g68=>?_) (fun g68=>?_)
  ·refine aH (Nx.agree (nxpga U U U U U)) .nil (Hwakes_f) Tryz.func27 U U (by simp) U ?_
   rintro _ _ ⟨rfl,rfl⟩
   show At _ _ _ [M63,M61,N58,M54,M52,Na,NJ,Nb,NK,N3,N4,R] _
   refine At.andS (.cons _ (.cons _ (.cons _ (.cons _ (.cons _ (.refl _)))))) (bO (nxpf U U) U U U (bX (nxpf U U) U U (At.pDone (aE (s_13 (aR ((dropAt10 (dropAt9 (dropAt8 (dropAt7 (dropAt6 (dropAt5 (dropAt4 (dropAt3 (cA (a7 (bP (aW (L1:= []) U (.tmp U .nil) (.refl _) (.refl _) ?_)))))))))))))))))))
   exact⟨rfl,rfl⟩
  ·exact absurd U g68
 refine aH (Nx.agree (nxpa U U)) (.cons U .nil) ((FTw_g hc).liftB hNR) Tryz.func25 U U (by simp) U ?_
 rintro _ _ ⟨M52,C52,rfl,rfl,q52⟩
 show At _ _ _ [M52,Na,NJ,Nb,NK,N3,N4,R] _
 refine At.andS (.cons _ (.refl _)) (At.fork ?_ ?_)
 rotate_left
 ·refine At.fork ?_ ?_
  rotate_left
  ·exact At.pNo
  refine op_lit (Nx.agree (nxpa U U)) Tryz.underlying30 ze40 sz40 .nil U U (by simp [Value.cells]) U U U (fun N56 a56 r56=>?_)
  simp only [flatV,List.flatMap_cons,List.flatMap_nil,Value.cells,List.append_nil,List.cons_append,List.nil_append]at r56
  have s56:=r56.rsl
  refine At.andS (.cons _ (.cons _ (.refl _))) (At.fork ?_ ?_)
  rotate_left
  ·exact At.pNo
  refine aH (Nx.agree (nxpa U U)) (.cons U .nil) ((FCut hh).liftB hNR) Tryz.func23 U U (by simp) U ?_
  rintro _ _ ⟨M54,u54,rfl,rfl,i54⟩
  show At _ _ _ [M54,N56,M52,Na,NJ,Nb,NK,N3,N4,R] _
  refine At.andS (.cons _ (.cons _ (.cons _ (.refl _)))) (At.fork ?_ ?_)
  rotate_left
  ·exact At.pNo
  refine op_append (nxpa U U) Tryz.underlying30 Tryz.underlying30 te40 U U r56 sk (by simp) (hashC_one _) (by omega) (by omega) sel1 U (fun N58 a58 p58 r58=>?_)
  have s58:=r58.rsl
  refine At.andS (.cons _ (.cons _ (.cons _ (.refl _)))) (At.fork ?_ ?_)
  rotate_left
  ·exact At.pNo
  refine aH (Nx.agree (nxpa U U)) (.cons U (.cons U (.cons U (.cons U .nil)))) (Fn.overJ (Ns:= [M52,M54,Na,NJ,N58]) fun K hK=>FOmmers (q52.le (hK _ (by simp))) (i54.le (hK _ (by simp))) (by omega) (ra.rsl.le (hK _ (by simp))) (hy K (hK _ (by simp))) hym hlex hll4 (r58.rsl.le (hK _ (by simp))) (by omega) kk32 hH hKf) Tryz.func24 U U (by simp) U ?_
  rintro _ _ ⟨r1,rfl,om1,rfl⟩
  show At _ _ _ [N58,M54,M52,Na,NJ,Nb,NK,N3,N4,R] _
  refine At.andS (.cons _ (.cons _ (.cons _ (.refl _)))) (At.fork ?_ ?_)
  rotate_left
  ·exact At.pNo
  refine aH (Nx.agree (nxpa U U)) (.cons U .nil) ((FTw_g hc).liftB hNR) Tryz.func25 U U (by simp) U ?_
  rintro _ _ ⟨M61,C61,rfl,rfl,q61⟩
  show At _ _ _ [M61,N58,M54,M52,Na,NJ,Nb,NK,N3,N4,R] _
  refine At.andS (.cons _ (.cons _ (.cons _ (.cons _ (.refl _))))) (At.fork ?_ ?_)
  rotate_left
  ·exact At.pNo
  refine aH (Nx.agree (nxpa U U)) (.cons U .nil) ((FCut hh).liftB hNR) Tryz.func23 U U (by simp) U ?_
  rintro _ _ ⟨M63,u63,rfl,rfl,i63⟩
  show At _ _ _ [M63,M61,N58,M54,M52,Na,NJ,Nb,NK,N3,N4,R] _
  refine At.andS (.cons _ (.cons _ (.cons _ (.cons _ (.cons _ (.refl _)))))) (At.fork ?_ ?_)
  rotate_left
  ·exact At.pNo
  refine aH (Nx.agree (nxpa U U)) (.cons U (.cons U (.cons U (.cons U .nil)))) (Fn.overJ (Ns:= [M61,M63,Nb,NK,R]) fun K hK=>ROmmers (q61.le (hK _ (by simp))) (i63.le (hK _ (by simp))) (by omega) (rb.rsl.le (hK _ (by simp))) (hz K (hK _ (by simp))) hzm hlex hll4 (sk.le (hK _ (by simp))) U kk32 hH hKf) Tryz.func26 U U (by simp) U ?_
  rintro _ _ ⟨r2,rfl,om2,rfl⟩
  show At _ _ _ [M63,M61,N58,M54,M52,Na,NJ,Nb,NK,N3,N4,R] _
  obtain rfl:=om1.same om2
  refine At.andS (.cons _ (.cons _ (.cons _ (.cons _ (.cons _ (.refl _)))))) (op_eql (nxpf U U) U U U (aL (nxpf U U) U U (At.fork ?_ ?_)))
  rotate_left
  ·exact At.pNo
  refine cJ (d:=68) U (fun g68=>?_) (fun g68=>?_)
  ·refine aH (Nx.agree (nxpga U U U U U)) .nil (Hwakes_f) Tryz.func27 U U (by simp) U ?_
   rintro _ _ ⟨rfl,rfl⟩
   show At _ _ _ [M63,M61,N58,M54,M52,Na,NJ,Nb,NK,N3,N4,R] _
   refine At.andS (.cons _ (.cons _ (.cons _ (.cons _ (.cons _ (.refl _)))))) (bO (nxpf U U) U U U (bX (nxpf U U) U U (At.pDone (aE (s_13 (aR ((dropAt10 (dropAt9 (dropAt8 (dropAt7 (dropAt6 (dropAt5 (dropAt4 (dropAt3 (cA (a7 (bP (aW (L1:= []) U (.tmp U .nil) (.refl _) (.refl _) ?_)))))))))))))))))))
   exact⟨rfl,rfl⟩
  ·exact absurd U g68
 refine aH (Nx.agree (nxpa U U)) (.cons U .nil) ((FCut hh).liftB hNR) Tryz.func23 U U (by simp) U ?_
 rintro _ _ ⟨M54,u54,rfl,rfl,i54⟩
 show At _ _ _ [M54,M52,Na,NJ,Nb,NK,N3,N4,R] _
 refine At.andS (.cons _ (.cons _ (.refl _))) (At.fork ?_ ?_)
 rotate_left
 ·exact At.pNo
 refine op_lit (Nx.agree (nxpa U U)) Tryz.underlying30 ze40 sz40 .nil U U (by simp [Value.cells]) U U U (fun N56 a56 r56=>?_)
 simp only [flatV,List.flatMap_cons,List.flatMap_nil,Value.cells,List.append_nil,List.cons_append,List.nil_append]at r56
 have s56:=r56.rsl
 refine At.andS (.cons _ (.cons _ (.cons _ (.refl _)))) (At.fork ?_ ?_)
 rotate_left
 ·exact At.pNo
 refine op_append (nxpa U U) Tryz.underlying30 Tryz.underlying30 te40 U U r56 sk (by simp) (hashC_one _) (by omega) (by omega) sel0 U (fun N58 a58 p58 r58=>?_)
 have s58:=r58.rsl
 refine At.andS (.cons _ (.cons _ (.cons _ (.refl _)))) (At.fork ?_ ?_)
 rotate_left
 ·exact At.pNo
 refine aH (Nx.agree (nxpa U U)) (.cons U (.cons U (.cons U (.cons U .nil)))) (Fn.overJ (Ns:= [M52,M54,Na,NJ,N58]) fun K hK=>FOmmers (q52.le (hK _ (by simp))) (i54.le (hK _ (by simp))) (by omega) (ra.rsl.le (hK _ (by simp))) (hy K (hK _ (by simp))) hym hlex hll4 (r58.rsl.le (hK _ (by simp))) (by omega) kk32 hH hKf) Tryz.func24 U U (by simp) U ?_
 rintro _ _ ⟨r1,rfl,om1,rfl⟩
 show At _ _ _ [N58,M54,M52,Na,NJ,Nb,NK,N3,N4,R] _
 refine At.andS (.cons _ (.cons _ (.cons _ (.refl _)))) (At.fork ?_ ?_)
 rotate_left
 ·exact At.pNo
 refine aH (Nx.agree (nxpa U U)) (.cons U .nil) ((FTw_g hc).liftB hNR) Tryz.func25 U U (by simp) U ?_
 rintro _ _ ⟨M61,C61,rfl,rfl,q61⟩
 show At _ _ _ [M61,N58,M54,M52,Na,NJ,Nb,NK,N3,N4,R] _
 refine At.andS (.cons _ (.cons _ (.cons _ (.cons _ (.refl _))))) (At.fork ?_ ?_)
 rotate_left
 ·exact At.pNo
 refine aH (Nx.agree (nxpa U U)) (.cons U .nil) ((FCut hh).liftB hNR) Tryz.func23 U U (by simp) U ?_
 rintro _ _ ⟨M63,u63,rfl,rfl,i63⟩
 show At _ _ _ [M63,M61,N58,M54,M52,Na,NJ,Nb,NK,N3,N4,R] _
 refine At.andS (.cons _ (.cons _ (.cons _ (.cons _ (.cons _ (.refl _)))))) (At.fork ?_ ?_)
 rotate_left
 ·exact At.pNo
 refine aH (Nx.agree (nxpa U U)) (.cons U (.cons U (.cons U (.cons U .nil)))) (Fn.overJ (Ns:= [M61,M63,Nb,NK,R]) fun K hK=>ROmmers (q61.le (hK _ (by simp))) (i63.le (hK _ (by simp))) (by omega) (rb.rsl.le (hK _ (by simp))) (hz K (hK _ (by simp))) hzm hlex hll4 (sk.le (hK _ (by simp))) U kk32 hH hKf) Tryz.func26 U U (by simp) U ?_
 rintro _ _ ⟨r2,rfl,om2,rfl⟩
 show At _ _ _ [M63,M61,N58,M54,M52,Na,NJ,Nb,NK,N3,N4,R] _
 obtain rfl:=om1.same om2
 refine At.andS (.cons _ (.cons _ (.cons _ (.cons _ (.cons _ (.refl _)))))) (op_eql (nxpf U U) U U U (aL (nxpf U U) U U (At.fork ?_ ?_)))
 rotate_left
 ·exact At.pNo
 refine cJ (d:=68) U (fun g68=>?_) (fun g68=>?_)
 ·refine aH (Nx.agree (nxpga U U U U U)) .nil (Hwakes_f) Tryz.func27 U U (by simp) U ?_
  rintro _ _ ⟨rfl,rfl⟩
  show At _ _ _ [M63,M61,N58,M54,M52,Na,NJ,Nb,NK,N3,N4,R] _
  refine At.andS (.cons _ (.cons _ (.cons _ (.cons _ (.cons _ (.refl _)))))) (bO (nxpf U U) U U U (bX (nxpf U U) U U (At.pDone (aE (s_13 (aR ((dropAt10 (dropAt9 (dropAt8 (dropAt7 (dropAt6 (dropAt5 (dropAt4 (dropAt3 (cA (a7 (bP (aW (L1:= []) U (.tmp U .nil) (.refl _) (.refl _) ?_)))))))))))))))))))
  exact⟨rfl,rfl⟩
 ·exact absurd U g68
end
open Go Go.RowKit Go.ChangeShapes Go.WideShapes Go.Deep
section
variable {H : Type} {enc : TypeId × Value → H} {w : World} {spare : Nat → Bool} {held : Bool}
theorem words_open {P:Program} {t e:TypeId} {k fuel:Nat} {cs:List Value} {x:DataW H×List MemPlace} (ht:P.underlying t=some (.array k e)) (he:P.underlying e=some (.int .u64)) (hk:P.cellsOf t=k) (hc:P.cellsOf e=1) (h:DataW.trod enc P w 0 spare held fuel t cs=some x): ∃l:List UInt64,l.length=k∧cs=u64s l:=by
 obtain⟨xs,m,_,_,hl,hlen,hx⟩:=DataW.trod_array ht h
 have hl':cs.length=k:=hl.trans hk
 obtain⟨l,h1,h2⟩:=words_of_cells cs fun i hi=>by
  have h:=hx i (by omega)
  rw [List.getElem?_eq_getElem (by omega),hc,Nat.mul_one]at h
  exact open_u64c he h
 exact⟨l,h1.trans hl',h2⟩
theorem addrs_open {n:Nat} {C:Nat→List Value} (h: ∀i,i<n→ ∃l:List UInt8,l.length=20∧C i=u8s l): ∃fr:List (List UInt8),(List.range n).flatMap C=fr.flatMap u8s∧fr.length=n∧ ∀a∈fr,a.length=20:=by
 induction n with
 |zero=>exact⟨[],rfl,rfl,fun a ha=>absurd ha List.not_mem_nil⟩
 |succ n ih=>
  obtain⟨fr,e,hl,h20⟩:=ih fun i hi=>h i (by omega)
  obtain⟨l,h1,h2⟩:=h n (by omega)
  refine⟨fr++ [l],?_,by simp [hl],fun a ha=>?_⟩
  ·simp only [List.range_succ,List.flatMap_append,List.flatMap_cons,List.flatMap_nil,List.append_nil,e,h2]
  ·rcases List.mem_append.1 ha with ha|ha
   ·exact h20 a ha
   ·rw [List.mem_singleton.1 ha];exact h1
theorem cut39 {cs:List Value} (h:cs.length=39):cs=(cs.drop 0).take 1++((cs.drop 1).take 14++((cs.drop 15).take 2++((cs.drop 17).take 1++((cs.drop 18).take 1++(cs.drop 19).take 20)))):=by
 have t: ∀(a b:Nat) (l:List Value),l=l.take a++l.drop a:=fun a _ l=>(List.take_append_drop a l).symm
 have e1:=(List.take_append_drop 1 cs).symm
 have e2:=(List.take_append_drop 14 (cs.drop 1)).symm
 have e3:=(List.take_append_drop 2 (cs.drop 15)).symm
 have e4:=(List.take_append_drop 1 (cs.drop 17)).symm
 have e5:=(List.take_append_drop 1 (cs.drop 18)).symm
 rw [List.drop_drop]at e2 e3 e4 e5
 rw [List.drop_zero]
 conv=>lhs;rw [e1,e2,show 1+14=15 from rfl,e3,show 15+2=17 from rfl,e4,show 17+1=18 from rfl,e5,show 18+1=19 from rfl]
 rw [List.take_of_length_le (l:=cs.drop 19) (by rw [List.length_drop];omega)]
theorem cfg_cells {fuel:Nat} {cs:List Value} {x:DataW H×List MemPlace} (h:DataW.trod enc Tryz.prog w 0 spare held fuel 75 cs=some x):
 ∃ch dao bl ti ao n cap tw, ∃fr:List (List UInt8),bl.length=14∧ti.length=2∧tw.length=20∧cs=cfg ch dao bl ti ao n cap tw∧RSl (whole w) 20 ao n cap (fr.flatMap u8s)∧fr.length=n∧ ∀a∈fr,a.length=20:=by
 obtain⟨hl,n,hx⟩:=struct_open' Tryz.underlying75 h
 have hl':cs.length=39:=hl.trans (by kernel_rfl)
 obtain⟨y0,h0⟩: ∃y,DataW.trod enc Tryz.prog w 0 spare held n 24 ((cs.drop 0).take (Tryz.prog.cellsOf 24))=some y:=hx 0 _ rfl
 obtain⟨y1,h1⟩: ∃y,DataW.trod enc Tryz.prog w 0 spare held n 71 ((cs.drop 1).take (Tryz.prog.cellsOf 71))=some y:=hx 1 _ rfl
 obtain⟨y2,h2⟩: ∃y,DataW.trod enc Tryz.prog w 0 spare held n 72 ((cs.drop 15).take (Tryz.prog.cellsOf 72))=some y:=hx 2 _ rfl
 obtain⟨y3,h3⟩: ∃y,DataW.trod enc Tryz.prog w 0 spare held n 24 ((cs.drop 17).take (Tryz.prog.cellsOf 24))=some y:=hx 3 _ rfl
 obtain⟨y4,h4⟩: ∃y,DataW.trod enc Tryz.prog w 0 spare held n 73 ((cs.drop 18).take (Tryz.prog.cellsOf 73))=some y:=hx 4 _ rfl
 obtain⟨y5,h5⟩: ∃y,DataW.trod enc Tryz.prog w 0 spare held n 28 ((cs.drop 19).take (Tryz.prog.cellsOf 28))=some y:=hx 5 _ rfl
 have c1:Tryz.prog.cellsOf 24=1:=by kernel_rfl
 have c14:Tryz.prog.cellsOf 71=14:=by kernel_rfl
 have c2:Tryz.prog.cellsOf 72=2:=by kernel_rfl
 have cs1:Tryz.prog.cellsOf 73=1:=by kernel_rfl
 have c20:Tryz.prog.cellsOf 28=20:=by kernel_rfl
 obtain⟨ch,e0⟩:=open_u64c Tryz.underlying24 h0
 obtain⟨bl,hb,e1⟩:=words_open Tryz.underlying71 Tryz.underlying24 c14 c1 h1
 obtain⟨ti,ht,e2⟩:=words_open Tryz.underlying72 Tryz.underlying24 c2 c1 h2
 obtain⟨dao,e3⟩:=open_u64c Tryz.underlying24 h3
 obtain⟨ai,ni,ci,C,m,hc2,hr,hm,hC⟩:=open_rsl Tryz.underlying73 (by rw [c20];decide) h4
 rw [c20]at hr
 obtain⟨fr,ef,hfl,h20⟩:=addrs_open (n:=ni) (C:=C) fun i hi=>by
  obtain⟨_,y,hy⟩:=hC i hi
  exact bytes_cells Tryz.underlying28 Tryz.underlying5 (by kernel_rfl) c20 hy
 rw [ef]at hr
 obtain⟨tw,ho,e5⟩:=bytes_cells Tryz.underlying28 Tryz.underlying5 (by kernel_rfl) c20 h5
 rw [c1]at e0 e3
 rw [c14]at e1
 rw [c2]at e2
 rw [cs1]at hc2
 rw [c20]at e5
 refine⟨ch,dao,bl,ti,ai,ni,ci,tw,fr,hb,ht,ho,?_,hr,hfl,h20⟩
 rw [cut39 hl',e0,e1,e2,e3,hc2,e5]
 rfl
theorem hashes_open {n:Nat} {C:Nat→List Value} (h: ∀i,i<n→ ∃l:List UInt8,l.length=32∧C i=u8s l):
 ∃hs:List (List UInt8),hs.length=n∧(List.range n).flatMap C=hashC hs∧ ∀x∈hs,x.length=32:=by
 induction n with
 |zero=>exact⟨[],rfl,rfl,fun x hx=>by cases hx⟩
 |succ n ih=>
  obtain⟨hs,h1,h2,h3⟩:=ih fun i hi=>h i (by omega)
  obtain⟨l,hl,e⟩:=h n (by omega)
  refine⟨hs++ [l],by simp [h1],?_,fun x hx=>?_⟩
  ·simp only [List.range_succ,List.flatMap_append,List.flatMap_cons,List.flatMap_nil,List.append_nil,h2,e,hashC]
  ·rcases List.mem_append.1 hx with hx|hx
   ·exact h3 x hx
   ·rw [List.mem_singleton.1 hx];exact hl
theorem hash_slice {fuel:Nat} {cs:List Value} {x:DataW H×List MemPlace} (h:DataW.trod enc Tryz.prog w 0 spare held fuel 30 cs=some x):
 ∃ao n cap hs,cs= [.slice ao n cap]∧n=hs.length∧RSl (whole w) 32 ao n cap (hashC hs)∧ ∀y∈hs,y.length=32:=by
 have hc:Tryz.prog.cellsOf 40=32:=by kernel_rfl
 obtain⟨ao,n,cap,C,m,e,hr,_,hC⟩:=open_rsl Tryz.underlying30 (by rw [hc];decide) h
 rw [hc]at hr
 obtain⟨hs,h1,h2,h3⟩:=hashes_open (n:=n) (C:=C) fun i hi=>by
  obtain⟨_,y,hy⟩:=hC i hi
  exact bytes_cells Tryz.underlying40 Tryz.underlying5 (by kernel_rfl) hc hy
 rw [h2]at hr
 exact⟨ao,n,cap,hs,e,h1.symm,hr,h3⟩
theorem open_family {r:Reach} {b0:Nat} {v:Value} {d:DataW H} {ps:List MemPlace} (hval:Value.okWide Tryz.prog w r b0 77 v) (hd:DataW.Trod enc Tryz.prog w 0 spare held 77 v d ps):
 ∃q h xs ks cs,v=.agg (List.toArray cs)∧FamR (whole w) q h xs ks cs:=by
 obtain⟨cs,rfl⟩:=okWide_structB Tryz.underlying77 hval
 obtain⟨fuel,hf⟩:=hd
 obtain⟨hl,k,hx⟩:=struct_open' Tryz.underlying77 hf
 have hl':cs.toList.length=597:=hl.trans (by kernel_rfl)
 obtain⟨y0,h0⟩: ∃y,DataW.trod enc Tryz.prog w 0 spare held k 75 ((cs.toList.drop 0).take (Tryz.prog.cellsOf 75))=some y:=hx 0 _ rfl
 rw [show Tryz.prog.cellsOf 75=39 by kernel_rfl]at h0
 obtain⟨y1,h1⟩: ∃y,DataW.trod enc Tryz.prog w 0 spare held k 44 ((cs.toList.drop 39).take (Tryz.prog.cellsOf 44))=some y:=hx 1 _ rfl
 rw [show Tryz.prog.cellsOf 44=556 by kernel_rfl]at h1
 obtain⟨y2,h2⟩: ∃y,DataW.trod enc Tryz.prog w 0 spare held k 51 ((cs.toList.drop 595).take (Tryz.prog.cellsOf 51))=some y:=hx 2 _ rfl
 rw [show Tryz.prog.cellsOf 51=1 by kernel_rfl]at h2
 obtain⟨y3,h3⟩: ∃y,DataW.trod enc Tryz.prog w 0 spare held k 30 ((cs.toList.drop 596).take (Tryz.prog.cellsOf 30))=some y:=hx 3 _ rfl
 rw [show Tryz.prog.cellsOf 30=1 by kernel_rfl]at h3
 obtain⟨ch,dao,bl,ti,ao,n,cap,tw,fr,hb,ht,ho,e0,hr,hfl,h20⟩:=cfg_cells h0
 obtain⟨h,hv,e1,hi⟩:=hd_cells h1
 obtain⟨oa,on,oc,xs,e2,ro,hxs,hon⟩:=hds_cells h2
 obtain⟨ka,kn,kc,ks,e3,hkn,rk,k32⟩:=hash_slice h3
 subst hon hkn
 refine⟨⟨bl,ti,fr⟩,h,xs,ks,cs.toList,by rw [Array.toArray_toList],cfg ch dao bl ti ao n cap tw,hv,oa,ka,oc,kc,?_,⟨ch,dao,ao,n,cap,tw,rfl,hb,ht,ho,hr,hfl,h20⟩,hi,ro,hxs,rk,k32⟩
 have e0':(cs.toList.drop 0).take 39=cfg ch dao bl ti ao n cap tw:=e0
 have e1':(cs.toList.drop 39).take 556=h.cells hv:=e1
 have e2':(cs.toList.drop 595).take 1= [.slice oa xs.length oc]:=e2
 have e3':(cs.toList.drop 596).take 1= [.slice ka ks.length kc]:=e3
 have e:cs.toList=(cs.toList.drop 0).take 39++((cs.toList.drop 39).take 556++((cs.toList.drop 595).take 1++(cs.toList.drop 596).take 1)):=by
  rw [List.take_of_length_le (show(cs.toList.drop 596).length≤1 by rw [List.length_drop];omega)]
  rw [←cut_cells _ 595 1, ←cut_cells _ 39 556, ←cut_cells _ 0 39,List.drop_zero]
 rw [e0',e1',e2',e3']at e
 rw [e]
 simp only [famP,List.flatten_cons,List.flatten_nil,List.append_nil]
end
end Go.Proofs.YtjfagifjajielaaGreat
