/- Several texts in one: see the remarks ahead of each part. No condition but those told there. -/
import Derived.Test.YtljacjjeinmfnaaU14
import Derived.Test.YtljacjjeinmfnaaU10
import Derived.Test.YtljacjjeinmfnaaU7
set_option linter.unusedSimpArgs false
set_option linter.unusedVariables false
/- Package word: shifts. No condition. -/
namespace Go.Proofs.Ytljacjjeinmfnaa
open Go Go.RowKit
def amt (n:Nat):Nat:=if n<256 then n else 256
theorem amt_le (n:Nat):amt n≤256:=by unfold amt;split<;>omega
theorem amount_y {x:Nat} (hx:x<WW) (h:x<2^64):Fn Try.prog 144 #[wo x] [] [] (fun v L=>v=.int .i64 (amt x:Int)∧L= []):=by
 refine Fn.enter (vs:= [wo x]) Try.func144 rfl rfl rfl ?_
 intro E R hR
 change At _ _ E [R] _
 refine At.seq fun _ s_1=>At.region (op_box (aV rfl) rfl rfl rfl (fun N1 b1 B1=>?_))
 change Blk N1 b1 _ (u64s (wl x))at B1
 refine aE (aC rfl) rfl rfl (aA (aB (s_1 (At.seq fun _ s_2=>At.seq fun _ s_3=>At.region ?_))))
 refine aL (ds:=u64s (wl x)) (aC rfl) ag26 rfl B1 (by first|(rw [List.drop_zero,List.take_of_length_le (by first|(simp;done)|(simp;omega))];done)|rfl) (by first|(simp;done)|(simp;omega)) aN rfl ?_
 refine aR (aV rfl) (.cons rfl .nil) (WSmall_f hx h) Try.func113 rfl rfl (by simp) rfl ?_
 rintro v7 L7 ⟨rfl,rfl⟩
 change At _ _ _ [N1,R] _
 refine aD (aC rfl) rfl rfl (aM (aC rfl) rfl rfl rfl (aM (aC rfl) rfl rfl rfl (aE (aC rfl) rfl rfl (aE (aC rfl) rfl rfl (aA (aB (s_3 (At.seq fun _ s_4=>At.region (aD (aC rfl) rfl rfl (aD (aC rfl) rfl rfl (aD (aS rfl rfl rfl rfl) rfl rfl (op_lss (aS rfl rfl rfl rfl) rfl rfl rfl (bW (aC rfl) rfl rfl rfl (aA (aB (s_4 (aP rfl (fun c14=>?_) (fun c14=>?_))))))))))))))))))
 ·refine At.seq fun _ s_5=>At.region (aD (aC rfl) rfl rfl (op_convI (aC rfl) (und_some Try.underlying24) Try.underlying3 rfl (by omega) (by omega) rfl (aE (aC rfl) rfl rfl (aA (aB (s_5 (At.ret (aT ((At.sub (L':= [R]) (.cons _ (.cons_cons _ (.slnil))) (aZ (L1:= []) rfl (.tmp rfl .nil) (.refl _) (.refl _) ?_)))))))))))
  exact⟨by rw [amt,if_pos (by omega)],rfl⟩
 refine At.skip (aB (s_2 (At.seq fun _ s_6=>At.region (aE (aC rfl) rfl rfl (aA (aB (s_6 (At.ret ((At.sub (L':= [R]) (.cons _ (.cons_cons _ (.slnil))) (aZ (L1:= []) rfl (.tmp rfl .nil) (.refl _) (.refl _) ?_)))))))))))
 exact⟨by rw [amt,if_neg (by omega)];rfl,rfl⟩
theorem amount_no {x:Nat} (hx:x<WW) (h: ¬x<2^64):Fn Try.prog 144 #[wo x] [] [] (fun v L=>v=.int .i64 (amt x:Int)∧L= []):=by
 refine Fn.enter (vs:= [wo x]) Try.func144 rfl rfl rfl ?_
 intro E R hR
 change At _ _ E [R] _
 refine At.seq fun _ s_1=>At.region (op_box (aV rfl) rfl rfl rfl (fun N1 b1 B1=>?_))
 change Blk N1 b1 _ (u64s (wl x))at B1
 refine aE (aC rfl) rfl rfl (aA (aB (s_1 (At.seq fun _ s_2=>At.seq fun _ s_3=>At.region ?_))))
 refine aL (ds:=u64s (wl x)) (aC rfl) ag26 rfl B1 (by first|(rw [List.drop_zero,List.take_of_length_le (by first|(simp;done)|(simp;omega))];done)|rfl) (by first|(simp;done)|(simp;omega)) aN rfl ?_
 refine aR (aV rfl) (.cons rfl .nil) (WSmall_no hx h) Try.func113 rfl rfl (by simp) rfl ?_
 rintro v7 L7 ⟨rfl,rfl⟩
 change At _ _ _ [N1,R] _
 refine aD (aC rfl) rfl rfl (aM (aC rfl) rfl rfl rfl (aM (aC rfl) rfl rfl rfl (aE (aC rfl) rfl rfl (aE (aC rfl) rfl rfl (aA (aB (s_3 (At.seq fun _ s_4=>At.region (aD (aC rfl) rfl rfl (aD (aC rfl) rfl rfl (aJ rfl rfl rfl rfl rfl rfl rfl (aJ rfl rfl rfl rfl rfl rfl rfl (bM (aC rfl) rfl rfl rfl (aA (aB (s_4 (At.condF rfl (At.skip (aB (s_2 (At.seq fun _ s_5=>At.region ?_)))))))))))))))))))))
 refine aE (aC rfl) rfl rfl (aA (aB (s_5 (At.ret ((At.sub (L':= [R]) (.cons _ (.cons_cons _ (.slnil))) (aZ (L1:= []) rfl (.tmp rfl .nil) (.refl _) (.refl _) ?_)))))))
 exact⟨by rw [amt,if_neg (by omega)];rfl,rfl⟩
theorem amount_f {x:Nat} (hx:x<WW):Fn Try.prog 144 #[wo x] [] [] (fun v L=>v=.int .i64 (amt x:Int)∧L= []):=by
 by_cases h:x<2^64
 ·exact amount_y hx h
 ·exact amount_no hx h
/-- The first limbs are done, the others are 0. -/
def wSt (T i:Nat):List UInt64:=(wl T).take i++List.replicate (4- i) 0
theorem length_wSt {T i:Nat} (h:i≤4):(wSt T i).length=4:=by
 rw [wSt,List.length_append,List.length_take,List.length_replicate,length_wl];omega
theorem wSt_succ {T i:Nat} {z:UInt64} (h:i<4) (hz:(wl T).getD i 0=z):wSt T (i+1)=(wSt T i).set i z:=by
 subst hz
 have hl:((wl T).take i).length=i:=by rw [List.length_take,length_wl];omega
 have hT:i<(wl T).length:=by rw [length_wl];exact h
 rw [wSt,wSt,show 4- i=(4- (i+1))+1 by omega,List.replicate_succ,List.set_append_right _ _ (by omega),hl,Nat.sub_self,List.set_cons_zero,List.take_succ_eq_append_getElem hT,List.append_assoc,List.getD_eq_getElem?_getD,List.getElem?_eq_getElem hT]
 rfl
end Go.Proofs.Ytljacjjeinmfnaa
/- word.Shl. No condition. -/
namespace Go.Proofs.Ytljacjjeinmfnaa
open Go Go.RowKit
theorem getD_set_same {l:List UInt64} {i:Nat} {z:UInt64} (h:i<l.length):(l.set i z).getD i 0=z:=by
 rw [List.getD_eq_getElem?_getD,List.getElem?_eq_getElem (by rw [List.length_set];exact h),Option.getD_some,List.getElem_set_self]
end Go.Proofs.Ytljacjjeinmfnaa
/- word.Shr. No condition. -/
namespace Go.Proofs.Ytljacjjeinmfnaa
open Go Go.RowKit
theorem wl_getElem {T j:Nat} (h:j<4):(wl T)[j]'(by rw [length_wl];exact h)=UInt64.ofNat (T/2^(64*j)):=by
 have e0:(wl T).getD j 0=UInt64.ofNat (T/2^(64*j)):=getD_limbsN h
 rwa [List.getD_eq_getElem?_getD,List.getElem?_eq_getElem (by rw [length_wl];exact h),Option.getD_some]at e0
theorem wSt_end {T i:Nat} (h:i≤4) (hz: ∀j,i≤j→j<4→T/2^(64*j)=0):wSt T i=wl T:=by
 have e:(wl T).drop i=List.replicate (4- i) 0:=by
  apply List.ext_getElem
  ·rw [List.length_drop,List.length_replicate,length_wl]
  ·intro k h1 h2
   rw [List.length_replicate]at h2
   rw [List.getElem_drop,List.getElem_replicate,wl_getElem (by omega),hz (i+k) (by omega) (by omega)]
   rfl
 rw [wSt, ←e,List.take_append_drop]
theorem shr_limb {x s i:Nat} (hx:x<WW) (hi:i+s/64<4):
 (wl (x/2^s)).getD i 0=if i+s/64+1<4∧0<s % 64 then shr64 ((wl x).getD (i+s/64) 0) (s % 64)|||shl64 ((wl x).getD (i+s/64+1) 0) (64- s % 64)else shr64 ((wl x).getD (i+s/64) 0) (s % 64):=by
 have e0:(wl (x/2^s)).getD i 0=UInt64.ofNat (x/2^s/2^(64*i)):=getD_limbsN (by omega)
 have hr:s % 64<64:=Nat.mod_lt _ (by decide)
 have e1:x/2^s/2^(64*i)=v64 (wl x)/2^(64*(i+s/64)+s % 64):=by
  rw [v64_wl_lt hx,Nat.div_div_eq_div_mul, ←Nat.pow_add]
  congr 2
  omega
 have e2:UInt64.ofNat (v64 (wl x)/2^(64*(i+s/64)+s % 64))=shr64 ((wl x).getD (i+s/64) 0) (s % 64)|||shl64 ((wl x).getD (i+s/64+1) 0) (64- s % 64):=by
  apply UInt64.toNat_inj.1
  rw [UInt64.toNat_ofNat',mid_at (by omega)]
 rw [e0,e1,e2]
 split
 ·rfl
 ·rename_i h
  have hz:shl64 ((wl x).getD (i+s/64+1) 0) (64- s % 64)=0:=by
   apply UInt64.toNat_inj.1
   rcases Nat.lt_or_ge (i+s/64+1) 4 with h4|h4
   ·rw [shl64,UInt64.toNat_ofNat',show 64- s % 64=64 by omega,Nat.mul_mod_left];rfl
   ·rw [shl64,UInt64.toNat_ofNat',List.getD_eq_getElem?_getD,List.getElem?_eq_none (by rw [length_wl];exact h4),Option.getD_none,UInt64.toNat_zero,Nat.zero_mul]
  rw [hz,UInt64.or_zero]
theorem shr_end {x s j:Nat} (hx:x<WW) (h:256≤s+64*j):x/2^s/2^(64*j)=0:=by
 rw [Nat.div_div_eq_div_mul, ←Nat.pow_add]
 exact Nat.div_eq_of_lt (Nat.lt_of_lt_of_le hx (Nat.pow_le_pow_right (by decide) h))
set_option maxRecDepth 100000 in
theorem WShr_f {m x:Nat} (hm:m<WW) (hx:x<WW):Fn Try.prog 130 #[wo m,wo x] [] [] (fun v L=>v=wo (x/2^amt m)∧L= []):=by
 have hlx:=length_wl x
 have hs:=amt_le m
 obtain⟨s,hse⟩: ∃s,s=amt m:=⟨_,rfl⟩
 rw [←hse]at hs⊢
 refine Fn.enter (vs:= [wo m,wo x]) Try.func130 rfl rfl rfl ?_
 intro E R hR
 change At _ _ E [R] _
 refine At.seq fun _ s_1=>At.region (op_box (aV rfl) rfl rfl rfl (fun N2 b2 B2=>?_))
 change Blk N2 b2 _ (u64s (wl m))at B2
 refine op_box (aV rfl) rfl rfl rfl (fun N3 b3 B3=>?_)
 change Blk N3 b3 _ (u64s (wl x))at B3
 refine aU (aV rfl) ze26 rfl (fun N4 b4 B4=>?_)
 change Blk N4 b4 _ [.int .u64 0,.int .u64 0,.int .u64 0,.int .u64 0]at B4
 refine aA (aB (s_1 (At.seq fun _ s_2=>At.region (aU (aV rfl) ze26 rfl (fun N5 b5 B5=>?_)))))
 change Blk N5 b5 _ [.int .u64 0,.int .u64 0,.int .u64 0,.int .u64 0]at B5
 change Blk N5 b5 26 (u64s (wSt (x/2^s) 0))at B5
 refine aA (aB (s_2 (At.seq fun _ s_3=>At.region ?_)))
 refine aL (ds:=u64s (wl m)) (aC rfl) ag26 rfl B2 (by first|(rw [List.drop_zero,List.take_of_length_le (by first|(simp;done)|(simp;omega))];done)|rfl) (by first|(simp;done)|(simp;omega)) mem3 rfl ?_
 refine aR (aV rfl) (.cons rfl .nil) (amount_f hm) Try.func144 rfl rfl (by simp) rfl ?_
 rintro v9 L9 ⟨rfl,rfl⟩
 change At _ _ _ [N5,N4,N3,N2,R] _
 rw [←hse]
 refine aE (aC rfl) rfl rfl (aA (aB (s_3 (At.seq fun _ s_4=>At.seq fun _ s_5=>At.region (aE (aC rfl) rfl rfl (aA (aB (s_5 (At.block (At.sub (L':= [N5,N4,N3,R]) (.cons_cons _ (.cons_cons _ (.cons_cons _ (.cons _ (.cons_cons _ (.slnil)))))) (At.perm aW (At.perm bZ (At.perm aX (At.perm aW (At.loop (fun fr_ hp_ ms_=> ∃(i:Nat) (N5:Heaplet),fr_= [(3,.pointer (some ⟨b3,0,none⟩)),(4,.pointer (some ⟨b4,0,none⟩)),(5,.pointer (some ⟨b5,0,none⟩)),(6,.int .i64 (s:Int)),(7,.int .i64 (i:Int))]∧hp_= [N3,N4,N5,R]∧4- i=ms_∧(i+s/64≤4)∧(Blk N5 b5 26 (u64s (wSt (x/2^s) i)))) ?_ (.refl _) ⟨0,N5,rfl,rfl,rfl,by omega,B5⟩ ?_)))))))))))))))
 ·exact .cons (by first|exact bE rfl (by omega)|rfl) (.cons (by first|exact bE rfl (by omega)|rfl) (.cons (by first|exact bE rfl (by omega)|rfl) (.cons (by first|exact bE rfl (by omega)|rfl) (.cons (by first|exact bE rfl (by omega)|rfl) .nil))))
 rintro _ _ _ ⟨i,N5,rfl,rfl,rfl,hi,B5⟩
 have hwl:=length_wSt (T:=x/2^s) (i:=i) (by omega)
 refine At.seq fun _ s_6=>At.seq fun _ s_7=>At.region (aD (aC rfl) rfl rfl (aD (aC rfl) rfl rfl (op_quoI (aC rfl) rfl rfl (by omega) (by omega) (by omega) rfl (bI (aC rfl) rfl rfl (by omega) (by omega) rfl (op_lss (aC rfl) rfl rfl rfl (aA (aB (s_7 (aP rfl (fun c14=>?_) (fun c14=>?_))))))))))
 ·refine At.skip (aB (s_6 (At.seq fun _ s_8=>At.block (At.seq fun _ s_9=>At.region (aD (aC rfl) rfl rfl (aD (aC rfl) rfl rfl (aD (aC rfl) rfl rfl (op_quoI (aC rfl) rfl rfl (by omega) (by omega) (by omega) rfl (bI (aC rfl) rfl rfl (by omega) (by omega) rfl (bY (aC rfl) ae26 rfl rfl (show _=(((i+s/64:Nat)):Int)from by omega) (by omega) rfl ?_))))))))))
  refine aH (aC rfl) sc24 rfl B3 (by first|exact get64A (by omega)|rfl) aN rfl ?_
  refine aD (aC rfl) rfl rfl (op_rem (aC rfl) rfl rfl (by omega) (by omega) rfl (op_shrU (aC rfl) rfl rfl (show _=(((s % 64:Nat)):Int)from by omega) rfl ?_))
  refine bY (aC rfl) ae26 rfl rfl (show _=(((i:Nat)):Int)from by omega) (by omega) rfl ?_
  refine aG (nxl rfl) sz24 rfl rfl rfl rfl rfl B5 (by simp<;>omega) aX (fun N5 B5=>?_)
  rw [set64A]at B5
  have hwl2:((wSt (x/2^s) i).set i (shr64 ((wl x).getD (i+s/64) 0) (s % 64))).length=4:=by rw [List.length_set];exact hwl
  refine aA (aB (s_9 (At.seq fun _ s_10=>At.region (aD (aC rfl) rfl rfl (aD (aC rfl) rfl rfl (op_quoI (aC rfl) rfl rfl (by omega) (by omega) (by omega) rfl (bI (aC rfl) rfl rfl (by omega) (by omega) rfl (bI (aC rfl) rfl rfl (by omega) (by omega) rfl (op_lss (aC rfl) rfl rfl rfl (aD (aC rfl) rfl rfl (bU (d:=34) rfl (fun g34=>?_) (fun g34=>?_))))))))))))
  ·refine aD (aS rfl rfl rfl rfl) rfl rfl (op_rem (aS rfl rfl rfl rfl) rfl rfl (by omega) (by omega) rfl (op_gtr (aS rfl rfl rfl rfl) rfl rfl rfl (bW (aC rfl) rfl rfl rfl (aA (aB (s_10 (aP rfl (fun c38=>?_) (fun c38=>?_))))))))
   ·refine At.perm aW (At.perm bZ (At.perm aX (At.perm aW (At.drawnS [N3,N5,R] [16] [] [0,1,2,3,4,5,6,7,8,9,10,11,12,13,14,15,16] (by kernel_rfl) (by kernel_rfl) (.cons _ (.refl _)) (aD (bK rfl rfl rfl) rfl rfl (bY (bK rfl rfl rfl) ae26 rfl rfl (show _=(((i:Nat)):Int)from by omega) (by omega) rfl ?_))))))
    refine aH (bK rfl rfl rfl) sc24 rfl B5 (by first|exact get64A (by omega)|rfl) bC rfl ?_
    rw [getD_set_same (by omega)]
    refine aD (bK rfl rfl rfl) rfl rfl (aD (bK rfl rfl rfl) rfl rfl (op_quoI (bK rfl rfl rfl) rfl rfl (by omega) (by omega) (by omega) rfl (bI (bK rfl rfl rfl) rfl rfl (by omega) (by omega) rfl (bI (bK rfl rfl rfl) rfl rfl (by omega) (by omega) rfl (bY (bK rfl rfl rfl) ae26 rfl rfl (show _=(((i+s/64+1:Nat)):Int)from by omega) (by omega) rfl ?_)))))
    refine aH (bK rfl rfl rfl) sc24 rfl B3 (by first|exact get64A (by omega)|rfl) aN rfl ?_
    refine aD (bK rfl rfl rfl) rfl rfl (op_rem (bK rfl rfl rfl) rfl rfl (by omega) (by omega) rfl (op_subI (bK rfl rfl rfl) rfl rfl (by omega) (by omega) rfl (op_shlU (bK rfl rfl rfl) rfl rfl (show _=(((64- s % 64:Nat)):Int)from by omega) rfl ?_)))
    refine op_orU (bK rfl rfl rfl) rfl rfl rfl (bY (bK rfl rfl rfl) ae26 rfl rfl (show _=(((i:Nat)):Int)from by omega) (by omega) rfl ?_)
    refine aG (nxsl rfl rfl rfl rfl) sz24 rfl rfl rfl rfl rfl B5 (by simp<;>omega) aX (fun N5 B5=>?_)
    rw [set64A,List.set_set]at B5
    refine At.sNil (bB (aB (s_8 (At.region (aD (aC rfl) rfl rfl (bI (aC rfl) rfl rfl (by omega) (by omega) rfl (aE (aC rfl) rfl rfl (aA (aB (At.perm aW (At.perm bZ (At.perm aX (At.perm aW ?_)))))))))))))
    refine At.back ?_ (.refl _) ⟨i+1,N5,rfl,rfl,rfl,by omega,by rw [wSt_succ (by omega) ((shr_limb hx (by omega)).trans (if_pos ⟨by omega,by omega⟩))];exact B5⟩ ?_
    ·exact .cons (by first|exact bE rfl (by omega)|rfl) (.cons (by first|exact bE rfl (by omega)|rfl) (.cons (by first|exact bE rfl (by omega)|rfl) (.cons (by first|exact bE rfl (by omega)|rfl) (.cons (by first|exact bE rfl (by omega)|rfl) .nil))))
    ·omega
   refine At.skip (bB (aB (s_8 (At.region (aD (aC rfl) rfl rfl (bI (aC rfl) rfl rfl (by omega) (by omega) rfl (aE (aC rfl) rfl rfl (aA (aB (At.perm aW (At.perm bZ (At.perm aW (At.perm aW ?_)))))))))))))
   refine At.back ?_ (.refl _) ⟨i+1,N5,rfl,rfl,rfl,by omega,by rw [wSt_succ (by omega) ((shr_limb hx (by omega)).trans (if_neg (by omega)))];exact B5⟩ ?_
   ·exact .cons (by first|exact bE rfl (by omega)|rfl) (.cons (by first|exact bE rfl (by omega)|rfl) (.cons (by first|exact bE rfl (by omega)|rfl) (.cons (by first|exact bE rfl (by omega)|rfl) (.cons (by first|exact bE rfl (by omega)|rfl) .nil))))
   ·omega
  refine aJ rfl rfl rfl rfl rfl rfl rfl (aJ rfl rfl rfl rfl rfl rfl rfl (aJ rfl rfl rfl rfl rfl rfl rfl (bM (aC rfl) rfl rfl rfl (aA (aB (s_10 (At.condF rfl (At.skip (bB (aB (s_8 (At.region (aD (aC rfl) rfl rfl (bI (aC rfl) rfl rfl (by omega) (by omega) rfl (aE (aC rfl) rfl rfl (aA (aB (At.perm aW (At.perm bZ (At.perm aW (At.perm aW ?_)))))))))))))))))))))
  refine At.back ?_ (.refl _) ⟨i+1,N5,rfl,rfl,rfl,by omega,by rw [wSt_succ (by omega) ((shr_limb hx (by omega)).trans (if_neg (by omega)))];exact B5⟩ ?_
  ·exact .cons (by first|exact bE rfl (by omega)|rfl) (.cons (by first|exact bE rfl (by omega)|rfl) (.cons (by first|exact bE rfl (by omega)|rfl) (.cons (by first|exact bE rfl (by omega)|rfl) (.cons (by first|exact bE rfl (by omega)|rfl) .nil))))
  ·omega
 refine At.exit (aO (aO (At.inHit (aB (s_4 (At.seq fun _ s_11=>At.region ?_))))))
 rw [wSt_end (by omega) (fun j h1 h2=>shr_end hx (by omega))]at B5
 refine aL (ds:=u64s (wl (x/2^s))) (aC rfl) ag26 rfl B5 (by first|(rw [List.drop_zero,List.take_of_length_le (by first|(simp;done)|(simp;omega))];done)|rfl) (by first|(simp;done)|(simp;omega)) bV rfl ?_
 refine aG (nxl rfl) sz26 rfl rfl rfl rfl rfl B4 (by simp) bZ (fun N4 B4=>?_)
 rw [bD (by simp)]at B4
 refine aA (aB (s_11 (At.ret ((At.sub (L':= [N4,R]) (.cons_cons _ (.cons _ (.cons _ (.cons_cons _ (.slnil))))) ?_)))))
 refine aZ (L1:= []) rfl (.cell rfl (bH (ds:=u64s (wl (x/2^s))) ag26 B4 (by first|(rw [List.drop_zero,List.take_of_length_le (by first|(simp;done)|(simp;omega))];done)|rfl) (by first|(simp;done)|(simp;omega)) aN) .nil) (.cons _ (.refl _)) (.refl _) ?_
 exact⟨rfl,rfl⟩
end Go.Proofs.Ytljacjjeinmfnaa
/- Layer 14: a transaction's V is read. No condition. -/
namespace Go.Proofs.Ytljacjjeinmfnaa
open Go Go.RowKit
set_option maxRecDepth 100000
/-- The chain and whether Y is odd, or what is wrong. -/
def vE (ki:Int) (ch:Nat) (t:It):Except Nat (Nat×Bool):=match wordE t with
 |.error e=>.error e
 |.ok n=>if ki=0∧36<n then (if (n- 35)/2<2^64 then .ok ((n- 35)/2,decide ((n- 35) % 2=1))else .error 3)
  else if ki=0 then (if n=27∨n=28 then .ok (ch,decide (n=28))else .error 3)
  else if n≤1 then .ok (ch,decide (n=1))else .error 3
theorem wl_low {x:Nat} (h:x<2^64):((wl x).getD 0 0).toNat=x:=small_val h
theorem part_put {ps:List (List Value)} {ls:List Nat} {j o:Nat} {u:Value} (hl:ps.map List.length=ls) (hp:ps[j]? =some [u]) (ho:(ls.take j).sum=o) (v:Value):setL ps.flatten o [v]=(ps.set j [v]).flatten:=part_set hl hp ho rfl
theorem le_of_cmp {n:Nat} (h: ¬0<cmpN n (UInt64.toNat 1)):n≤1:=by
 rcases Nat.lt_or_ge 1 n with k|k
 ·exact absurd (by rw [show UInt64.toNat 1=1 from rfl,cmpN_gt k];decide) h
 ·exact k
theorem lt_of_cmp {n k:Nat} (h:0<cmpN n k):k<n:=by
 unfold cmpN at h
 split at h
 ·omega
 ·split at h
  ·assumption
  ·omega
theorem vE_C {ki:Int} {ch n:Nat} {t:It} (he:wordE t=.ok n) (hki:ki≠0) (h:n≤1):vE ki ch t=.ok (ch,decide (n=1)):=by
 simp only [vE,he]
 rw [if_neg (fun k=>hki k.1),if_neg hki,if_pos h]
theorem vE_C3 {ki:Int} {ch n:Nat} {t:It} (he:wordE t=.ok n) (hki:ki≠0) (h:0<cmpN n (UInt64.toNat 1)):vE ki ch t=.error 3:=by
 have h:1<n:=lt_of_cmp h
 simp only [vE,he]
 rw [if_neg (fun k=>hki k.1),if_neg hki,if_neg (by omega)]
theorem sub27 {n m:Nat} (h:(n+WW- UInt64.toNat 27) % WW=m) (hn:n≤36):m<WW∧(m≤1↔n=27∨n=28)∧(m=1↔n=28):=by
 have e:UInt64.toNat 27=27:=rfl
 rw [e]at h
 have hW:1000<WW:=by decide
 have h0:m<WW:=by rw [←h];exact Nat.mod_lt _ (by omega)
 rcases Nat.lt_or_ge n 27 with k|k
 ·rw [Nat.mod_eq_of_lt (by omega)]at h
  omega
 ·rw [show n+WW- 27=(n- 27)+WW by omega,Nat.add_mod_right,Nat.mod_eq_of_lt (by omega)]at h
  omega
theorem vE_B {ki:Int} {ch n:Nat} {t:It} (he:wordE t=.ok n) (hki:ki=0) (h:n≤36) (k:n=27∨n=28):vE ki ch t=.ok (ch,decide (n=28)):=by
 simp only [vE,he]
 rw [if_neg (by omega),if_pos hki,if_pos k]
theorem vE_B3 {ki:Int} {ch n m:Nat} {t:It} (he:wordE t=.ok n) (hki:ki=0) (h36:n≤36) (hm:m≤1↔n=27∨n=28) (h:0<cmpN m (UInt64.toNat 1)):vE ki ch t=.error 3:=by
 have h:1<m:=lt_of_cmp h
 simp only [vE,he]
 rw [if_neg (by omega),if_pos hki,if_neg (fun k=>by have:=hm.2 k;omega)]
theorem sub35 {n:Nat} (h:36<n):wo (n+WW- UInt64.toNat 35)=wo (n- 35):=by
 rw [show UInt64.toNat 35=35 from rfl,show n+WW- 35=(n- 35)+WW by omega]
 exact wo_congr (by rw [Nat.add_mod_right])
theorem odd_is (m:Nat):decide (((UInt64.ofNat (m/2^(64*0))&&&1).toNat:Int)=1)=decide (m % 2=1):=by
 have h:(UInt64.ofNat (m/2^(64*0))&&&1).toNat=m % 2:=by
  rw [UInt64.toNat_and,UInt64.toNat_ofNat',show UInt64.toNat 1=1 from rfl,Nat.and_one_is_mod,Nat.mul_zero,Nat.pow_zero,Nat.div_one]
  omega
 rw [h];exact decide_eq_decide.2 (by omega)
theorem amt1 {m:Nat} :m/2^amt (UInt64.toNat 1)=m/2:=by rw [show amt (UInt64.toNat 1)=1 from rfl,Nat.pow_one]
theorem vE_A3 {ki:Int} {ch n:Nat} {t:It} (he:wordE t=.ok n) (hki:ki=0) (h:36<n) (k: ¬(n- 35)/2<2^64):vE ki ch t=.error 3:=by
 simp only [vE,he]
 rw [if_pos ⟨hki,h⟩,if_neg k]
theorem vE_A {ki:Int} {ch n:Nat} {t:It} (he:wordE t=.ok n) (hki:ki=0) (h:36<n) (k:(n- 35)/2<2^64):vE ki ch t=.ok ((n- 35)/2,decide ((n- 35) % 2=1)):=by
 simp only [vE,he]
 rw [if_pos ⟨hki,h⟩,if_pos k]
section
variable {Np NI Nt : Heaplet} {bp bt n : Nat} {t : It} {ts : List It} {z : IV} {zs : List IV} {ki : Int} {ch nn pr tp ga va bf r s : Nat} {mk od : Bool} {to : List UInt8} {d a b : Value}
set_option maxHeartbeats 2000000 in
theorem FV_C (h:PartsN Np NI bp (z::zs) (t::ts)) (ht:to.length=20) (hki:ki≠0) (B:Blk Nt bt 58 (txP ki ch nn pr tp ga mk to va d a bf b od r s).flatten):
 FnE Try.prog 110 #[.pointer (some ⟨bp,0,none⟩),.pointer (some ⟨bt,0,none⟩)] [Np,Nt] [NI] (fun v L=> ∃Np Nt c o,v=.tuple #[]∧L= [Np,Nt]∧vE ki ch t=.ok (c,o)∧PartsN Np NI bp zs ts∧Blk Nt bt 58 (txP ki c nn pr tp ga mk to va d a bf b o r s).flatten) (fun v L=> ∃(e:Nat) (Nt:Heaplet) (cs:List Value),v=gaveV e∧L= [Nt]∧vE ki ch t=.error e∧Blk Nt bt 58 cs∧cs.length=53):=by
 have h1:=FWord_p h
 have hls:=txP_lens (ki:=ki) (ch:=ch) (nn:=nn) (pr:=pr) (tp:=tp) (ga:=ga) (mk:=mk) (va:=va) (d:=d) (a:=a) (bf:=bf) (b:=b) (od:=od) (r:=r) (s:=s) ht
 have hln:=bG (ki:=ki) (ch:=ch) (nn:=nn) (pr:=pr) (tp:=tp) (ga:=ga) (mk:=mk) (va:=va) (d:=d) (a:=a) (bf:=bf) (b:=b) (od:=od) (r:=r) (s:=s) ht
 refine FnE.enter (vs:= [.pointer (some ⟨bp,0,none⟩),.pointer (some ⟨bt,0,none⟩)]) Try.func110 rfl rfl rfl ?_
 intro E R hR
 have hNR:=hR NI (by simp)
 have h1:=h1.liftB hNR
 have Bt:=B
 change At _ _ E [Np,Nt,R] _
 refine At.seq fun _ s_1=>At.region (aD (aC rfl) rfl rfl (aQ (.cons rfl .nil) (h1) (F:= [Nt,R]) Try.func105 rfl rfl (.refl _) (by simp) rfl ?_ ?_))
 ·rintro v8 L8 ⟨e,rfl,rfl,he⟩
  change At _ _ _ [Nt,R] _
  refine aI ((a0 (L1:= [Nt]) (.refl _) (.refl _) ?_))
  exact⟨e,Nt,_,rfl,rfl,by simp only [vE,he],Bt,hln⟩
 rintro v8 L8 ⟨Mp,n,rfl,rfl,he,hn,hp⟩
 change At _ _ _ [Mp,Nt,R] _
 refine aU (aV rfl) ze26 rfl (fun N4 b4 B4=>?_)
 change Blk N4 b4 _ [.int .u64 0,.int .u64 0,.int .u64 0,.int .u64 0]at B4
 refine aG (nxl rfl) sz26 rfl rfl rfl rfl rfl B4 (by simp) sel0 (fun N4 B4=>?_)
 rw [bD (by simp)]at B4
 refine aA (aB (s_1 (At.seq fun _ s_2=>At.seq fun _ s_3=>At.perm aW (At.perm aW (At.perm aX (At.perm aW (At.drawnS [N4,Nt,R] [8] [] [0,1,2,3,4,5,6,7,8,9,10] (by kernel_rfl) (by kernel_rfl) (.cons _ (.refl _)) (aD (bK rfl rfl rfl) rfl rfl (aK (bK rfl rfl rfl) rfl rfl (aF (bK rfl rfl rfl) fl58_0 rfl rfl (aH (bK rfl rfl rfl) sc3 rfl Bt (by first|rfl) bC rfl ?_)))))))))))
 refine op_eql (bK rfl rfl rfl) rfl rfl rfl (aD (bK rfl rfl rfl) rfl rfl (bU (d:=14) rfl (fun g14=>?_) (fun g14=>?_)))
 ·exact absurd g14 hki
 refine op_sskip rfl rfl rfl rfl rfl rfl rfl rfl (op_sskip rfl rfl rfl rfl rfl rfl rfl rfl (op_sskip rfl rfl rfl rfl rfl rfl rfl rfl (op_sskip rfl rfl rfl rfl rfl rfl rfl rfl (bM (bK rfl rfl rfl) rfl rfl rfl (At.sNil (aB (s_3 (At.condF rfl (At.skip (aB (s_2 (At.seq fun _ s_4=>At.seq fun _ s_5=>At.region (aD (aC rfl) rfl rfl (aK (aC rfl) rfl rfl (aF (aC rfl) fl58_0 rfl rfl (aH (aC rfl) sc3 rfl Bt (by first|rfl) bV rfl ?_))))))))))))))))
 refine op_eql (aC rfl) rfl rfl rfl (aA (aB (s_5 (aP rfl (fun c48=>?_) (fun c48=>?_)))))
 ·exact absurd c48 hki
 refine At.knowF (d:=48) rfl c48 (At.skip (aB (s_4 (At.seq fun _ s_6=>At.seq fun _ s_7=>At.drawn [2] [0,1,2,3] (by kernel_rfl) (by kernel_rfl) ?_))))
 refine aL (ds:=u64s (wl n)) (aY rfl rfl rfl (by kernel_rfl)) ag26 rfl B4 (by first|(rw [List.drop_zero,List.take_of_length_le (by first|(simp;done)|(simp;omega))];done)|rfl) (by first|(simp;done)|(simp;omega)) bC rfl ?_
 refine aR (nxoa rfl rfl rfl) (.cons rfl .nil) (WOf_f 1) Try.func87 rfl rfl (by simp) rfl ?_
 rintro v53 L53 ⟨rfl,rfl⟩
 change At _ _ _ [Mp,N4,Nt,R] _
 refine aR (nxosa rfl rfl rfl rfl) (.cons rfl (.cons rfl .nil)) (WCmp_f hn (show(1:UInt64).toNat<WW by decide)) Try.func128 rfl rfl (by simp) rfl ?_
 rintro v54 L54 ⟨rfl,rfl⟩
 change At _ _ _ [Mp,N4,Nt,R] _
 refine op_gtr (aY rfl rfl rfl (by kernel_rfl)) rfl rfl rfl (At.oneNil (aB (s_7 (aP rfl (fun c55=>?_) (fun c55=>?_)))))
 ·refine At.knowT (d:=55) rfl c55 (At.region (aQ (.cons rfl .nil) (FCheck_e (by decide)) (F:= [Mp,N4,Nt,R]) Try.func65 rfl rfl (.refl _) (by simp) rfl ?_ ?_))
  ·rintro v56 L56 ⟨rfl,rfl⟩
   change At _ _ _ [Mp,N4,Nt,R] _
   refine aI ((At.sub (L':= [Nt,R]) (.cons _ (.cons _ (.cons_cons _ (.cons_cons _ (.slnil))))) (a0 (L1:= [Nt]) (.refl _) (.refl _) ?_)))
   exact⟨3,Nt,_,rfl,rfl,vE_C3 he hki c55,Bt,hln⟩
  intro _ _ h_;exact h_.elim
 refine At.knowF (d:=55) rfl c55 (At.skip (aB (s_6 (At.region (aD (aC rfl) rfl rfl (bY (aC rfl) ae26 rfl rfl (show _=((0:Nat):Int)from rfl) (by omega) rfl (aH (aC rfl) sc24 rfl B4 (by first|exact get64A (by omega)|rfl) bC rfl ?_)))))))
 refine op_eql (aC rfl) rfl rfl rfl (aK (aC rfl) rfl rfl (aF (aC rfl) fl58_13 rfl rfl ?_))
 refine aG (nxl rfl) sz4 rfl rfl rfl rfl rfl Bt (by rw [hln];exact show 0+44+1≤53 by decide) aX (fun Nt Bt=>?_)
 rw [part_put hls (j:=13) (o:=0+44) rfl rfl]at Bt;change Blk Nt bt 58 (txP ki ch nn pr tp ga mk to va d a bf b (decide (((((wl n).getD 0 0).toNat:Nat):Int)=1)) r s).flatten at Bt
 refine aA (At.norX (At.sub (L':= [Nt,Mp,R]) (.cons_cons _ (.cons_cons _ (.cons _ (.cons_cons _ (.slnil))))) (At.perm aX (At.perm bZ (At.perm aX (At.retNE (L1:= [Mp,Nt]) rfl .nil rfl (.refl _) (.refl _) ?_))))))
 have h1:=le_of_cmp c55
 rw [wl_low (x:=n) (by omega),show decide (((n:Nat):Int)=1)=decide (n=1)from decide_eq_decide.2 (by omega)]at Bt
 exact⟨Mp,Nt,ch,_,rfl,rfl,vE_C he hki h1,hp,Bt⟩
set_option maxHeartbeats 2000000 in
theorem FV_B (h:PartsN Np NI bp (z::zs) (t::ts)) (ht:to.length=20) (hki:ki=0) (hw:wordE t=.ok n) (h36:n≤36) (B:Blk Nt bt 58 (txP ki ch nn pr tp ga mk to va d a bf b od r s).flatten):
 FnE Try.prog 110 #[.pointer (some ⟨bp,0,none⟩),.pointer (some ⟨bt,0,none⟩)] [Np,Nt] [NI] (fun v L=> ∃Np Nt c o,v=.tuple #[]∧L= [Np,Nt]∧vE ki ch t=.ok (c,o)∧PartsN Np NI bp zs ts∧Blk Nt bt 58 (txP ki c nn pr tp ga mk to va d a bf b o r s).flatten) (fun v L=> ∃(e:Nat) (Nt:Heaplet) (cs:List Value),v=gaveV e∧L= [Nt]∧vE ki ch t=.error e∧Blk Nt bt 58 cs∧cs.length=53):=by
 have h1:=FWord_p h
 have hls:=txP_lens (ki:=ki) (ch:=ch) (nn:=nn) (pr:=pr) (tp:=tp) (ga:=ga) (mk:=mk) (va:=va) (d:=d) (a:=a) (bf:=bf) (b:=b) (od:=od) (r:=r) (s:=s) ht
 have hln:=bG (ki:=ki) (ch:=ch) (nn:=nn) (pr:=pr) (tp:=tp) (ga:=ga) (mk:=mk) (va:=va) (d:=d) (a:=a) (bf:=bf) (b:=b) (od:=od) (r:=r) (s:=s) ht
 refine FnE.enter (vs:= [.pointer (some ⟨bp,0,none⟩),.pointer (some ⟨bt,0,none⟩)]) Try.func110 rfl rfl rfl ?_
 intro E R hR
 have hNR:=hR NI (by simp)
 have h1:=h1.liftB hNR
 have Bt:=B
 change At _ _ E [Np,Nt,R] _
 refine At.seq fun _ s_1=>At.region (aD (aC rfl) rfl rfl (aQ (.cons rfl .nil) (h1) (F:= [Nt,R]) Try.func105 rfl rfl (.refl _) (by simp) rfl ?_ ?_))
 ·rintro v8 L8 ⟨e,rfl,rfl,he⟩
  change At _ _ _ [Nt,R] _
  refine aI ((a0 (L1:= [Nt]) (.refl _) (.refl _) ?_))
  exact⟨e,Nt,_,rfl,rfl,by simp only [vE,he],Bt,hln⟩
 rintro v8 L8 ⟨Mp,n',rfl,rfl,he,hn,hp⟩
 change At _ _ _ [Mp,Nt,R] _
 obtain rfl:n=n':=Except.ok.inj (hw.symm.trans he)
 refine aU (aV rfl) ze26 rfl (fun N4 b4 B4=>?_)
 change Blk N4 b4 _ [.int .u64 0,.int .u64 0,.int .u64 0,.int .u64 0]at B4
 refine aG (nxl rfl) sz26 rfl rfl rfl rfl rfl B4 (by simp) sel0 (fun N4 B4=>?_)
 rw [bD (by simp)]at B4
 refine aA (aB (s_1 (At.seq fun _ s_2=>At.seq fun _ s_3=>At.perm aW (At.perm aW (At.perm aX (At.perm aW (At.drawnS [N4,Nt,R] [8] [] [0,1,2,3,4,5,6,7,8,9,10] (by kernel_rfl) (by kernel_rfl) (.cons _ (.refl _)) (aD (bK rfl rfl rfl) rfl rfl (aK (bK rfl rfl rfl) rfl rfl (aF (bK rfl rfl rfl) fl58_0 rfl rfl (aH (bK rfl rfl rfl) sc3 rfl Bt (by first|rfl) bC rfl ?_)))))))))))
 refine op_eql (bK rfl rfl rfl) rfl rfl rfl (aD (bK rfl rfl rfl) rfl rfl (bU (d:=14) rfl (fun g14=>?_) (fun g14=>?_)))
 rotate_left
 ·exact absurd hki g14
 refine aL (ds:=u64s (wl n)) (nxsgf rfl rfl rfl rfl rfl rfl) ag26 rfl B4 (by first|(rw [List.drop_zero,List.take_of_length_le (by first|(simp;done)|(simp;omega))];done)|rfl) (by first|(simp;done)|(simp;omega)) aN rfl ?_
 refine aR (Nx.agree (nxsgm rfl rfl rfl rfl rfl rfl)) (.cons rfl .nil) (WOf_f 36) Try.func87 rfl rfl (by simp) rfl ?_
 rintro v16 L16 ⟨rfl,rfl⟩
 change At _ _ _ [Mp,N4,Nt,R] _
 refine At.moreS (Lst:= [N4,Nt,R]) (Lst':= [N4,Nt,R]) (.refl _) (.cons _ (.refl _)) (aR (Nx.agree (nxsgs rfl rfl rfl rfl rfl rfl rfl)) (.cons rfl (.cons rfl .nil)) (WCmp_f hn (show(36:UInt64).toNat<WW by decide)) Try.func128 rfl rfl (by simp) rfl ?_)
 rintro v17 L17 ⟨rfl,rfl⟩
 change At _ _ _ [Mp,N4,Nt,R] _
 refine At.anyS (.refl _) (op_gtr (nxsgf rfl rfl rfl rfl rfl rfl) rfl rfl rfl (bW (bK rfl rfl rfl) rfl rfl rfl (At.sNil (aB (s_3 (aP rfl (fun c19=>?_) (fun c19=>?_)))))))
 ·exact absurd (show 36<n from lt_of_cmp c19) (by omega)
 refine At.knowF (d:=19) rfl c19 (At.skip (aB (s_2 (At.seq fun _ s_4=>At.seq fun _ s_5=>At.region (aD (aC rfl) rfl rfl (aK (aC rfl) rfl rfl (aF (aC rfl) fl58_0 rfl rfl (aH (aC rfl) sc3 rfl Bt (by first|rfl) bV rfl ?_))))))))
 refine op_eql (aC rfl) rfl rfl rfl (aA (aB (s_5 (aP rfl (fun c48=>?_) (fun c48=>?_)))))
 rotate_left
 ·exact absurd hki c48
 refine At.knowT (d:=48) rfl c48 (At.drawn [2,3] [0,1,2,3] (by kernel_rfl) (by kernel_rfl) ?_)
 refine aL (ds:=u64s (wl n)) (aY rfl rfl rfl (by kernel_rfl)) ag26 rfl B4 (by first|(rw [List.drop_zero,List.take_of_length_le (by first|(simp;done)|(simp;omega))];done)|rfl) (by first|(simp;done)|(simp;omega)) bC rfl ?_
 refine aR (nxoa rfl rfl rfl) (.cons rfl .nil) (WOf_f 27) Try.func87 rfl rfl (by simp) rfl ?_
 rintro v50 L50 ⟨rfl,rfl⟩
 change At _ _ _ [Mp,N4,Nt,R] _
 refine aR (nxosa rfl rfl rfl rfl) (.cons rfl (.cons rfl .nil)) (WSub_f hn (show(27:UInt64).toNat<WW by decide)) Try.func129 rfl rfl (by simp) rfl ?_
 rintro v51 L51 ⟨rfl,rfl⟩
 change At _ _ _ [Mp,N4,Nt,R] _
 rw [←wo_mod];obtain⟨m,hm⟩: ∃m,(n+WW- UInt64.toNat 27) % WW=m:=⟨_,rfl⟩;rw [hm];have hmW:=sub27 hm h36
 refine aG (nxos rfl rfl rfl rfl) sz26 rfl rfl rfl rfl rfl B4 (by simp) bZ (fun N4 B4=>?_)
 rw [bD (by simp)]at B4
 refine At.oneNil (aB (s_4 (At.seq fun _ s_6=>At.seq fun _ s_7=>At.drawn [2] [0,1,2,3] (by kernel_rfl) (by kernel_rfl) ?_)))
 refine aL (ds:=u64s (wl m)) (aY rfl rfl rfl (by kernel_rfl)) ag26 rfl B4 (by first|(rw [List.drop_zero,List.take_of_length_le (by first|(simp;done)|(simp;omega))];done)|rfl) (by first|(simp;done)|(simp;omega)) aN rfl ?_
 refine aR (nxoa rfl rfl rfl) (.cons rfl .nil) (WOf_f 1) Try.func87 rfl rfl (by simp) rfl ?_
 rintro v53 L53 ⟨rfl,rfl⟩
 change At _ _ _ [N4,Mp,Nt,R] _
 refine aR (nxosa rfl rfl rfl rfl) (.cons rfl (.cons rfl .nil)) (WCmp_f hmW.1 (show(1:UInt64).toNat<WW by decide)) Try.func128 rfl rfl (by simp) rfl ?_
 rintro v54 L54 ⟨rfl,rfl⟩
 change At _ _ _ [N4,Mp,Nt,R] _
 refine op_gtr (aY rfl rfl rfl (by kernel_rfl)) rfl rfl rfl (At.oneNil (aB (s_7 (aP rfl (fun c55=>?_) (fun c55=>?_)))))
 ·refine At.knowT (d:=55) rfl c55 (At.region (aQ (.cons rfl .nil) (FCheck_e (by decide)) (F:= [N4,Mp,Nt,R]) Try.func65 rfl rfl (.refl _) (by simp) rfl ?_ ?_))
  ·rintro v56 L56 ⟨rfl,rfl⟩
   change At _ _ _ [N4,Mp,Nt,R] _
   refine aI ((At.sub (L':= [Nt,R]) (.cons _ (.cons _ (.cons_cons _ (.cons_cons _ (.slnil))))) (a0 (L1:= [Nt]) (.refl _) (.refl _) ?_)))
   exact⟨3,Nt,_,rfl,rfl,vE_B3 he hki h36 hmW.2.1 c55,Bt,hln⟩
  intro _ _ h_;exact h_.elim
 refine At.knowF (d:=55) rfl c55 (At.skip (aB (s_6 (At.region (aD (aC rfl) rfl rfl (bY (aC rfl) ae26 rfl rfl (show _=((0:Nat):Int)from rfl) (by omega) rfl (aH (aC rfl) sc24 rfl B4 (by first|exact get64A (by omega)|rfl) aN rfl ?_)))))))
 refine op_eql (aC rfl) rfl rfl rfl (aK (aC rfl) rfl rfl (aF (aC rfl) fl58_13 rfl rfl ?_))
 refine aG (nxl rfl) sz4 rfl rfl rfl rfl rfl Bt (by rw [hln];exact show 0+44+1≤53 by decide) aX (fun Nt Bt=>?_)
 rw [part_put hls (j:=13) (o:=0+44) rfl rfl]at Bt;change Blk Nt bt 58 (txP ki ch nn pr tp ga mk to va d a bf b (decide (((((wl m).getD 0 0).toNat:Nat):Int)=1)) r s).flatten at Bt
 refine aA (At.norX (At.sub (L':= [Nt,Mp,R]) (.cons_cons _ (.cons _ (.cons_cons _ (.cons_cons _ (.slnil))))) (At.perm aX (At.perm bZ (At.perm aX (At.retNE (L1:= [Mp,Nt]) rfl .nil rfl (.refl _) (.refl _) ?_))))))
 have h1:=le_of_cmp c55
 rw [wl_low (x:=m) (by omega),show decide (((m:Nat):Int)=1)=decide (n=28)from decide_eq_decide.2 (by have:=hmW.2.2;omega)]at Bt
 exact⟨Mp,Nt,ch,_,rfl,rfl,vE_B he hki h36 (hmW.2.1.1 h1),hp,Bt⟩
set_option maxHeartbeats 2000000 in
theorem FV_A (h:PartsN Np NI bp (z::zs) (t::ts)) (ht:to.length=20) (hki:ki=0) (hw:wordE t=.ok n) (h36:36<n) (B:Blk Nt bt 58 (txP ki ch nn pr tp ga mk to va d a bf b od r s).flatten):
 FnE Try.prog 110 #[.pointer (some ⟨bp,0,none⟩),.pointer (some ⟨bt,0,none⟩)] [Np,Nt] [NI] (fun v L=> ∃Np Nt c o,v=.tuple #[]∧L= [Np,Nt]∧vE ki ch t=.ok (c,o)∧PartsN Np NI bp zs ts∧Blk Nt bt 58 (txP ki c nn pr tp ga mk to va d a bf b o r s).flatten) (fun v L=> ∃(e:Nat) (Nt:Heaplet) (cs:List Value),v=gaveV e∧L= [Nt]∧vE ki ch t=.error e∧Blk Nt bt 58 cs∧cs.length=53):=by
 have h1:=FWord_p h
 have hls:=txP_lens (ki:=ki) (ch:=ch) (nn:=nn) (pr:=pr) (tp:=tp) (ga:=ga) (mk:=mk) (va:=va) (d:=d) (a:=a) (bf:=bf) (b:=b) (od:=od) (r:=r) (s:=s) ht
 have hln:=bG (ki:=ki) (ch:=ch) (nn:=nn) (pr:=pr) (tp:=tp) (ga:=ga) (mk:=mk) (va:=va) (d:=d) (a:=a) (bf:=bf) (b:=b) (od:=od) (r:=r) (s:=s) ht
 have hlsO:=fun(od:Bool)=>txP_lens (ki:=ki) (ch:=ch) (nn:=nn) (pr:=pr) (tp:=tp) (ga:=ga) (mk:=mk) (va:=va) (d:=d) (a:=a) (bf:=bf) (b:=b) (od:=od) (r:=r) (s:=s) ht
 have hlnO:=fun(od:Bool)=>bG (ki:=ki) (ch:=ch) (nn:=nn) (pr:=pr) (tp:=tp) (ga:=ga) (mk:=mk) (va:=va) (d:=d) (a:=a) (bf:=bf) (b:=b) (od:=od) (r:=r) (s:=s) ht
 refine FnE.enter (vs:= [.pointer (some ⟨bp,0,none⟩),.pointer (some ⟨bt,0,none⟩)]) Try.func110 rfl rfl rfl ?_
 intro E R hR
 have hNR:=hR NI (by simp)
 have h1:=h1.liftB hNR
 have Bt:=B
 change At _ _ E [Np,Nt,R] _
 refine At.seq fun _ s_1=>At.region (aD (aC rfl) rfl rfl (aQ (.cons rfl .nil) (h1) (F:= [Nt,R]) Try.func105 rfl rfl (.refl _) (by simp) rfl ?_ ?_))
 ·rintro v8 L8 ⟨e,rfl,rfl,he⟩
  change At _ _ _ [Nt,R] _
  refine aI ((a0 (L1:= [Nt]) (.refl _) (.refl _) ?_))
  exact⟨e,Nt,_,rfl,rfl,by simp only [vE,he],Bt,hln⟩
 rintro v8 L8 ⟨Mp,n',rfl,rfl,he,hn,hp⟩
 change At _ _ _ [Mp,Nt,R] _
 obtain rfl:n=n':=Except.ok.inj (hw.symm.trans he)
 refine aU (aV rfl) ze26 rfl (fun N4 b4 B4=>?_)
 change Blk N4 b4 _ [.int .u64 0,.int .u64 0,.int .u64 0,.int .u64 0]at B4
 refine aG (nxl rfl) sz26 rfl rfl rfl rfl rfl B4 (by simp) sel0 (fun N4 B4=>?_)
 rw [bD (by simp)]at B4
 refine aA (aB (s_1 (At.seq fun _ s_2=>At.seq fun _ s_3=>At.perm aW (At.perm aW (At.perm aX (At.perm aW (At.drawnS [N4,Nt,R] [8] [] [0,1,2,3,4,5,6,7,8,9,10] (by kernel_rfl) (by kernel_rfl) (.cons _ (.refl _)) (aD (bK rfl rfl rfl) rfl rfl (aK (bK rfl rfl rfl) rfl rfl (aF (bK rfl rfl rfl) fl58_0 rfl rfl (aH (bK rfl rfl rfl) sc3 rfl Bt (by first|rfl) bC rfl ?_)))))))))))
 refine op_eql (bK rfl rfl rfl) rfl rfl rfl (aD (bK rfl rfl rfl) rfl rfl (bU (d:=14) rfl (fun g14=>?_) (fun g14=>?_)))
 rotate_left
 ·exact absurd hki g14
 refine aL (ds:=u64s (wl n)) (nxsgf rfl rfl rfl rfl rfl rfl) ag26 rfl B4 (by first|(rw [List.drop_zero,List.take_of_length_le (by first|(simp;done)|(simp;omega))];done)|rfl) (by first|(simp;done)|(simp;omega)) aN rfl ?_
 refine aR (Nx.agree (nxsgm rfl rfl rfl rfl rfl rfl)) (.cons rfl .nil) (WOf_f 36) Try.func87 rfl rfl (by simp) rfl ?_
 rintro v16 L16 ⟨rfl,rfl⟩
 change At _ _ _ [Mp,N4,Nt,R] _
 refine At.moreS (Lst:= [N4,Nt,R]) (Lst':= [N4,Nt,R]) (.refl _) (.cons _ (.refl _)) (aR (Nx.agree (nxsgs rfl rfl rfl rfl rfl rfl rfl)) (.cons rfl (.cons rfl .nil)) (WCmp_f hn (show(36:UInt64).toNat<WW by decide)) Try.func128 rfl rfl (by simp) rfl ?_)
 rintro v17 L17 ⟨rfl,rfl⟩
 change At _ _ _ [Mp,N4,Nt,R] _
 refine At.anyS (.refl _) (op_gtr (nxsgf rfl rfl rfl rfl rfl rfl) rfl rfl rfl (bW (bK rfl rfl rfl) rfl rfl rfl (At.sNil (aB (s_3 (aP rfl (fun c19=>?_) (fun c19=>?_)))))))
 rotate_left
 ·exact absurd (show 0<cmpN n (UInt64.toNat 36) by rw [show UInt64.toNat 36=36 from rfl,cmpN_gt h36];decide) c19
 refine At.knowT (d:=19) rfl c19 (At.seq fun _ s_4=>At.drawn [2,3] [0,1,2,3] (by kernel_rfl) (by kernel_rfl) ?_)
 refine aL (ds:=u64s (wl n)) (aY rfl rfl rfl (by kernel_rfl)) ag26 rfl B4 (by first|(rw [List.drop_zero,List.take_of_length_le (by first|(simp;done)|(simp;omega))];done)|rfl) (by first|(simp;done)|(simp;omega)) bC rfl ?_
 refine aR (nxoa rfl rfl rfl) (.cons rfl .nil) (WOf_f 35) Try.func87 rfl rfl (by simp) rfl ?_
 rintro v21 L21 ⟨rfl,rfl⟩
 change At _ _ _ [Mp,N4,Nt,R] _
 refine aR (nxosa rfl rfl rfl rfl) (.cons rfl (.cons rfl .nil)) (WSub_f hn (show(35:UInt64).toNat<WW by decide)) Try.func129 rfl rfl (by simp) rfl ?_
 rintro v22 L22 ⟨rfl,rfl⟩
 change At _ _ _ [Mp,N4,Nt,R] _
 rw [sub35 h36];obtain⟨m,hm⟩: ∃m,n- 35=m:=⟨_,rfl⟩;rw [hm];have hmW:m<WW:=by omega
 refine aG (nxos rfl rfl rfl rfl) sz26 rfl rfl rfl rfl rfl B4 (by simp) bZ (fun N4 B4=>?_)
 rw [bD (by simp)]at B4
 refine At.oneNil (aB (s_4 (At.seq fun _ s_5=>At.region (aD (aC rfl) rfl rfl (bY (aC rfl) ae26 rfl rfl (show _=((0:Nat):Int)from rfl) (by omega) rfl (aH (aC rfl) sc24 rfl B4 (by first|exact get64A (by omega)|rfl) aN rfl ?_))))))
 refine op_andU (b:=1) (aC rfl) rfl rfl rfl (op_eql (aC rfl) rfl rfl rfl (aK (aC rfl) rfl rfl (aF (aC rfl) fl58_13 rfl rfl ?_)))
 refine aG (nxl rfl) sz4 rfl rfl rfl rfl rfl Bt (by rw [hln];exact show 0+44+1≤53 by decide) aX (fun Nt Bt=>?_)
 rw [part_put hls (j:=13) (o:=0+44) rfl rfl]at Bt;change Blk Nt bt 58 (txP ki ch nn pr tp ga mk to va d a bf b (decide (_=_)) r s).flatten at Bt
 refine aA (aB (s_5 (At.seq fun _ s_6=>At.drawn [2,3] [1,0,2,3,4,5,6,7,8] (by kernel_rfl) (by kernel_rfl) ?_)))
 refine aL (ds:=u64s (wl m)) (aY rfl rfl rfl (by kernel_rfl)) ag26 rfl B4 (by first|(rw [List.drop_zero,List.take_of_length_le (by first|(simp;done)|(simp;omega))];done)|rfl) (by first|(simp;done)|(simp;omega)) bC rfl ?_
 refine aR (nxoa rfl rfl rfl) (.cons rfl .nil) (WOf_f 1) Try.func87 rfl rfl (by simp) rfl ?_
 rintro v31 L31 ⟨rfl,rfl⟩
 change At _ _ _ [Nt,N4,Mp,R] _
 refine aR (nxosa rfl rfl rfl rfl) (.cons rfl (.cons rfl .nil)) (WShr_f (show(1:UInt64).toNat<WW by decide) hmW) Try.func130 rfl rfl (by simp) rfl ?_
 rintro v33 L33 ⟨rfl,rfl⟩
 change At _ _ _ [Nt,N4,Mp,R] _
 refine aR (nxosa rfl rfl rfl rfl) (.cons rfl .nil) (WSmall_b (Nat.lt_of_le_of_lt (Nat.div_le_self _ _) hmW)) Try.func113 rfl rfl (by simp) rfl ?_
 rintro v34 L34 ⟨rfl,rfl⟩
 change At _ _ _ [Nt,N4,Mp,R] _
 refine aD (aY rfl rfl rfl (by kernel_rfl)) rfl rfl (aM (aY rfl rfl rfl (by kernel_rfl)) rfl rfl rfl (aM (aY rfl rfl rfl (by kernel_rfl)) rfl rfl rfl (aE (aY rfl rfl rfl (by kernel_rfl)) rfl rfl (aE (aY rfl rfl rfl (by kernel_rfl)) rfl rfl (At.oneNil (aB (s_6 (At.seq fun _ s_7=>At.seq fun _ s_8=>At.region (aD (aC rfl) rfl rfl (op_notP (aC rfl) rfl rfl (aA (aB (s_8 (aP rfl (fun c38=>?_) (fun c38=>?_)))))))))))))))
 ·refine At.knowT (d:=38) rfl c38 (At.region (aQ (.cons rfl .nil) (FCheck_e (by decide)) (F:= [Nt,N4,Mp,R]) Try.func65 rfl rfl (.refl _) (by simp) rfl ?_ ?_))
  ·rintro v39 L39 ⟨rfl,rfl⟩
   change At _ _ _ [Nt,N4,Mp,R] _
   refine aI (aI ((At.sub (L':= [Nt,R]) (.cons_cons _ (.cons _ (.cons _ (.cons_cons _ (.slnil))))) (a0 (L1:= [Nt]) (.refl _) (.refl _) ?_))))
   rw [amt1, ←hm]at c38
   exact⟨3,Nt,_,rfl,rfl,vE_A3 he hki h36 c38,Bt,hlnO _⟩
  intro _ _ h_;exact h_.elim
 refine At.knowF (d:=38) rfl c38 (At.skip (aB (s_7 (At.seq fun _ s_9=>At.region (aD (aC rfl) rfl rfl (aD (aC rfl) rfl rfl (aK (aC rfl) rfl rfl (aF (aC rfl) fl58_1 rfl rfl ?_))))))))
 refine aG (nxl rfl) sz24 rfl rfl rfl rfl rfl Bt (by rw [hlnO];exact show 0+1+1≤53 by decide) sel0 (fun Nt Bt=>?_)
 rw [part_put (hlsO _) (j:=1) (o:=0+1) rfl rfl]at Bt;change Blk Nt bt 58 (txP ki _ nn pr tp ga mk to va d a bf b (decide (_=_)) r s).flatten at Bt
 refine aA (aB (s_9 (At.ret (aT ((At.retX (At.sub (L':= [Nt,Mp,R]) (.cons_cons _ (.cons _ (.cons_cons _ (.cons_cons _ (.slnil))))) (At.perm aX (At.perm bZ (At.perm aX (bF (L1:= [Mp,Nt]) rfl .nil rfl (.refl _) (.refl _) ?_)))))))))))
 have k:=Decidable.not_not.1 c38
 rw [amt1]at k
 rw [amt1,if_pos k]at Bt
 have e:=odd_is m
 subst hm
 exact⟨Mp,Nt,(n- 35)/2,_,rfl,rfl,vE_A he hki h36 k,hp,e▸Bt⟩
theorem FV_E (h:PartsN Np NI bp (z::zs) (t::ts)) (ht:to.length=20) {e0:Nat} (hw:wordE t=.error e0) (B:Blk Nt bt 58 (txP ki ch nn pr tp ga mk to va d a bf b od r s).flatten):
 FnE Try.prog 110 #[.pointer (some ⟨bp,0,none⟩),.pointer (some ⟨bt,0,none⟩)] [Np,Nt] [NI] (fun v L=> ∃Np Nt c o,v=.tuple #[]∧L= [Np,Nt]∧vE ki ch t=.ok (c,o)∧PartsN Np NI bp zs ts∧Blk Nt bt 58 (txP ki c nn pr tp ga mk to va d a bf b o r s).flatten) (fun v L=> ∃(e:Nat) (Nt:Heaplet) (cs:List Value),v=gaveV e∧L= [Nt]∧vE ki ch t=.error e∧Blk Nt bt 58 cs∧cs.length=53):=by
 have hln:=bG (ki:=ki) (ch:=ch) (nn:=nn) (pr:=pr) (tp:=tp) (ga:=ga) (mk:=mk) (va:=va) (d:=d) (a:=a) (bf:=bf) (b:=b) (od:=od) (r:=r) (s:=s) ht
 have h1:FnE Try.prog 105 #[.pointer (some ⟨bp,0,none⟩)] [Np] [NI] (fun _ _=>False) (fun v L=> ∃e:Nat,v=gaveV e∧L= []∧wordE t=.error e):=(FWord_p h).mono (fun v L ⟨_,_,_,_,he,_⟩=>by rw [hw]at he;cases he) (fun _ _ hp=>hp)
 refine FnE.enter (vs:= [.pointer (some ⟨bp,0,none⟩),.pointer (some ⟨bt,0,none⟩)]) Try.func110 rfl rfl rfl ?_
 intro E R hR
 have h1:=h1.liftB (hR NI (by simp))
 have Bt:=B
 change At _ _ E [Np,Nt,R] _
 refine At.seq fun _ s_1=>At.region (aD (aC rfl) rfl rfl (aQ (.cons rfl .nil) (h1) (F:= [Nt,R]) Try.func105 rfl rfl (.refl _) (by simp) rfl ?_ ?_))
 ·rintro v8 L8 ⟨e,rfl,rfl,he⟩
  change At _ _ _ [Nt,R] _
  refine aI ((a0 (L1:= [Nt]) (.refl _) (.refl _) ?_))
  exact⟨e,Nt,_,rfl,rfl,by simp only [vE,he],Bt,hln⟩
 intro _ _ h_;exact h_.elim
theorem FV_p (h:PartsN Np NI bp (z::zs) (t::ts)) (ht:to.length=20) (B:Blk Nt bt 58 (txP ki ch nn pr tp ga mk to va d a bf b od r s).flatten):
 FnE Try.prog 110 #[.pointer (some ⟨bp,0,none⟩),.pointer (some ⟨bt,0,none⟩)] [Np,Nt] [NI] (fun v L=> ∃Np Nt c o,v=.tuple #[]∧L= [Np,Nt]∧vE ki ch t=.ok (c,o)∧PartsN Np NI bp zs ts∧Blk Nt bt 58 (txP ki c nn pr tp ga mk to va d a bf b o r s).flatten) (fun v L=> ∃(e:Nat) (Nt:Heaplet) (cs:List Value),v=gaveV e∧L= [Nt]∧vE ki ch t=.error e∧Blk Nt bt 58 cs∧cs.length=53):=by
 by_cases hki:ki=0
 ·cases hw:wordE t with
  |error e=>exact FV_E h ht hw B
  |ok n=>
   rcases Nat.lt_or_ge 36 n with k|k
   ·exact FV_A h ht hki hw k B
   ·exact FV_B h ht hki hw k B
 ·exact FV_C h ht hki B
end
end Go.Proofs.Ytljacjjeinmfnaa
/- Layer 14: a transaction, and what its list of parts gives. No condition. -/
namespace Go.Proofs.Ytljacjjeinmfnaa
open Go Go.RowKit
set_option maxRecDepth 100000
/-- A transaction, without where its lists lie. -/
structure TxM where
 ki:Int
 ch:Nat
 nn:Nat
 pr:Nat
 tp:Nat
 ga:Nat
 ma:Bool
 to:List UInt8
 va:Nat
 da:List UInt8
 ac:List AccM
 bf:Nat
 bb:List (List UInt8)
 od:Bool
 r:Nat
 s:Nat
def TxM.cells (m:TxM) (d a b:Value):List Value:=(txP m.ki m.ch m.nn m.pr m.tp m.ga m.ma m.to m.va d a m.bf b m.od m.r m.s).flatten
/-- The transaction's own numbers fit. -/
structure TxM.Ok (m:TxM):Prop where
 ch:m.ch<2^64
 nn:m.nn<2^64
 pr:m.pr<WW
 tp:m.tp<WW
 ga:m.ga<2^64
 to:m.to.length=20
 va:m.va<WW
 bf:m.bf<WW
 bb: ∀h∈m.bb,h.length=32
 r:m.r<WW
 s:m.s<WW
/-- What no bytes give. -/
def TxM.zero:TxM:=⟨0,0,0,0,0,0,false,zero20,0,[],[],0,[],false,0,0⟩
def eb {α β:Type} (x:Except Nat α) (f:α→Except Nat β):Except Nat β:=match x with
 |.ok a=>f a
 |.error e=>.error e
def tx0:List It→Except Nat TxM
 | [n,p,g,t,v,d,w,r,s]=>
  eb (smallE n) fun nn=>eb (wordE p) fun pr=>eb (smallE g) fun ga=>eb (toE 0 t) fun mt=>eb (wordE v) fun va=>eb (strE d) fun da=>eb (vE 0 0 w) fun co=>eb (wordE r) fun r=>eb (wordE s) fun s=>
  .ok ⟨0,co.1,nn,pr,0,ga,mt.1,mt.2,va,da,[],0,[],co.2,r,s⟩
 |_=>.error 2
def tx1:List It→Except Nat TxM
 | [c,n,p,g,t,v,d,a,w,r,s]=>
  eb (smallE c) fun ch=>eb (smallE n) fun nn=>eb (wordE p) fun pr=>eb (smallE g) fun ga=>eb (toE 1 t) fun mt=>eb (wordE v) fun va=>eb (strE d) fun da=>eb (accessE a) fun ac=>eb (vE 1 ch w) fun co=>eb (wordE r) fun r=>eb (wordE s) fun s=>
  .ok ⟨1,co.1,nn,pr,0,ga,mt.1,mt.2,va,da,ac,0,[],co.2,r,s⟩
 |_=>.error 2
def tx2:List It→Except Nat TxM
 | [c,n,u,p,g,t,v,d,a,w,r,s]=>
  eb (smallE c) fun ch=>eb (smallE n) fun nn=>eb (wordE u) fun tp=>eb (wordE p) fun pr=>eb (smallE g) fun ga=>eb (toE 2 t) fun mt=>eb (wordE v) fun va=>eb (strE d) fun da=>eb (accessE a) fun ac=>eb (vE 2 ch w) fun co=>eb (wordE r) fun r=>eb (wordE s) fun s=>
  .ok ⟨2,co.1,nn,pr,tp,ga,mt.1,mt.2,va,da,ac,0,[],co.2,r,s⟩
 |_=>.error 2
def tx3:List It→Except Nat TxM
 | [c,n,u,p,g,t,v,d,a,f,b,w,r,s]=>
  eb (smallE c) fun ch=>eb (smallE n) fun nn=>eb (wordE u) fun tp=>eb (wordE p) fun pr=>eb (smallE g) fun ga=>eb (toE 3 t) fun mt=>eb (wordE v) fun va=>eb (strE d) fun da=>eb (accessE a) fun ac=>eb (wordE f) fun bf=>eb (hashesE b) fun bb=>eb (vE 3 ch w) fun co=>eb (wordE r) fun r=>eb (wordE s) fun s=>
  .ok ⟨3,co.1,nn,pr,tp,ga,mt.1,mt.2,va,da,ac,bf,bb,co.2,r,s⟩
 |_=>.error 2
end Go.Proofs.Ytljacjjeinmfnaa
/- rlp.decode, rlp.Decode: what they give is the caller's own. No condition but that bytes are not longer than a machine holds. -/
namespace Go.Proofs.Ytljacjjeinmfnaa
open Go Go.RowKit
theorem Hp.nilP {E w:World} {L:List Heaplet} (h:Hp E L w):Hp E (nilH::L) w:=⟨h.os,h.tape,h.output,fun N hN=>by
 rcases List.mem_cons.1 hN with rfl|hN
 ·intro k o hk;cases hk
 ·exact h.sub N hN,by rw [List.pairwise_cons];exact⟨fun _ _ _=>.inl rfl,h.sep⟩⟩
def It.bytes:It→List UInt8
 |.mk _ bs _=>bs
def It.items:It→List It
 |.mk _ _ its=>its
def slB (x:IV):Value:=.slice x.ab x.nb x.cb
mutual
/-- Below each list of the item the items' bytes lie in blocks of their own. -/
def DepB (M:Heaplet):It→IV→Prop
 |.mk _ _ its,x=> ∃xs,RSl M 3 x.ai x.ni x.ci (cellsI xs)∧Bag 5 M (xs.map slB) (its.map It.bytes)∧DepBs M its xs
def DepBs (M:Heaplet):List It→List IV→Prop
 | [],xs=>xs= []
 |t::ts,xs=> ∃x r,xs=x::r∧DepB M t x∧DepBs M ts r
end
mutual
theorem DepB.le {N M:Heaplet} (hl:N.le M): ∀ {t:It} {x:IV},DepB N t x→DepB M t x
 |.mk l bs its,x,h=>by
  simp only [DepB]at h⊢
  obtain⟨xs,h1,h2,h3⟩:=h
  exact⟨xs,h1.le hl,h2.le hl,DepBs.le hl h3⟩
theorem DepBs.le {N M:Heaplet} (hl:N.le M): ∀ {ts:List It} {xs:List IV},DepBs N ts xs→DepBs M ts xs
 | [],xs,h=>by simp only [DepBs]at h⊢;exact h
 |t::ts,xs,h=>by
  simp only [DepBs]at h⊢
  obtain⟨x,r,h1,h2,h3⟩:=h
  exact⟨x,r,h1,DepB.le hl h2,DepBs.le hl h3⟩
end
theorem DepBs.nil (M:Heaplet):DepBs M [] []:=by simp only [DepBs]
theorem DepBs.snoc {M:Heaplet} : ∀ {ts:List It} {xs:List IV} {t:It} {x:IV},DepBs M ts xs→DepB M t x→DepBs M (ts++ [t]) (xs++ [x])
 | [],xs,t,x,h,k=>by
  simp only [DepBs]at h
  subst h
  show DepBs M [t] [x]
  simp only [DepBs]
  exact⟨x,[],rfl,k,rfl⟩
 |u::ts,xs,t,x,h,k=>by
  simp only [DepBs]at h
  obtain⟨y,r,rfl,h2,h3⟩:=h
  show DepBs M (u::(ts++ [t])) (y::(r++ [x]))
  simp only [DepBs]
  exact⟨y,r++ [x],rfl,h2,DepBs.snoc h3 k⟩
/-- The item's bytes, its list, its items' bytes lie in blocks of their own, and so on below. -/
def OwnTop (M:Heaplet) (t:It) (x:IV):Prop:=DepB M t x∧ ∃NB NR NS xs,[NB,NR,NS].Pairwise Apart∧M=joinL [NB,NR,NS]∧Row NB 5 1 x.ab x.nb x.cb (u8s t.bytes)∧Row NR 92 3 x.ai x.ni x.ci (cellsI xs)∧xs.length=x.ni∧Bag 5 NS (xs.map slB) (t.items.map It.bytes)
/-- No bytes in it are longer. -/
def Small (t:It) (n:Nat):Prop:=t.bytes.length≤n∧ ∀u∈t.items,u.bytes.length≤n
theorem join_nil (N:Heaplet):join2 N nilH=N:=by
 funext k
 simp only [join2]
 cases N k<;>rfl
theorem nil_join (N:Heaplet):join2 nilH N=N:=by
 funext k
 simp only [join2]
 rfl
theorem apart_nil (N:Heaplet):Apart N nilH:=fun _=>.inr rfl
theorem nil_apart (N:Heaplet):Apart nilH N:=fun _=>.inl rfl
theorem own_text {N:Heaplet} {p:List UInt8} {x:IV} (h:Row N 5 1 x.ab x.nb x.cb (u8s p)) (h0:x.ni=0) (h1:x.ai=none) (h2:x.ci=0) (l:Bool):OwnTop N (.mk l p []) x:=by
 refine⟨by simp only [DepB];rw [h0,h1,h2];exact⟨[],RSl.nil _ _,Bag.nil _ _,DepBs.nil _⟩,N,nilH,nilH,[],?_,?_,h,?_,by rw [h0];rfl,Bag.nil _ _⟩
 ·simp only [List.pairwise_cons,List.mem_cons,List.not_mem_nil,or_false]
  exact⟨fun M hM=>by rcases hM with rfl|rfl<;>exact apart_nil _,fun M hM=>nil_apart _,fun M hM=>hM.elim,.nil⟩
 ·simp only [joinL,join_nil,nil_join]
 ·rw [h0,h1,h2];exact Row.nil _ _ _
theorem own_list {Nr Ns:Heaplet} {done:List It} {xs:List IV} {ai:Option Addr} {ni ci:Nat} (ha:Apart Nr Ns) (hr:Row Nr 92 3 ai ni ci (cellsI xs)) (hn:xs.length=ni) (hb:Bag 5 Ns (xs.map slB) (done.map It.bytes)) (hob:DepBs Ns done xs):OwnTop (join2 Nr Ns) (.mk true [] done) ⟨true,none,0,0,ai,ni,ci⟩:=by
 refine⟨by simp only [DepB];exact⟨xs,hr.rsl.le join2_left,hb.le (join2_right ha),hob.le (join2_right ha)⟩,nilH,Nr,Ns,xs,?_,?_,Row.nil _ _ _,hr,hn,hb⟩
 ·simp only [List.pairwise_cons,List.mem_cons,List.not_mem_nil,or_false]
  exact⟨fun M hM=>nil_apart _,fun M hM=>by subst hM;exact ha,fun M hM=>hM.elim,.nil⟩
 ·simp only [joinL,join_nil,nil_join]
theorem OwnTop.row {M:Heaplet} {t:It} {x:IV} (h:OwnTop M t x):Row M 5 1 x.ab x.nb x.cb (u8s t.bytes):=by
 obtain⟨_,NB,NR,NS,xs,h1,rfl,h3,_⟩:=h
 exact h3.le (le_joinL h1 (by simp))
theorem small_more {done:List It} {t:It} {n:Nat} (h: ∀u∈done,u.bytes.length≤n) (ht:t.bytes.length≤n): ∀u∈done++ [t],u.bytes.length≤n:=by
 intro u hu
 rcases List.mem_append.1 hu with hu|hu
 ·exact h u hu
 ·rw [List.mem_singleton.1 hu];exact ht
theorem Bag.more {Ns M:Heaplet} {done:List It} {xs:List IV} {t:It} {x:IV} (h:Bag 5 Ns (xs.map slB) (done.map It.bytes)) (hr:Row M 5 1 x.ab x.nb x.cb (u8s t.bytes)) (ha:Apart Ns M):Bag 5 (join2 Ns M) ((xs++ [x]).map slB) ((done++ [t]).map It.bytes):=by
 have hl:t.bytes.length=x.nb:=by have:=hr.1;simpa using this
 have h2:Row M 5 1 x.ab t.bytes.length x.cb (u8s t.bytes):=by rw [hl];exact hr
 have:=h.snoc h2 ha.symm
 rw [List.map_append,List.map_append]
 show Bag _ _ (xs.map slB++ [slB x]) (done.map It.bytes++ [t.bytes])
 rw [slB, ←hl]
 refine this.le ?_
 intro k o hk
 simp only [join2]at hk⊢
 rcases ha k with h0|h0
 ·rw [h0];rw [h0]at hk
  cases hm:M k with
  |none=>rw [hm]at hk;cases hk
  |some o'=>rw [hm]at hk;simpa using hk
 ·rw [h0]at hk
  cases hn:Ns k with
  |none=>rw [hn]at hk;cases hk
  |some o'=>rw [hn]at hk;simpa using hk
/-- What decode tells. -/
def DecO (ao:Option Addr) (n cap:Nat) (b:List UInt8) (r:Except Nat (It×List UInt8)) (v:Value) (L:List Heaplet):Prop:=
 (∃t q M, ∃x:IV, ∃aq cq,r=.ok (t,q)∧v=.tuple #[.agg #[.bool x.l,.slice x.ab x.nb x.cb,.slice x.ai x.ni x.ci],.slice aq q.length cq,.int .i64 0]∧L= [M]∧ItN M t x∧OwnTop M t x∧Small t b.length∧ ∀N,RSl N 1 ao n cap (u8s b)→RSl N 1 aq q.length cq (u8s q))∨
 (∃e:Nat,r=.error e∧v=.tuple #[.agg #[.bool false,.slice none 0 0,.slice none 0 0],.slice none 0 0,.int .i64 (e:Int)]∧L= []∧e≠0)
theorem decode_noneO {N:Heaplet} {ao:Option Addr} {n cap:Nat} {b:List UInt8} (h:RSl N 1 ao n cap (u8s b)) (hn:n≤1099511627776) (hc:cutF b=none) (k:Nat) (q:Int):
 Fn Try.prog 104 #[.slice ao n cap,.int .i64 q] [] [N] (DecO ao n cap b (decF k b)):=by
 have hd:decF k b=.error 2:=by cases k<;>simp [decF,hc]
 refine Fn.enter (vs:= [.slice ao n cap,.int .i64 q]) Try.func104 rfl rfl rfl ?_
 intro E R hR
 have h:=h.le (hR N (by simp))
 change At _ _ E [R] _
 refine At.seq fun _ s_1=>At.region (aU (aV rfl) ze92 rfl (fun N4 b4 B4=>?_))
 change Blk N4 b4 _ [.bool false,.slice none 0 0,.slice none 0 0]at B4
 refine aE (aC rfl) rfl rfl (aE (aC rfl) rfl rfl (aA (aB (s_1 (At.seq fun _ s_2=>At.region (aD (aC rfl) rfl rfl (aR (aV rfl) (.cons rfl .nil) (cut_none h hn hc) Try.func124 rfl rfl (by simp) rfl ?_)))))))
 rintro v18 L18 ⟨rfl,rfl⟩
 change At _ _ _ [N4,R] _
 refine aD (aC rfl) rfl rfl (aM (aC rfl) rfl rfl rfl (aM (aC rfl) rfl rfl rfl (aE (aC rfl) rfl rfl (aE (aC rfl) rfl rfl (aA (aB (s_2 (At.seq fun _ s_3=>At.seq fun _ s_4=>At.region (aD (aC rfl) rfl rfl (op_eqNilT (aC rfl) (by kernel_rfl) rfl rfl (aA (aB (s_4 (At.condT rfl (At.seq fun _ s_5=>At.region (op_build (out:= [.bool false,.slice none 0 0,.slice none 0 0]) (aC rfl) ze92 pl92 .nil rfl rfl (aG (nxl rfl) sz92 rfl rfl rfl rfl rfl B4 (by simp) sel0 (fun N4 B4=>?_))))))))))))))))))
 simp only [setL,List.set]at B4
 refine aE (aC rfl) rfl rfl (aE (aC rfl) rfl rfl (aA (aB (s_5 (At.ret (aT ((bF (L1:= []) rfl (.cell rfl (bH (ds:= [_,_,_]) ag92 B4 rfl rfl aN) (.tmp rfl (.tmp rfl .nil))) rfl (.cons _ (.refl _)) (.refl _) ?_))))))))
 exact .inr ⟨2,hd,rfl,rfl,by decide⟩
theorem decode_textO {N:Heaplet} {ao:Option Addr} {n cap:Nat} {b p r:List UInt8} (h:RSl N 1 ao n cap (u8s b)) (hn:n≤1099511627776) (hc:cutF b=some (false,p,r)) (k:Nat) (q:Int):
 Fn Try.prog 104 #[.slice ao n cap,.int .i64 q] [] [N] (DecO ao n cap b (decF k b)):=by
 have hd:decF k b=.ok (.mk false p [],r):=by cases k<;>simp [decF,hc]
 have hlen:=h.len8
 have hcl:=(cutF_len hc).1
 refine Fn.enter (vs:= [.slice ao n cap,.int .i64 q]) Try.func104 rfl rfl rfl ?_
 intro E R hR
 have h:=h.le (hR N (by simp))
 change At _ _ E [R] _
 refine At.seq fun _ s_1=>At.region (aU (aV rfl) ze92 rfl (fun N4 b4 B4=>?_))
 change Blk N4 b4 _ [.bool false,.slice none 0 0,.slice none 0 0]at B4
 refine aE (aC rfl) rfl rfl (aE (aC rfl) rfl rfl (aA (aB (s_1 (At.seq fun _ s_2=>At.region (aD (aC rfl) rfl rfl (aR (aV rfl) (.cons rfl .nil) (cut_some h hn hc) Try.func124 rfl rfl (by simp) rfl ?_)))))))
 rintro v18 L18 ⟨a1,c1,a2,c2,rfl,rfl,h1,h2⟩
 change At _ _ _ [N4,R] _
 refine aD (aC rfl) rfl rfl (aM (aC rfl) rfl rfl rfl (aM (aC rfl) rfl rfl rfl (aE (aC rfl) rfl rfl (aE (aC rfl) rfl rfl (aA (aB (s_2 (At.seq fun _ s_3=>At.seq fun _ s_4=>At.region (aD (aC rfl) rfl rfl (op_eqNilF (aC rfl) (by kernel_rfl) rfl rfl (aA (aB (s_4 (At.condF rfl (At.skip (aB (s_3 (At.seq fun _ s_5=>At.seq fun _ s_6=>At.region (aD (aC rfl) rfl rfl ?_)))))))))))))))))))
 refine op_assertY (aC rfl) (by kernel_rfl) rfl rfl (aD (aC rfl) rfl rfl (aM (aC rfl) rfl rfl rfl (aM (aC rfl) rfl rfl rfl (aE (aC rfl) rfl rfl (aE (aC rfl) rfl rfl (aA (aB (s_6 (At.seq fun _ s_7=>At.region (aD (aC rfl) rfl rfl (aA (aB (s_7 (At.condT rfl (At.seq fun _ s_8=>At.region (aD (aC rfl) rfl rfl ?_))))))))))))))))
 refine op_append0 (aV rfl) Try.underlying27 Try.underlying184 te5 rfl rfl (by assumption) (by first|exact aN|exact bC|exact bV|exact mem3|exact mem4|exact mem5|exact mem6|exact mem7|exact mem8|exact mem9) (by first|exact one_u8s _|exact one_u64s _|exact one_u32s _|(intro u hu;simp at hu;subst hu;rfl)) (by omega) (by omega) rfl (fun N31 a31 p31 r31=>?_)
 have s31:=r31.rsl
 refine op_build (out:= [.bool false,_,.slice none 0 0]) (aC rfl) ze92 pl92 (.cons rfl .nil) rfl rfl (aD (aC rfl) rfl rfl (aG (nxl rfl) sz92 rfl rfl rfl rfl rfl B4 (by simp) bZ (fun N4 B4=>?_)))
 simp only [setL,List.set]at B4
 refine aE (aC rfl) rfl rfl (aE (aC rfl) rfl rfl (aA (aB (s_8 (At.ret (aT ((bF (L1:= [N31]) rfl (.cell rfl (bH (ds:= [_,_,_]) ag92 B4 rfl rfl aN) (.tmp rfl (.tmp rfl .nil))) rfl (.cons _ (.refl _)) (.refl _) ?_))))))))
 exact .inl ⟨_,_,N31,⟨false,a31,p.length,p31,none,0,0⟩,a2,c2,hd,rfl,rfl,ItN.mk s31 (xs:= []) (RSl.nil _ _) rfl,own_text r31 rfl rfl rfl _,⟨by show p.length≤b.length;omega,fun u hu=>absurd hu List.not_mem_nil⟩,h2⟩
theorem decode_deepO {N:Heaplet} {ao:Option Addr} {n cap:Nat} {b p r:List UInt8} (h:RSl N 1 ao n cap (u8s b)) (hn:n≤1099511627776) (hc:cutF b=some (true,p,r)):
 Fn Try.prog 104 #[.slice ao n cap,.int .i64 1024] [] [N] (DecO ao n cap b (decF 0 b)):=by
 have hd:decF 0 b=.error 7:=by simp [decF,hc]
 refine Fn.enter (vs:= [.slice ao n cap,.int .i64 1024]) Try.func104 rfl rfl rfl ?_
 intro E R hR
 have h:=h.le (hR N (by simp))
 change At _ _ E [R] _
 refine At.seq fun _ s_1=>At.region (aU (aV rfl) ze92 rfl (fun N4 b4 B4=>?_))
 change Blk N4 b4 _ [.bool false,.slice none 0 0,.slice none 0 0]at B4
 refine aE (aC rfl) rfl rfl (aE (aC rfl) rfl rfl (aA (aB (s_1 (At.seq fun _ s_2=>At.region (aD (aC rfl) rfl rfl (aR (aV rfl) (.cons rfl .nil) (cut_some h hn hc) Try.func124 rfl rfl (by simp) rfl ?_)))))))
 rintro v18 L18 ⟨a1,c1,a2,c2,rfl,rfl,h1,h2⟩
 change At _ _ _ [N4,R] _
 refine aD (aC rfl) rfl rfl (aM (aC rfl) rfl rfl rfl (aM (aC rfl) rfl rfl rfl (aE (aC rfl) rfl rfl (aE (aC rfl) rfl rfl (aA (aB (s_2 (At.seq fun _ s_3=>At.seq fun _ s_4=>At.region (aD (aC rfl) rfl rfl (op_eqNilF (aC rfl) (by kernel_rfl) rfl rfl (aA (aB (s_4 (At.condF rfl (At.skip (aB (s_3 (At.seq fun _ s_5=>At.seq fun _ s_6=>At.region (aD (aC rfl) rfl rfl ?_)))))))))))))))))))
 refine op_assertN (aC rfl) (by kernel_rfl) ze184 rfl rfl rfl (aD (aC rfl) rfl rfl (aM (aC rfl) rfl rfl rfl (aM (aC rfl) rfl rfl rfl (aE (aC rfl) rfl rfl (aE (aC rfl) rfl rfl (aA (aB (s_6 (At.seq fun _ s_7=>At.region (aD (aC rfl) rfl rfl (aA (aB (s_7 (At.condF rfl (At.skip (aB (s_5 (At.seq fun _ s_8=>At.seq fun _ s_9=>At.region (aD (aC rfl) rfl rfl (op_eql (aC rfl) rfl rfl rfl ?_))))))))))))))))))))
 refine aA (aB (s_9 (aP rfl (fun c35=>?_) (fun c35=>?_))))
 rotate_left
 ·exact absurd rfl c35
 refine At.seq fun _ s_10=>At.region (op_build (out:= [.bool false,.slice none 0 0,.slice none 0 0]) (aC rfl) ze92 pl92 .nil rfl rfl (aG (nxl rfl) sz92 rfl rfl rfl rfl rfl B4 (by simp) sel0 (fun N4 B4=>?_)))
 simp only [setL,List.set]at B4
 refine aE (aC rfl) rfl rfl (aE (aC rfl) rfl rfl (aA (aB (s_10 (At.ret (aT ((bF (L1:= []) rfl (.cell rfl (bH (ds:= [_,_,_]) ag92 B4 rfl rfl aN) (.tmp rfl (.tmp rfl .nil))) rfl (.cons _ (.refl _)) (.refl _) ?_))))))))
 exact .inr ⟨7,hd,rfl,rfl,by decide⟩
theorem decode_itsO {N:Heaplet} {ao:Option Addr} {n cap:Nat} {b p r:List UInt8} (h:RSl N 1 ao n cap (u8s b)) (hn:n≤1099511627776) (hc:cutF b=some (true,p,r)) (k:Nat) (q:Int) (hq:q+k+1=1024) (hk0:0≤q)
 (ih: ∀(N:Heaplet) (ao:Option Addr) (n cap:Nat) (b:List UInt8) (q:Int),RSl N 1 ao n cap (u8s b)→n≤1099511627776→q+k=1024→0≤q→Fn Try.prog 104 #[.slice ao n cap,.int .i64 q] [] [N] (DecO ao n cap b (decF k b))):
 Fn Try.prog 104 #[.slice ao n cap,.int .i64 q] [] [N] (DecO ao n cap b (decF (k+1) b)):=by
 have hlen:=h.len8
 have hcl:=(cutF_len hc).1
 refine Fn.enter (vs:= [.slice ao n cap,.int .i64 q]) Try.func104 rfl rfl rfl ?_
 intro E R hR
 have h:=h.le (hR N (by simp))
 change At _ _ E [R] _
 refine At.seq fun _ s_1=>At.region (aU (aV rfl) ze92 rfl (fun N4 b4 B4=>?_))
 change Blk N4 b4 _ [.bool false,.slice none 0 0,.slice none 0 0]at B4
 refine aE (aC rfl) rfl rfl (aE (aC rfl) rfl rfl (aA (aB (s_1 (At.seq fun _ s_2=>At.region (aD (aC rfl) rfl rfl (aR (aV rfl) (.cons rfl .nil) (cut_some h hn hc) Try.func124 rfl rfl (by simp) rfl ?_)))))))
 rintro v18 L18 ⟨a1,c1,a2,c2,rfl,rfl,h1,h2⟩
 change At _ _ _ [N4,R] _
 refine aD (aC rfl) rfl rfl (aM (aC rfl) rfl rfl rfl (aM (aC rfl) rfl rfl rfl (aE (aC rfl) rfl rfl (aE (aC rfl) rfl rfl (aA (aB (s_2 (At.seq fun _ s_3=>At.seq fun _ s_4=>At.region (aD (aC rfl) rfl rfl (op_eqNilF (aC rfl) (by kernel_rfl) rfl rfl (aA (aB (s_4 (At.condF rfl (At.skip (aB (s_3 (At.seq fun _ s_5=>At.seq fun _ s_6=>At.region (aD (aC rfl) rfl rfl ?_)))))))))))))))))))
 refine op_assertN (aC rfl) (by kernel_rfl) ze184 rfl rfl rfl (aD (aC rfl) rfl rfl (aM (aC rfl) rfl rfl rfl (aM (aC rfl) rfl rfl rfl (aE (aC rfl) rfl rfl (aE (aC rfl) rfl rfl (aA (aB (s_6 (At.seq fun _ s_7=>At.region (aD (aC rfl) rfl rfl (aA (aB (s_7 (At.condF rfl (At.skip (aB (s_5 (At.seq fun _ s_8=>At.seq fun _ s_9=>At.region (aD (aC rfl) rfl rfl (op_eql (aC rfl) rfl rfl rfl ?_))))))))))))))))))))
 refine aA (aB (s_9 (aP rfl (fun c35=>?_) (fun c35=>?_))))
 ·exfalso;omega
 refine At.skip (aB (s_8 (At.seq fun _ s_10=>At.region (op_build (out:= [_,.slice none 0 0,.slice none 0 0]) (aC rfl) ze92 pl92 (.cons rfl .nil) rfl rfl (aU (aV rfl) ze92 rfl (fun N11 b11 B11=>?_))))))
 change Blk N11 b11 _ [.bool false,.slice none 0 0,.slice none 0 0]at B11
 refine aG (nxl rfl) sz92 rfl rfl rfl rfl rfl B11 (by simp) sel0 (fun N11 B11=>?_)
 simp only [setL,List.set]at B11
 refine aA (aB (s_10 (At.seq fun _ s_11=>At.seq fun _ s_12=>At.region (aD (aC rfl) rfl rfl (op_assert1 (aC rfl) (by kernel_rfl) rfl rfl (aE (aC rfl) rfl rfl (aA (aB (s_12 (At.block (At.empty (At.empty (At.perm bJ (At.perm bZ (At.perm aX (At.perm aW (At.perm bJ ?_)))))))))))))))))
 refine At.loop (fun fr_ hp_ ms_=> ∃(p':List UInt8) (ac:Option Addr) (m cc:Nat) (done:List It) (xs:List IV) (ai:Option Addr) (ni ci:Nat) (N11 Nr Ns:Heaplet),fr_= [(0,.slice ao n cap),(1,.int .i64 q),(4,.pointer (some ⟨b4,0,none⟩)),(8,.slice a2 r.length c2),(11,.pointer (some ⟨b11,0,none⟩)),(12,.slice ac m cc)]∧hp_= [N4,N11,Nr,Ns,R]∧m=ms_∧(RSl R 1 ac m cc (u8s p'))∧(Blk N11 b11 92 [.bool true,.slice none 0 0,.slice ai ni ci])∧(Row Nr 92 3 ai ni ci (cellsI xs))∧(xs.length=ni)∧(ItsN Ns done xs)∧(Bag 5 Ns (xs.map slB) (done.map It.bytes))∧(DepBs Ns done xs)∧(∀u∈done,u.bytes.length≤p.length)∧(itF (decF k) p=exMap (done++ ·) (itF (decF k) p'))∧(ni+m≤p.length)) ?_ (.refl _) ⟨p,a1,p.length,c1,[],[],none,0,0,N11,nilH,nilH,rfl,rfl,rfl,h1,B11,Row.nil _ _ _,rfl,rfl,Bag.nil _ _,DepBs.nil _,fun u hu=>absurd hu List.not_mem_nil,by cases itF (decF k) p<;>rfl,by omega⟩ ?_
 ·exact .cons (by first|exact bE rfl (by omega)|rfl) (.cons (by first|exact bE rfl (by omega)|rfl) (.cons (by first|exact bE rfl (by omega)|rfl) (.cons (by first|exact bE rfl (by omega)|rfl) (.cons (by first|exact bE rfl (by omega)|rfl) (.cons (by first|exact bE rfl (by omega)|rfl) .nil)))))
 rintro _ _ _ ⟨p',ac,m,cc,done,xs,ai,ni,ci,N11,Nr,Ns,rfl,rfl,rfl,sc,B11,rr,hni,hs,hbag,hob,hsm,H,hcnt⟩
 have hlp:=sc.len8
 have sr:=rr.rsl
 refine At.seq fun _ s_13=>At.seq fun _ s_14=>At.region (aD (aC rfl) rfl rfl (bP (aC rfl) se27 rfl rfl (op_gtr (aC rfl) rfl rfl rfl (aA (aB (s_14 (aP rfl (fun c42=>?_) (fun c42=>?_))))))))
 ·refine At.skip (aB (s_13 (At.block (At.seq fun _ s_15=>At.region (aD (aC rfl) rfl rfl (aD (aC rfl) rfl rfl (bI (aC rfl) rfl rfl (by omega) (by omega) rfl (aR (aV rfl) (.cons rfl (.cons rfl .nil)) (ih R ac m cc p' (q+1) sc (by omega) (by omega) (by omega)) Try.func104 rfl rfl (by simp) rfl ?_))))))))
  rintro v47 L47 (⟨t,q',M47,x,aq,cq,he,rfl,rfl,hi,ho,hsz,hqq⟩|⟨e,he,rfl,rfl,hne⟩)
  ·change At _ _ _ [M47,N4,N11,Nr,Ns,R] _
   refine aD (aC rfl) rfl rfl (aM (aC rfl) rfl rfl rfl (aM (aC rfl) rfl rfl rfl (aM (aC rfl) rfl rfl rfl (aU (aV rfl) ze92 rfl (fun N13 b13 B13=>?_)))))
   change Blk N13 b13 _ [.bool false,.slice none 0 0,.slice none 0 0]at B13
   refine aG (nxl rfl) sz92 rfl rfl rfl rfl rfl B13 (by simp) sel0 (fun N13 B13=>?_)
   simp only [setL,List.set]at B13
   refine aE (aC rfl) rfl rfl (aE (aC rfl) rfl rfl (aA (aB (s_15 (At.seq fun _ s_16=>At.seq fun _ s_17=>At.region (aD (aC rfl) rfl rfl (op_neq (aC rfl) rfl rfl rfl (aA (aB (s_17 (At.condF rfl (At.skip (aB (s_16 (At.seq fun _ s_18=>At.region (aF (aC rfl) fl92_2 rfl rfl (aH (aC rfl) sc90 rfl B11 (by first|rfl) mem3 rfl ?_)))))))))))))))))
   refine aL (ds:= [_,_,_]) (aC rfl) ag92 rfl B13 rfl rfl aN rfl (op_lit (aV rfl) Try.underlying90 ze92 sz92 (.cons rfl .nil) rfl rfl (by simp [Value.cells]) rfl rfl rfl (fun N58 a58 r58=>?_))
   simp only [flatV,List.flatMap_cons,List.flatMap_nil,Value.cells,List.append_nil,List.cons_append,List.nil_append]at r58
   have s58:=r58.rsl
   refine op_append (nxl rfl) Try.underlying90 Try.underlying90 te92 rfl rfl rr (by assumption) (by first|exact aN|exact bC|exact bV|exact mem3|exact mem4|exact mem5|exact mem6|exact mem7|exact mem8|exact mem9) (by intro u hu;simp at hu;rcases hu with rfl|rfl|rfl<;>rfl) (by omega) (by omega) bL rfl (fun N59 a59 p59 r59=>?_)
   have s59:=r59.rsl
   refine aF (aC rfl) fl92_2 rfl rfl (aG (nxl rfl) sz90 rfl rfl rfl rfl rfl B11 (by simp) bL (fun N11 B11=>?_))
   simp only [setL,List.set]at B11
   refine aA (aB (s_18 (At.region (aD (aC rfl) rfl rfl (aE (aC rfl) rfl rfl (aA (bB (aB (At.perm sel7 (At.perm bR (At.perm bL (At.perm bL (At.perm bL (At.perm bL (At.perm bR (At.perm sel7 (At.merge (fun hap=>At.sub (L':= [(join2 Ns M47),N11,N59,N4,R]) (.cons_cons _ (.cons_cons _ (.cons_cons _ (.cons _ (.cons _ (.cons_cons _ (.cons_cons _ (.slnil)))))))) (At.perm bJ (At.perm bZ (At.perm aW ?_)))))))))))))))))))))
   refine At.perm aW (At.perm bJ ?_)
   refine At.back ?_ (.refl _) ⟨q',aq,q'.length,cq,done++ [t],xs++ [x],a59,ni+1,p59,N11,N59,join2 Ns M47,rfl,rfl,rfl,hqq R sc,B11,by rw [cellsI,List.flatMap_append];exact r59,by simp [hni],(hs.le join2_left).snoc (hi.le (join2_right hap)),hbag.more ho.row hap,(hob.le join2_left).snoc (ho.1.le (join2_right hap)),small_more hsm (by have:=hsz.1;omega),by rw [H,itF_ok (fun b t q h=>decF_lt h) (by omega) he,exMap_map];congr 1;funext l;simp,by have:=decF_lt he;omega⟩ ?_
   ·exact .cons (by first|exact bE rfl (by omega)|rfl) (.cons (by first|exact bE rfl (by omega)|rfl) (.cons (by first|exact bE rfl (by omega)|rfl) (.cons (by first|exact bE rfl (by omega)|rfl) (.cons (by first|exact bE rfl (by omega)|rfl) (.cons (by first|exact bE rfl (by omega)|rfl) .nil)))))
   ·exact(by have:=decF_lt he;omega)
  change At _ _ _ [N4,N11,Nr,Ns,R] _
  refine aD (aC rfl) rfl rfl (aM (aC rfl) rfl rfl rfl (aM (aC rfl) rfl rfl rfl (aM (aC rfl) rfl rfl rfl (aU (aV rfl) ze92 rfl (fun N13 b13 B13=>?_)))))
  change Blk N13 b13 _ [.bool false,.slice none 0 0,.slice none 0 0]at B13
  refine aG (nxl rfl) sz92 rfl rfl rfl rfl rfl B13 (by simp) sel0 (fun N13 B13=>?_)
  simp only [setL,List.set]at B13
  refine aE (aC rfl) rfl rfl (aE (aC rfl) rfl rfl (aA (aB (s_15 (At.seq fun _ s_19=>At.seq fun _ s_20=>At.region (aD (aC rfl) rfl rfl (op_neq (aC rfl) rfl rfl rfl (aA (aB (s_20 (aP rfl (fun c52=>?_) (fun c52=>?_))))))))))))
  rotate_left
  ·exfalso;omega
  refine At.seq fun _ s_21=>At.region (op_build (out:= [.bool false,.slice none 0 0,.slice none 0 0]) (aC rfl) ze92 pl92 .nil rfl rfl (aD (aC rfl) rfl rfl (aG (nxl rfl) sz92 rfl rfl rfl rfl rfl B4 (by simp) bZ (fun N4 B4=>?_))))
  simp only [setL,List.set]at B4
  refine aE (aC rfl) rfl rfl (aE (aC rfl) rfl rfl (aA (aB (s_21 (At.ret (aT (At.inRet (aT (At.inRet (aT ((At.sub (L':= [N4,R]) (.cons_cons _ (.cons _ (.cons _ (.cons _ (.cons _ (.cons_cons _ (.slnil))))))) (bF (L1:= []) rfl (.cell rfl (bH (ds:= [_,_,_]) ag92 B4 rfl rfl aN) (.tmp rfl (.tmp rfl .nil))) rfl (.cons _ (.refl _)) (.refl _) ?_)))))))))))))
  exact .inr ⟨e,by simp [decF,hc,H,itF_error (show 0<p'.length by omega) he,exMap],rfl,rfl,hne⟩
 refine At.exit (aO (aO (At.inHit (aB (s_11 (At.seq fun _ s_22=>At.region (aL (ds:= [_,_,_]) (aC rfl) ag92 rfl B11 rfl rfl bC rfl (aD (aC rfl) rfl rfl (aG (nxl rfl) sz92 rfl rfl rfl rfl rfl B4 (by simp) sel0 (fun N4 B4=>?_))))))))))
 simp only [setL,List.set]at B4
 refine aE (aC rfl) rfl rfl (aE (aC rfl) rfl rfl (aA (aB (s_22 (At.ret ((At.perm bJ (At.perm aX (At.perm aX (At.perm bJ (At.perm bJ (At.merge (fun hap=>At.sub (L':= [(join2 Nr Ns),N4,R]) (.cons_cons _ (.cons_cons _ (.cons _ (.cons_cons _ (.slnil))))) (At.perm aX (At.perm bZ (At.perm aX (bF (L1:= [(join2 Nr Ns)]) rfl (.cell rfl (bH (ds:= [_,_,_]) ag92 B4 rfl rfl aN) (.tmp rfl (.tmp rfl .nil))) rfl (.cons _ (.refl _)) (.refl _) ?_)))))))))))))))))
 have hp0:p'= []:=List.eq_nil_of_length_eq_zero (by omega)
 subst hp0
 refine .inl ⟨.mk true [] done,r,join2 Nr Ns,⟨true,none,0,0,ai,ni,ci⟩,a2,c2,?_,rfl,rfl,ItN.mk (RSl.nil _ _) (sr.le join2_left) (hs.le (join2_right hap)),own_list hap rr hni hbag hob,⟨Nat.zero_le _,fun u hu=>by have:=hsm u hu;omega⟩,h2⟩
 simp [decF,hc,H,itF_nil,exMap]
theorem decode_o (k:Nat): ∀(N:Heaplet) (ao:Option Addr) (n cap:Nat) (b:List UInt8) (q:Int),RSl N 1 ao n cap (u8s b)→n≤1099511627776→q+k=1024→0≤q→Fn Try.prog 104 #[.slice ao n cap,.int .i64 q] [] [N] (DecO ao n cap b (decF k b)):=by
 induction k with
 |zero=>
  intro N ao n cap b q h hn hq h0
  obtain rfl:q=1024:=by omega
  match hc:cutF b with
  |none=>exact decode_noneO h hn hc 0 _
  |some (false,p,r)=>exact decode_textO h hn hc 0 _
  |some (true,p,r)=>exact decode_deepO h hn hc
 |succ k ih=>
  intro N ao n cap b q h hn hq h0
  match hc:cutF b with
  |none=>exact decode_noneO h hn hc _ _
  |some (false,p,r)=>exact decode_textO h hn hc _ _
  |some (true,p,r)=>exact decode_itsO h hn hc k q (by omega) h0 ih
def DecodeO (nb:Nat) (r:Except Nat It) (v:Value) (L:List Heaplet):Prop:=
 (∃t M, ∃x:IV,r=.ok t∧v=.tuple #[.agg #[.bool x.l,.slice x.ab x.nb x.cb,.slice x.ai x.ni x.ci],.int .i64 0]∧L= [M]∧ItN M t x∧OwnTop M t x∧Small t nb)∨
 (∃e:Nat,r=.error e∧v=.tuple #[.agg #[.bool false,.slice none 0 0,.slice none 0 0],.int .i64 (e:Int)]∧L= []∧e≠0)
theorem Decode_o {N:Heaplet} {ao:Option Addr} {n cap:Nat} {b:List UInt8} (h:RSl N 1 ao n cap (u8s b)) (hn:n≤1099511627776):
 Fn Try.prog 67 #[.slice ao n cap] [] [N] (DecodeO b.length (decodeF b)):=by
 refine Fn.enter (vs:= [.slice ao n cap]) Try.func67 rfl rfl rfl ?_
 intro E R hR
 have h:=h.le (hR N (by simp))
 change At _ _ E [R] _
 refine At.seq fun _ s_1=>At.region (aU (aV rfl) ze92 rfl (fun N2 b2 B2=>?_))
 change Blk N2 b2 _ [.bool false,.slice none 0 0,.slice none 0 0]at B2
 refine aE (aC rfl) rfl rfl (aA (aB (s_1 (At.seq fun _ s_2=>At.region (aD (aC rfl) rfl rfl (aR (aV rfl) (.cons rfl (.cons rfl .nil)) (decode_o 1024 R ao n cap b 0 h hn (by omega) (by omega)) Try.func104 rfl rfl (by simp) rfl ?_))))))
 rintro v9 L9 (⟨t,q,M9,x,aq,cq,he,rfl,rfl,hi,ho,hsz,hq⟩|⟨e,he,rfl,rfl,hne⟩)
 ·change At _ _ _ [M9,N2,R] _
  refine aD (aC rfl) rfl rfl (aM (aC rfl) rfl rfl rfl (aM (aC rfl) rfl rfl rfl (aM (aC rfl) rfl rfl rfl (aU (aV rfl) ze92 rfl (fun N4 b4 B4=>?_)))))
  change Blk N4 b4 _ [.bool false,.slice none 0 0,.slice none 0 0]at B4
  refine aG (nxl rfl) sz92 rfl rfl rfl rfl rfl B4 (by simp) sel0 (fun N4 B4=>?_)
  simp only [setL,List.set]at B4
  refine aE (aC rfl) rfl rfl (aE (aC rfl) rfl rfl (aA (aB (s_2 (At.seq fun _ s_3=>At.seq fun _ s_4=>At.region (aD (aC rfl) rfl rfl (op_eql (aC rfl) rfl rfl rfl (aD (aC rfl) rfl rfl (bU (d:=15) rfl (fun g15=>?_) (fun g15=>?_))))))))))
  rotate_left
  ·exact absurd rfl g15
  refine aD (aS rfl rfl rfl rfl) rfl rfl (bP (aS rfl rfl rfl rfl) se27 rfl rfl (op_gtr (aS rfl rfl rfl rfl) rfl rfl rfl (bW (aC rfl) rfl rfl rfl (aA (aB (s_4 (aP rfl (fun c19=>?_) (fun c19=>?_))))))))
  ·refine At.seq fun _ s_5=>At.region (op_build (out:= [.bool false,.slice none 0 0,.slice none 0 0]) (aC rfl) ze92 pl92 .nil rfl rfl (aG (nxl rfl) sz92 rfl rfl rfl rfl rfl B2 (by simp) aX (fun N2 B2=>?_)))
   simp only [setL,List.set]at B2
   refine aE (aC rfl) rfl rfl (aA (aB (s_5 (At.ret (aT ((At.sub (L':= [N2,R]) (.cons_cons _ (.cons _ (.cons _ (.cons_cons _ (.slnil))))) (bF (L1:= []) rfl (.cell rfl (bH (ds:= [_,_,_]) ag92 B2 rfl rfl aN) (.tmp rfl .nil)) rfl (.cons _ (.refl _)) (.refl _) ?_))))))))
   exact .inr ⟨2,by rw [decodeF,he];simp only;rw [if_neg (by omega)],rfl,rfl,by decide⟩
  refine At.skip (aB (s_3 (At.seq fun _ s_6=>At.region (aL (ds:= [_,_,_]) (aC rfl) ag92 rfl B4 rfl rfl aN rfl (aD (aC rfl) rfl rfl (aG (nxl rfl) sz92 rfl rfl rfl rfl rfl B2 (by simp) aX (fun N2 B2=>?_)))))))
  simp only [setL,List.set]at B2
  refine aE (aC rfl) rfl rfl (aA (aB (s_6 (At.ret ((At.sub (L':= [N2,M9,R]) (.cons_cons _ (.cons _ (.cons_cons _ (.cons_cons _ (.slnil))))) (bF (L1:= [M9]) rfl (.cell rfl (bH (ds:= [_,_,_]) ag92 B2 rfl rfl aN) (.tmp rfl .nil)) rfl (.cons _ (.refl _)) (.refl _) ?_)))))))
  exact .inl ⟨t,M9,x,by rw [decodeF,he];simp only;rw [if_pos (by omega)],rfl,rfl,hi,ho,hsz⟩
 change At _ _ _ [N2,R] _
 refine aD (aC rfl) rfl rfl (aM (aC rfl) rfl rfl rfl (aM (aC rfl) rfl rfl rfl (aM (aC rfl) rfl rfl rfl (aU (aV rfl) ze92 rfl (fun N4 b4 B4=>?_)))))
 change Blk N4 b4 _ [.bool false,.slice none 0 0,.slice none 0 0]at B4
 refine aG (nxl rfl) sz92 rfl rfl rfl rfl rfl B4 (by simp) sel0 (fun N4 B4=>?_)
 simp only [setL,List.set]at B4
 refine aE (aC rfl) rfl rfl (aE (aC rfl) rfl rfl (aA (aB (s_2 (At.seq fun _ s_7=>At.seq fun _ s_8=>At.region (aD (aC rfl) rfl rfl (op_eql (aC rfl) rfl rfl rfl (aD (aC rfl) rfl rfl (bU (d:=15) rfl (fun g15=>?_) (fun g15=>?_))))))))))
 ·exfalso;omega
 refine aJ rfl rfl rfl rfl rfl rfl rfl (aJ rfl rfl rfl rfl rfl rfl rfl (aJ rfl rfl rfl rfl rfl rfl rfl (bM (aC rfl) rfl rfl rfl (aA (aB (s_8 (At.condF rfl (At.skip (aB (s_7 (At.seq fun _ s_9=>At.region (aL (ds:= [_,_,_]) (aC rfl) ag92 rfl B4 rfl rfl aN rfl (aD (aC rfl) rfl rfl (aG (nxl rfl) sz92 rfl rfl rfl rfl rfl B2 (by simp) bZ (fun N2 B2=>?_)))))))))))))))
 simp only [setL,List.set]at B2
 refine aE (aC rfl) rfl rfl (aA (aB (s_9 (At.ret ((At.sub (L':= [N2,R]) (.cons_cons _ (.cons _ (.cons_cons _ (.slnil)))) (bF (L1:= []) rfl (.cell rfl (bH (ds:= [_,_,_]) ag92 B2 rfl rfl aN) (.tmp rfl .nil)) rfl (.cons _ (.refl _)) (.refl _) ?_)))))))
 exact .inr ⟨e,by rw [decodeF,he],rfl,rfl,hne⟩
/-- What Decode gives, parts of the memory one by one: the caller's own. -/
def DecW (nb:Nat) (v:Value) (L:List Heaplet):Prop:= ∃x:IV, ∃e:Int, ∃NB NR NS bb xs bbs,v=.tuple #[.agg #[.bool x.l,.slice x.ab x.nb x.cb,.slice x.ai x.ni x.ci],.int .i64 e]∧L= [NB,NR,NS]∧Row NB 5 1 x.ab x.nb x.cb (u8s bb)∧Row NR 92 3 x.ai x.ni x.ci (cellsI xs)∧xs.length=x.ni∧Bag 5 NS (xs.map slB) bbs∧bb.length≤nb∧ ∀u∈bbs,u.length≤nb
end Go.Proofs.Ytljacjjeinmfnaa
