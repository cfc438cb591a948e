/- Several texts in one: see the remarks ahead of each part. No condition but those told there. -/
import Derived.Test.YtjfagifjajielaaGreatX1
import Derived.Test.YtjfagifjajielaaGreatX19
import Derived.Test.YtjfagifjajielaaGreatX8
import Derived.Test.YtjfagifjajielaaGreatX15
import Derived.Test.YtjfagifjajielaaGreatX16
import Derived.Test.YtjfagifjajielaaGreatX9
set_option linter.unusedSimpArgs false
set_option linter.unusedVariables false
namespace Go.Proofs.YtjfagifjajielaaGreat
open Go Go.RowKit
set_option maxRecDepth 100000
section
variable {Np NI Nt : Heaplet} {bp bt : Nat} {its : List It} {zs : List IV}
set_option maxHeartbeats 8000000 in
theorem FTx_0 (h:PartsN Np NI bp zs its) (hF: ∀t∈its,t.form.length≤1099511627776) (B:Blk Nt bt 32 (txP (0:Int) 0 0 0 0 0 false zero20 0 (.slice none 0 0) (.slice none 0 0) 0 (.slice none 0 0) false 0 0).flatten):
 FnE Tryz.prog 34 #[.pointer (some ⟨bp,0,none⟩),.pointer (some ⟨bt,0,none⟩)] [Np,Nt] [NI] (fun v L=> ∃Nt J m d a b,v=.tuple #[]∧L= [Nt,J]∧tx0 its=.ok m∧m.Ok∧Blk Nt bt 32 (m.cells d a b)∧TxS zs NI J m d a b) (fun v L=> ∃(e:Nat) (Nt:Heaplet) (cs:List Value),v=gaveV e∧L= [Nt]∧tx0 its=.error e∧Blk Nt bt 32 cs∧cs.length=53):=by
 have hz:zero20.length=20:=List.length_replicate ..
 refine FnE.enter (vs:= [.pointer (some ⟨bp,0,none⟩),.pointer (some ⟨bt,0,none⟩)]) Tryz.func34 U U U ?_
 intro E R hR
 have hNR:=hR NI (by simp)
 have Bt:=B
 change At _ _ E [Np,Nt,R] _
 refine aC fun _ s_1=>aA (aH U U (op_buildA (out:= [_,_,_,_]) aE ze158 ae158 (.cons U (.cons U (.cons U (.cons U .nil)))) U U (aH U U (aW aE U U (aD aE fl32_0 U U (aK aE sc3 U Bt U mem1 U ?_))))))
 refine op_idxV aE ae158 sc3 U U (show _=(((0:Nat)):Int)from by omega) (by omega) U U ?_
 refine op_lit bU Tryz.underlying162 ze3 sz3 (.cons U .nil) U U (by simp [Value.cells]) U U U (fun N11 a11 r11=>?_)
 simp only [flatV,List.flatMap_cons,List.flatMap_nil,Value.cells,List.append_nil,List.cons_append,List.nil_append]at r11
 have s11:=r11.rsl
 refine aN (aN (aM (aN (bM (.cons U (.cons U .nil)) (FJust_p (ks:= [9]) h r11.rsl (by decide)) (F:= [N11,Nt,R]) Tryz.func51 U U (.refl _) (by simp) U ?_ ?_))))
 ·rintro _ _ ⟨rfl,rfl,hjm⟩
  show At _ _ _ [N11,Nt,R] _
  refine aY ((cK (cP (L1:= [Nt]) (.refl _) aJ ?_)))
  exact⟨2,Nt,_,rfl,rfl,tx0_ne hjm,Bt,aX hz⟩
 rintro _ _ ⟨rfl,rfl,hjm⟩
 show At _ _ _ [Np,N11,Nt,R] _
 obtain⟨t0,t1,t2,t3,t4,t5,t6,t7,t8,rfl⟩:=of9 (List.mem_singleton.1 hjm);obtain⟨z0,z1,z2,z3,z4,z5,z6,z7,z8,rfl⟩:=of9 h.all
 refine aB (s_1 (aC fun _ s_2=>aC fun _ s_3=>aA (aH U U (aW aE U U (aD aE fl32_0 U U (aK aE sc3 U Bt U mem2 U ?_))))))
 refine op_gtr aE U U U (aB (s_3 (aQ U (fun c17=>?_) (fun c17=>?_))))
 ·first|(exfalso;omega)|simp at*
 refine cT (d:=17) U c17 (aT (aI (s_2 (aC fun _ s_4=>aA (aH U U (aH U U (bM (.cons U .nil) ((FSmall_p h).liftB hNR) (F:= [N11,Nt,R]) Tryz.func58 U U (.refl _) (by simp) U ?_ ?_)))))))
 ·rintro _ _ ⟨e,rfl,rfl,he⟩
  show At _ _ _ [N11,Nt,R] _
  refine aY ((cK (cP (L1:= [Nt]) (.refl _) aJ ?_)))
  exact⟨e,Nt,_,rfl,rfl,by simp only [tx0,eb,he],Bt,aX hz⟩
 rintro _ _ ⟨Mp,x_nn,rfl,rfl,e_nn,l_nn,hp⟩
 show At _ _ _ [Mp,N11,Nt,R] _
 refine aW aE U U (aD aE fl32_2 U U ?_)
 refine aF cL sz24 U U U U U Bt (by rw [aX hz];exact show 0+2+1≤53 by decide) sel2 (fun Nt Bt=>?_)
 erw [tx_nn hz]at Bt
 refine aB (s_4 (aC fun _ s_5=>aC fun _ s_6=>aA (aH U U (aW aE U U (aD aE fl32_0 U U (aK aE sc3 U Bt U bI U ?_))))))
 refine op_gtr aE U U U (aB (s_6 (aQ U (fun c32=>?_) (fun c32=>?_))))
 ·first|(exfalso;omega)|simp at*
 refine cT (d:=32) U c32 (aT (aI (s_5 (aC fun _ s_7=>aA (aH U U (aH U U (aH U U (aN (aN (aM (aN (bM (.cons U .nil) ((FWord_p hp).liftB hNR) (F:= [Nt,N11,R]) Tryz.func88 U U (.refl _) (by simp) U ?_ ?_))))))))))))
 ·rintro _ _ ⟨e,rfl,rfl,he⟩
  show At _ _ _ [Nt,N11,R] _
  refine aY ((bH (cP (L1:= [Nt]) (.refl _) aJ ?_)))
  exact⟨e,Nt,_,rfl,rfl,by simp only [tx0,eb,e_nn,he],Bt,aX hz⟩
 rintro _ _ ⟨Mp,x_pr,rfl,rfl,e_pr,l_pr,hp⟩
 show At _ _ _ [Mp,Nt,N11,R] _
 refine aH U U (bM (.cons U .nil) ((FSmall_p hp).liftB hNR) (F:= [Nt,N11,R]) Tryz.func58 U U (.refl _) (by simp) U ?_ ?_)
 ·rintro _ _ ⟨e,rfl,rfl,he⟩
  show At _ _ _ [Nt,N11,R] _
  refine aY ((bH (cP (L1:= [Nt]) (.refl _) aJ ?_)))
  exact⟨e,Nt,_,rfl,rfl,by simp only [tx0,eb,e_nn,e_pr,he],Bt,aX hz⟩
 rintro _ _ ⟨Mp,x_ga,rfl,rfl,e_ga,l_ga,hp⟩
 show At _ _ _ [Mp,Nt,N11,R] _
 refine aW aE U U (aD aE fl32_3 U U ?_)
 refine aF cL sz26 U U U U U Bt (by rw [aX hz];exact show 0+3+4≤53 by decide) sel1 (fun Nt Bt=>?_)
 erw [tx_pr hz]at Bt
 refine aW aE U U (aD aE fl32_5 U U ?_)
 refine aF cL sz24 U U U U U Bt (by rw [aX hz];exact show 0+11+1≤53 by decide) dB (fun Nt Bt=>?_)
 erw [tx_ga hz]at Bt
 refine aB (s_7 (aC fun _ s_8=>aA (aH U U (aH U U (aN (aN (aM (aN (bM (.cons U (.cons U .nil)) ((FTo_p (mk:=_) hp Bt).liftB hNR) (F:= [N11,R]) Tryz.func89 U U (.refl _) (by simp) U ?_ ?_)))))))))
 ·rintro _ _ ⟨e,Nt,cs,rfl,rfl,he,Bt,hcs⟩
  show At _ _ _ [Nt,N11,R] _
  refine aY ((bH (cP (L1:= [Nt]) (.refl _) aJ ?_)))
  exact⟨e,Nt,cs,rfl,rfl,by simp only [tx0,eb,e_nn,e_pr,e_ga,he],Bt,hcs⟩
 rintro _ _ ⟨Mp,Nt,x_mk,x_to,rfl,rfl,e_to,l_to,hp,Bt⟩
 show At _ _ _ [Mp,Nt,N11,R] _
 refine aB (s_8 (aC fun _ s_9=>aA (aH U U (aH U U (aH U U (bM (.cons U .nil) ((FWord_p hp).liftB hNR) (F:= [Nt,N11,R]) Tryz.func88 U U (.refl _) (by simp) U ?_ ?_))))))
 ·rintro _ _ ⟨e,rfl,rfl,he⟩
  show At _ _ _ [Nt,N11,R] _
  refine aY ((bH (cP (L1:= [Nt]) (.refl _) aJ ?_)))
  exact⟨e,Nt,_,rfl,rfl,by simp only [tx0,eb,e_nn,e_pr,e_ga,e_to,he],Bt,aX l_to⟩
 rintro _ _ ⟨Mp,x_va,rfl,rfl,e_va,l_va,hp⟩
 show At _ _ _ [Mp,Nt,N11,R] _
 refine aH U U (bM (.cons U .nil) ((FBytes_x hp).liftB hNR) (F:= [Nt,N11,R]) Tryz.func90 U U (.refl _) (by simp) U ?_ ?_)
 ·rintro _ _ ⟨e,rfl,rfl,he⟩
  show At _ _ _ [Nt,N11,R] _
  refine aY ((bH (cP (L1:= [Nt]) (.refl _) aJ ?_)))
  exact⟨e,Nt,_,rfl,rfl,by simp only [tx0,eb,e_nn,e_pr,e_ga,e_to,e_va,he],Bt,aX l_to⟩
 rintro _ _ ⟨Mp,da,dc,x_d,rfl,rfl,e_d,hp,r_d,w1,w2,w3⟩
 show At _ _ _ [Mp,Nt,N11,R] _
 refine aW aE U U (aD aE fl32_8 U U ?_)
 refine aF cL sz26 U U U U U Bt (by rw [aX l_to];exact show 0+33+4≤53 by decide) sel1 (fun Nt Bt=>?_)
 erw [tx_va l_to]at Bt
 refine aW aE U U (aD aE fl32_9 U U ?_)
 refine aF cL sz22 U U U U U Bt (by rw [aX l_to];exact show 0+37+1≤53 by decide) dB (fun Nt Bt=>?_)
 erw [tx_d l_to]at Bt
 refine aB (s_9 (aC fun _ s_10=>aC fun _ s_11=>aA (aH U U (aW aE U U (aD aE fl32_0 U U (aK aE sc3 U Bt U bI U ?_))))))
 refine op_gtr aE U U U (aB (s_11 (aQ U (fun c65=>?_) (fun c65=>?_))))
 ·first|(exfalso;omega)|simp at*
 refine cT (d:=65) U c65 (aT (aI (s_10 (aC fun _ s_12=>aC fun _ s_13=>aA (aH U U (aW aE U U (aD aE fl32_0 U U (aK aE sc3 U Bt U bI U ?_))))))))
 refine dF aE U U U (aB (s_13 (aQ U (fun c75=>?_) (fun c75=>?_))))
 ·first|(exfalso;omega)|simp at*
 refine cT (d:=75) U c75 (aT (aI (s_12 (aC fun _ s_14=>aA (aH U U (aH U U (aN (aN (aM (aN (bM (.cons U (.cons U .nil)) ((FV_p hp l_to Bt).liftB hNR) (F:= [N11,R]) Tryz.func93 U U (.refl _) (by simp) U ?_ ?_)))))))))))
 ·rintro _ _ ⟨e,Nt,cs,rfl,rfl,he,Bt,hcs⟩
  show At _ _ _ [Nt,N11,R] _
  refine aY ((bH (cP (L1:= [Nt]) (.refl _) aJ ?_)))
  exact⟨e,Nt,cs,rfl,rfl,by simp only [tx0,eb,e_nn,e_pr,e_ga,e_to,e_va,e_d,he],Bt,hcs⟩
 rintro _ _ ⟨Mp,Nt,x_c,x_o,rfl,rfl,e_v,hp,Bt⟩
 show At _ _ _ [Mp,Nt,N11,R] _
 refine aB (s_14 (aA (aH U U (aH U U (aH U U (bM (.cons U .nil) ((FWord_p hp).liftB hNR) (F:= [Nt,N11,R]) Tryz.func88 U U (.refl _) (by simp) U ?_ ?_))))))
 ·rintro _ _ ⟨e,rfl,rfl,he⟩
  show At _ _ _ [Nt,N11,R] _
  refine bH (cP (L1:= [Nt]) (.refl _) aJ ?_)
  exact⟨e,Nt,_,rfl,rfl,by simp only [tx0,eb,e_nn,e_pr,e_ga,e_to,e_va,e_d,e_v,he],Bt,aX l_to⟩
 rintro _ _ ⟨Mp,x_r,rfl,rfl,e_r,l_r,hp⟩
 show At _ _ _ [Mp,Nt,N11,R] _
 refine aH U U (bM (.cons U .nil) ((FWord_p hp).liftB hNR) (F:= [Nt,N11,R]) Tryz.func88 U U (.refl _) (by simp) U ?_ ?_)
 ·rintro _ _ ⟨e,rfl,rfl,he⟩
  show At _ _ _ [Nt,N11,R] _
  refine bH (cP (L1:= [Nt]) (.refl _) aJ ?_)
  exact⟨e,Nt,_,rfl,rfl,by simp only [tx0,eb,e_nn,e_pr,e_ga,e_to,e_va,e_d,e_v,e_r,he],Bt,aX l_to⟩
 rintro _ _ ⟨Mp,x_s,rfl,rfl,e_s,l_s,hp⟩
 show At _ _ _ [Mp,Nt,N11,R] _
 refine aW aE U U (aD aE fl32_14 U U ?_)
 refine aF cL sz26 U U U U U Bt (by rw [aX l_to];exact show 0+45+4≤53 by decide) sel1 (fun Nt Bt=>?_)
 erw [tx_r l_to]at Bt
 refine aW aE U U (aD aE fl32_15 U U ?_)
 refine aF cL sz26 U U U U U Bt (by rw [aX l_to];exact show 0+49+4≤53 by decide) dB (fun Nt Bt=>?_)
 erw [tx_s l_to]at Bt
 refine cX (At.norX (cV (bW (bJ (aM (bO (aM (At.retNE (L1:= [Nt,nilH]) U .nil U (.refl _) aJ ?_))))))))
 exact⟨Nt,nilH,⟨0,x_c,x_nn,x_pr,0,x_ga,x_mk,x_to,x_va,x_d,[],0,[],x_o,x_r,x_s⟩,_,_,_,rfl,rfl,by simp only [tx0,eb,e_nn,e_pr,e_ga,e_to,e_va,e_d,e_v,e_r,e_s],⟨vE_lt e_v (show(0:Nat)<2^64 by decide),l_nn,l_pr,(show 0<WW by decide),l_ga,l_to,l_va,(show 0<WW by decide),fun _ h_=>absurd h_ List.not_mem_nil,l_r,l_s⟩,Bt,da,dc,none,0,none,0,[],rfl,r_d,⟨5,z5,rfl,by rw [slB,w1,w2,w3]⟩,rfl,RSl.nil _ _,AccsN.nil,rfl,RSl.nil _ _⟩
set_option maxHeartbeats 8000000 in
theorem FTx_1 (h:PartsN Np NI bp zs its) (hF: ∀t∈its,t.form.length≤1099511627776) (B:Blk Nt bt 32 (txP (1:Int) 0 0 0 0 0 false zero20 0 (.slice none 0 0) (.slice none 0 0) 0 (.slice none 0 0) false 0 0).flatten):
 FnE Tryz.prog 34 #[.pointer (some ⟨bp,0,none⟩),.pointer (some ⟨bt,0,none⟩)] [Np,Nt] [NI] (fun v L=> ∃Nt J m d a b,v=.tuple #[]∧L= [Nt,J]∧tx1 its=.ok m∧m.Ok∧Blk Nt bt 32 (m.cells d a b)∧TxS zs NI J m d a b) (fun v L=> ∃(e:Nat) (Nt:Heaplet) (cs:List Value),v=gaveV e∧L= [Nt]∧tx1 its=.error e∧Blk Nt bt 32 cs∧cs.length=53):=by
 have hz:zero20.length=20:=List.length_replicate ..
 refine FnE.enter (vs:= [.pointer (some ⟨bp,0,none⟩),.pointer (some ⟨bt,0,none⟩)]) Tryz.func34 U U U ?_
 intro E R hR
 have hNR:=hR NI (by simp)
 have Bt:=B
 change At _ _ E [Np,Nt,R] _
 refine aC fun _ s_1=>aA (aH U U (op_buildA (out:= [_,_,_,_]) aE ze158 ae158 (.cons U (.cons U (.cons U (.cons U .nil)))) U U (aH U U (aW aE U U (aD aE fl32_0 U U (aK aE sc3 U Bt U mem1 U ?_))))))
 refine op_idxV aE ae158 sc3 U U (show _=(((1:Nat)):Int)from by omega) (by omega) U U ?_
 refine op_lit bU Tryz.underlying162 ze3 sz3 (.cons U .nil) U U (by simp [Value.cells]) U U U (fun N11 a11 r11=>?_)
 simp only [flatV,List.flatMap_cons,List.flatMap_nil,Value.cells,List.append_nil,List.cons_append,List.nil_append]at r11
 have s11:=r11.rsl
 refine aN (aN (aM (aN (bM (.cons U (.cons U .nil)) (FJust_p (ks:= [11]) h r11.rsl (by decide)) (F:= [N11,Nt,R]) Tryz.func51 U U (.refl _) (by simp) U ?_ ?_))))
 ·rintro _ _ ⟨rfl,rfl,hjm⟩
  show At _ _ _ [N11,Nt,R] _
  refine aY ((cK (cP (L1:= [Nt]) (.refl _) aJ ?_)))
  exact⟨2,Nt,_,rfl,rfl,tx1_ne hjm,Bt,aX hz⟩
 rintro _ _ ⟨rfl,rfl,hjm⟩
 show At _ _ _ [Np,N11,Nt,R] _
 obtain⟨t0,t1,t2,t3,t4,t5,t6,t7,t8,t9,t10,rfl⟩:=of11 (List.mem_singleton.1 hjm);obtain⟨z0,z1,z2,z3,z4,z5,z6,z7,z8,z9,z10,rfl⟩:=of11 h.all
 refine aB (s_1 (aC fun _ s_2=>aC fun _ s_3=>aA (aH U U (aW aE U U (aD aE fl32_0 U U (aK aE sc3 U Bt U mem2 U ?_))))))
 refine op_gtr aE U U U (aB (s_3 (aQ U (fun c17=>?_) (fun c17=>?_))))
 rotate_left
 ·first|(exfalso;omega)|simp at*
 refine c4 (d:=17) U c17 (aA (aH U U (aH U U (bM (.cons U .nil) ((FSmall_p h).liftB hNR) (F:= [N11,Nt,R]) Tryz.func58 U U (.refl _) (by simp) U ?_ ?_))))
 ·rintro _ _ ⟨e,rfl,rfl,he⟩
  show At _ _ _ [N11,Nt,R] _
  refine aY ((cK (cP (L1:= [Nt]) (.refl _) aJ ?_)))
  exact⟨e,Nt,_,rfl,rfl,by simp only [tx1,eb,he],Bt,aX hz⟩
 rintro _ _ ⟨Mp,x_ch,rfl,rfl,e_ch,l_ch,hp⟩
 show At _ _ _ [Mp,N11,Nt,R] _
 refine aW aE U U (aD aE fl32_1 U U ?_)
 refine aF cL sz24 U U U U U Bt (by rw [aX hz];exact show 0+1+1≤53 by decide) sel2 (fun Nt Bt=>?_)
 erw [tx_ch hz]at Bt
 refine aB (s_2 (aC fun _ s_4=>aA (aH U U (aH U U (aN (aN (aM (aN (bM (.cons U .nil) ((FSmall_p hp).liftB hNR) (F:= [Nt,N11,R]) Tryz.func58 U U (.refl _) (by simp) U ?_ ?_)))))))))
 ·rintro _ _ ⟨e,rfl,rfl,he⟩
  show At _ _ _ [Nt,N11,R] _
  refine aY ((bH (cP (L1:= [Nt]) (.refl _) aJ ?_)))
  exact⟨e,Nt,_,rfl,rfl,by simp only [tx1,eb,e_ch,he],Bt,aX hz⟩
 rintro _ _ ⟨Mp,x_nn,rfl,rfl,e_nn,l_nn,hp⟩
 show At _ _ _ [Mp,Nt,N11,R] _
 refine aW aE U U (aD aE fl32_2 U U ?_)
 refine aF cL sz24 U U U U U Bt (by rw [aX hz];exact show 0+2+1≤53 by decide) sel1 (fun Nt Bt=>?_)
 erw [tx_nn hz]at Bt
 refine aB (s_4 (aC fun _ s_5=>aC fun _ s_6=>aA (aH U U (aW aE U U (aD aE fl32_0 U U (aK aE sc3 U Bt U bI U ?_))))))
 refine op_gtr aE U U U (aB (s_6 (aQ U (fun c32=>?_) (fun c32=>?_))))
 ·first|(exfalso;omega)|simp at*
 refine cT (d:=32) U c32 (aT (aI (s_5 (aC fun _ s_7=>aA (aH U U (aH U U (aH U U (aN (aN (aM (aN (bM (.cons U .nil) ((FWord_p hp).liftB hNR) (F:= [Nt,N11,R]) Tryz.func88 U U (.refl _) (by simp) U ?_ ?_))))))))))))
 ·rintro _ _ ⟨e,rfl,rfl,he⟩
  show At _ _ _ [Nt,N11,R] _
  refine aY ((bH (cP (L1:= [Nt]) (.refl _) aJ ?_)))
  exact⟨e,Nt,_,rfl,rfl,by simp only [tx1,eb,e_ch,e_nn,he],Bt,aX hz⟩
 rintro _ _ ⟨Mp,x_pr,rfl,rfl,e_pr,l_pr,hp⟩
 show At _ _ _ [Mp,Nt,N11,R] _
 refine aH U U (bM (.cons U .nil) ((FSmall_p hp).liftB hNR) (F:= [Nt,N11,R]) Tryz.func58 U U (.refl _) (by simp) U ?_ ?_)
 ·rintro _ _ ⟨e,rfl,rfl,he⟩
  show At _ _ _ [Nt,N11,R] _
  refine aY ((bH (cP (L1:= [Nt]) (.refl _) aJ ?_)))
  exact⟨e,Nt,_,rfl,rfl,by simp only [tx1,eb,e_ch,e_nn,e_pr,he],Bt,aX hz⟩
 rintro _ _ ⟨Mp,x_ga,rfl,rfl,e_ga,l_ga,hp⟩
 show At _ _ _ [Mp,Nt,N11,R] _
 refine aW aE U U (aD aE fl32_3 U U ?_)
 refine aF cL sz26 U U U U U Bt (by rw [aX hz];exact show 0+3+4≤53 by decide) sel1 (fun Nt Bt=>?_)
 erw [tx_pr hz]at Bt
 refine aW aE U U (aD aE fl32_5 U U ?_)
 refine aF cL sz24 U U U U U Bt (by rw [aX hz];exact show 0+11+1≤53 by decide) dB (fun Nt Bt=>?_)
 erw [tx_ga hz]at Bt
 refine aB (s_7 (aC fun _ s_8=>aA (aH U U (aH U U (aN (aN (aM (aN (bM (.cons U (.cons U .nil)) ((FTo_p (mk:=_) hp Bt).liftB hNR) (F:= [N11,R]) Tryz.func89 U U (.refl _) (by simp) U ?_ ?_)))))))))
 ·rintro _ _ ⟨e,Nt,cs,rfl,rfl,he,Bt,hcs⟩
  show At _ _ _ [Nt,N11,R] _
  refine aY ((bH (cP (L1:= [Nt]) (.refl _) aJ ?_)))
  exact⟨e,Nt,cs,rfl,rfl,by simp only [tx1,eb,e_ch,e_nn,e_pr,e_ga,he],Bt,hcs⟩
 rintro _ _ ⟨Mp,Nt,x_mk,x_to,rfl,rfl,e_to,l_to,hp,Bt⟩
 show At _ _ _ [Mp,Nt,N11,R] _
 refine aB (s_8 (aC fun _ s_9=>aA (aH U U (aH U U (aH U U (bM (.cons U .nil) ((FWord_p hp).liftB hNR) (F:= [Nt,N11,R]) Tryz.func88 U U (.refl _) (by simp) U ?_ ?_))))))
 ·rintro _ _ ⟨e,rfl,rfl,he⟩
  show At _ _ _ [Nt,N11,R] _
  refine aY ((bH (cP (L1:= [Nt]) (.refl _) aJ ?_)))
  exact⟨e,Nt,_,rfl,rfl,by simp only [tx1,eb,e_ch,e_nn,e_pr,e_ga,e_to,he],Bt,aX l_to⟩
 rintro _ _ ⟨Mp,x_va,rfl,rfl,e_va,l_va,hp⟩
 show At _ _ _ [Mp,Nt,N11,R] _
 refine aH U U (bM (.cons U .nil) ((FBytes_x hp).liftB hNR) (F:= [Nt,N11,R]) Tryz.func90 U U (.refl _) (by simp) U ?_ ?_)
 ·rintro _ _ ⟨e,rfl,rfl,he⟩
  show At _ _ _ [Nt,N11,R] _
  refine aY ((bH (cP (L1:= [Nt]) (.refl _) aJ ?_)))
  exact⟨e,Nt,_,rfl,rfl,by simp only [tx1,eb,e_ch,e_nn,e_pr,e_ga,e_to,e_va,he],Bt,aX l_to⟩
 rintro _ _ ⟨Mp,da,dc,x_d,rfl,rfl,e_d,hp,r_d,w1,w2,w3⟩
 show At _ _ _ [Mp,Nt,N11,R] _
 refine aW aE U U (aD aE fl32_8 U U ?_)
 refine aF cL sz26 U U U U U Bt (by rw [aX l_to];exact show 0+33+4≤53 by decide) sel1 (fun Nt Bt=>?_)
 erw [tx_va l_to]at Bt
 refine aW aE U U (aD aE fl32_9 U U ?_)
 refine aF cL sz22 U U U U U Bt (by rw [aX l_to];exact show 0+37+1≤53 by decide) dB (fun Nt Bt=>?_)
 erw [tx_d l_to]at Bt
 refine aB (s_9 (aC fun _ s_10=>aC fun _ s_11=>aA (aH U U (aW aE U U (aD aE fl32_0 U U (aK aE sc3 U Bt U bI U ?_))))))
 refine op_gtr aE U U U (aB (s_11 (aQ U (fun c65=>?_) (fun c65=>?_))))
 rotate_left
 ·first|(exfalso;omega)|simp at*
 refine c4 (d:=65) U c65 (aA (aH U U (aH U U (aN (aN (aM (aN (bM (.cons U .nil) ((FAccess_p hp (acc_le (hF _ (by simp)))).liftB hNR) (F:= [Nt,N11,R]) Tryz.func91 U U (.refl _) (by simp) U ?_ ?_))))))))
 ·rintro _ _ ⟨e,rfl,rfl,he⟩
  show At _ _ _ [Nt,N11,R] _
  refine aY ((bH (cP (L1:= [Nt]) (.refl _) aJ ?_)))
  exact⟨e,Nt,_,rfl,rfl,by simp only [tx1,eb,e_ch,e_nn,e_pr,e_ga,e_to,e_va,e_d,he],Bt,aX l_to⟩
 rintro _ _ ⟨Mp,Na,Nk,aa,cc,x_a,axs,rfl,rfl,e_a,hp,r_a,k_a⟩
 show At _ _ _ [Mp,Na,Nk,Nt,N11,R] _
 refine aW aE U U (aD aE fl32_10 U U ?_)
 refine aF cL sz29 U U U U U Bt (by rw [aX l_to];exact show 0+38+1≤53 by decide) sel3 (fun Nt Bt=>?_)
 erw [tx_a l_to]at Bt
 refine aB (s_10 (aC fun _ s_12=>aC fun _ s_13=>aA (aH U U (aW aE U U (aD aE fl32_0 U U (aK aE sc3 U Bt U bI U ?_))))))
 refine dF aE U U U (aB (s_13 (aQ U (fun c75=>?_) (fun c75=>?_))))
 ·first|(exfalso;omega)|simp at*
 refine cT (d:=75) U c75 (aT (aI (s_12 (aC fun _ s_14=>aA (aH U U (aH U U (aG (aG (aG (aG (aL (aG (bM (.cons U (.cons U .nil)) ((FV_p hp l_to Bt).liftB hNR) (F:= [Na,Nk,N11,R]) Tryz.func93 U U (.refl _) (by simp) U ?_ ?_)))))))))))))
 ·rintro _ _ ⟨e,Nt,cs,rfl,rfl,he,Bt,hcs⟩
  show At _ _ _ [Nt,Na,Nk,N11,R] _
  refine aY ((bW (bJ (bH (cP (L1:= [Nt]) (.refl _) aJ ?_)))))
  exact⟨e,Nt,cs,rfl,rfl,by simp only [tx1,eb,e_ch,e_nn,e_pr,e_ga,e_to,e_va,e_d,e_a,he],Bt,hcs⟩
 rintro _ _ ⟨Mp,Nt,x_c,x_o,rfl,rfl,e_v,hp,Bt⟩
 show At _ _ _ [Mp,Nt,Na,Nk,N11,R] _
 refine aB (s_14 (aA (aH U U (aH U U (aH U U (bM (.cons U .nil) ((FWord_p hp).liftB hNR) (F:= [Nt,Na,Nk,N11,R]) Tryz.func88 U U (.refl _) (by simp) U ?_ ?_))))))
 ·rintro _ _ ⟨e,rfl,rfl,he⟩
  show At _ _ _ [Nt,Na,Nk,N11,R] _
  refine bW (bJ (bH (cP (L1:= [Nt]) (.refl _) aJ ?_)))
  exact⟨e,Nt,_,rfl,rfl,by simp only [tx1,eb,e_ch,e_nn,e_pr,e_ga,e_to,e_va,e_d,e_a,e_v,he],Bt,aX l_to⟩
 rintro _ _ ⟨Mp,x_r,rfl,rfl,e_r,l_r,hp⟩
 show At _ _ _ [Mp,Nt,Na,Nk,N11,R] _
 refine aH U U (bM (.cons U .nil) ((FWord_p hp).liftB hNR) (F:= [Nt,Na,Nk,N11,R]) Tryz.func88 U U (.refl _) (by simp) U ?_ ?_)
 ·rintro _ _ ⟨e,rfl,rfl,he⟩
  show At _ _ _ [Nt,Na,Nk,N11,R] _
  refine bW (bJ (bH (cP (L1:= [Nt]) (.refl _) aJ ?_)))
  exact⟨e,Nt,_,rfl,rfl,by simp only [tx1,eb,e_ch,e_nn,e_pr,e_ga,e_to,e_va,e_d,e_a,e_v,e_r,he],Bt,aX l_to⟩
 rintro _ _ ⟨Mp,x_s,rfl,rfl,e_s,l_s,hp⟩
 show At _ _ _ [Mp,Nt,Na,Nk,N11,R] _
 refine aW aE U U (aD aE fl32_14 U U ?_)
 refine aF cL sz26 U U U U U Bt (by rw [aX l_to];exact show 0+45+4≤53 by decide) sel1 (fun Nt Bt=>?_)
 erw [tx_r l_to]at Bt
 refine aW aE U U (aD aE fl32_15 U U ?_)
 refine aF cL sz26 U U U U U Bt (by rw [aX l_to];exact show 0+49+4≤53 by decide) dB (fun Nt Bt=>?_)
 erw [tx_s l_to]at Bt
 refine cX (At.norX (aG (aG (aN (aN (aG (aG (dI (fun J J1 J2=>bW (bJ (aM (bO (aM (At.retNE (L1:= [Nt,J]) U .nil U (.refl _) aJ ?_))))))))))))))
 exact⟨Nt,J,⟨1,x_c,x_nn,x_pr,0,x_ga,x_mk,x_to,x_va,x_d,x_a,0,[],x_o,x_r,x_s⟩,_,_,_,rfl,rfl,by simp only [tx1,eb,e_ch,e_nn,e_pr,e_ga,e_to,e_va,e_d,e_a,e_v,e_r,e_s],⟨vE_lt e_v l_ch,l_nn,l_pr,(show 0<WW by decide),l_ga,l_to,l_va,(show 0<WW by decide),fun _ h_=>absurd h_ List.not_mem_nil,l_r,l_s⟩,Bt,da,dc,aa,cc,none,0,axs,rfl,r_d,⟨6,z6,rfl,by rw [slB,w1,w2,w3]⟩,rfl,r_a.rsl.le J1,k_a.le J2,rfl,RSl.nil _ _⟩
set_option maxHeartbeats 8000000 in
theorem FTx_2 (h:PartsN Np NI bp zs its) (hF: ∀t∈its,t.form.length≤1099511627776) (B:Blk Nt bt 32 (txP (2:Int) 0 0 0 0 0 false zero20 0 (.slice none 0 0) (.slice none 0 0) 0 (.slice none 0 0) false 0 0).flatten):
 FnE Tryz.prog 34 #[.pointer (some ⟨bp,0,none⟩),.pointer (some ⟨bt,0,none⟩)] [Np,Nt] [NI] (fun v L=> ∃Nt J m d a b,v=.tuple #[]∧L= [Nt,J]∧tx2 its=.ok m∧m.Ok∧Blk Nt bt 32 (m.cells d a b)∧TxS zs NI J m d a b) (fun v L=> ∃(e:Nat) (Nt:Heaplet) (cs:List Value),v=gaveV e∧L= [Nt]∧tx2 its=.error e∧Blk Nt bt 32 cs∧cs.length=53):=by
 have hz:zero20.length=20:=List.length_replicate ..
 refine FnE.enter (vs:= [.pointer (some ⟨bp,0,none⟩),.pointer (some ⟨bt,0,none⟩)]) Tryz.func34 U U U ?_
 intro E R hR
 have hNR:=hR NI (by simp)
 have Bt:=B
 change At _ _ E [Np,Nt,R] _
 refine aC fun _ s_1=>aA (aH U U (op_buildA (out:= [_,_,_,_]) aE ze158 ae158 (.cons U (.cons U (.cons U (.cons U .nil)))) U U (aH U U (aW aE U U (aD aE fl32_0 U U (aK aE sc3 U Bt U mem1 U ?_))))))
 refine op_idxV aE ae158 sc3 U U (show _=(((2:Nat)):Int)from by omega) (by omega) U U ?_
 refine op_lit bU Tryz.underlying162 ze3 sz3 (.cons U .nil) U U (by simp [Value.cells]) U U U (fun N11 a11 r11=>?_)
 simp only [flatV,List.flatMap_cons,List.flatMap_nil,Value.cells,List.append_nil,List.cons_append,List.nil_append]at r11
 have s11:=r11.rsl
 refine aN (aN (aM (aN (bM (.cons U (.cons U .nil)) (FJust_p (ks:= [12]) h r11.rsl (by decide)) (F:= [N11,Nt,R]) Tryz.func51 U U (.refl _) (by simp) U ?_ ?_))))
 ·rintro _ _ ⟨rfl,rfl,hjm⟩
  show At _ _ _ [N11,Nt,R] _
  refine aY ((cK (cP (L1:= [Nt]) (.refl _) aJ ?_)))
  exact⟨2,Nt,_,rfl,rfl,tx2_ne hjm,Bt,aX hz⟩
 rintro _ _ ⟨rfl,rfl,hjm⟩
 show At _ _ _ [Np,N11,Nt,R] _
 obtain⟨t0,t1,t2,t3,t4,t5,t6,t7,t8,t9,t10,t11,rfl⟩:=of12 (List.mem_singleton.1 hjm);obtain⟨z0,z1,z2,z3,z4,z5,z6,z7,z8,z9,z10,z11,rfl⟩:=of12 h.all
 refine aB (s_1 (aC fun _ s_2=>aC fun _ s_3=>aA (aH U U (aW aE U U (aD aE fl32_0 U U (aK aE sc3 U Bt U mem2 U ?_))))))
 refine op_gtr aE U U U (aB (s_3 (aQ U (fun c17=>?_) (fun c17=>?_))))
 rotate_left
 ·first|(exfalso;omega)|simp at*
 refine c4 (d:=17) U c17 (aA (aH U U (aH U U (bM (.cons U .nil) ((FSmall_p h).liftB hNR) (F:= [N11,Nt,R]) Tryz.func58 U U (.refl _) (by simp) U ?_ ?_))))
 ·rintro _ _ ⟨e,rfl,rfl,he⟩
  show At _ _ _ [N11,Nt,R] _
  refine aY ((cK (cP (L1:= [Nt]) (.refl _) aJ ?_)))
  exact⟨e,Nt,_,rfl,rfl,by simp only [tx2,eb,he],Bt,aX hz⟩
 rintro _ _ ⟨Mp,x_ch,rfl,rfl,e_ch,l_ch,hp⟩
 show At _ _ _ [Mp,N11,Nt,R] _
 refine aW aE U U (aD aE fl32_1 U U ?_)
 refine aF cL sz24 U U U U U Bt (by rw [aX hz];exact show 0+1+1≤53 by decide) sel2 (fun Nt Bt=>?_)
 erw [tx_ch hz]at Bt
 refine aB (s_2 (aC fun _ s_4=>aA (aH U U (aH U U (aN (aN (aM (aN (bM (.cons U .nil) ((FSmall_p hp).liftB hNR) (F:= [Nt,N11,R]) Tryz.func58 U U (.refl _) (by simp) U ?_ ?_)))))))))
 ·rintro _ _ ⟨e,rfl,rfl,he⟩
  show At _ _ _ [Nt,N11,R] _
  refine aY ((bH (cP (L1:= [Nt]) (.refl _) aJ ?_)))
  exact⟨e,Nt,_,rfl,rfl,by simp only [tx2,eb,e_ch,he],Bt,aX hz⟩
 rintro _ _ ⟨Mp,x_nn,rfl,rfl,e_nn,l_nn,hp⟩
 show At _ _ _ [Mp,Nt,N11,R] _
 refine aW aE U U (aD aE fl32_2 U U ?_)
 refine aF cL sz24 U U U U U Bt (by rw [aX hz];exact show 0+2+1≤53 by decide) sel1 (fun Nt Bt=>?_)
 erw [tx_nn hz]at Bt
 refine aB (s_4 (aC fun _ s_5=>aC fun _ s_6=>aA (aH U U (aW aE U U (aD aE fl32_0 U U (aK aE sc3 U Bt U bI U ?_))))))
 refine op_gtr aE U U U (aB (s_6 (aQ U (fun c32=>?_) (fun c32=>?_))))
 rotate_left
 ·first|(exfalso;omega)|simp at*
 refine c4 (d:=32) U c32 (aA (aH U U (aH U U (aN (aN (aM (aN (bM (.cons U .nil) ((FWord_p hp).liftB hNR) (F:= [Nt,N11,R]) Tryz.func88 U U (.refl _) (by simp) U ?_ ?_))))))))
 ·rintro _ _ ⟨e,rfl,rfl,he⟩
  show At _ _ _ [Nt,N11,R] _
  refine aY ((bH (cP (L1:= [Nt]) (.refl _) aJ ?_)))
  exact⟨e,Nt,_,rfl,rfl,by simp only [tx2,eb,e_ch,e_nn,he],Bt,aX hz⟩
 rintro _ _ ⟨Mp,x_tp,rfl,rfl,e_tp,l_tp,hp⟩
 show At _ _ _ [Mp,Nt,N11,R] _
 refine aW aE U U (aD aE fl32_4 U U ?_)
 refine aF cL sz26 U U U U U Bt (by rw [aX hz];exact show 0+7+4≤53 by decide) sel1 (fun Nt Bt=>?_)
 erw [tx_tp hz]at Bt
 refine aB (s_5 (aC fun _ s_7=>aA (aH U U (aH U U (aH U U (aN (aN (aM (aN (bM (.cons U .nil) ((FWord_p hp).liftB hNR) (F:= [Nt,N11,R]) Tryz.func88 U U (.refl _) (by simp) U ?_ ?_))))))))))
 ·rintro _ _ ⟨e,rfl,rfl,he⟩
  show At _ _ _ [Nt,N11,R] _
  refine aY ((bH (cP (L1:= [Nt]) (.refl _) aJ ?_)))
  exact⟨e,Nt,_,rfl,rfl,by simp only [tx2,eb,e_ch,e_nn,e_tp,he],Bt,aX hz⟩
 rintro _ _ ⟨Mp,x_pr,rfl,rfl,e_pr,l_pr,hp⟩
 show At _ _ _ [Mp,Nt,N11,R] _
 refine aH U U (bM (.cons U .nil) ((FSmall_p hp).liftB hNR) (F:= [Nt,N11,R]) Tryz.func58 U U (.refl _) (by simp) U ?_ ?_)
 ·rintro _ _ ⟨e,rfl,rfl,he⟩
  show At _ _ _ [Nt,N11,R] _
  refine aY ((bH (cP (L1:= [Nt]) (.refl _) aJ ?_)))
  exact⟨e,Nt,_,rfl,rfl,by simp only [tx2,eb,e_ch,e_nn,e_tp,e_pr,he],Bt,aX hz⟩
 rintro _ _ ⟨Mp,x_ga,rfl,rfl,e_ga,l_ga,hp⟩
 show At _ _ _ [Mp,Nt,N11,R] _
 refine aW aE U U (aD aE fl32_3 U U ?_)
 refine aF cL sz26 U U U U U Bt (by rw [aX hz];exact show 0+3+4≤53 by decide) sel1 (fun Nt Bt=>?_)
 erw [tx_pr hz]at Bt
 refine aW aE U U (aD aE fl32_5 U U ?_)
 refine aF cL sz24 U U U U U Bt (by rw [aX hz];exact show 0+11+1≤53 by decide) dB (fun Nt Bt=>?_)
 erw [tx_ga hz]at Bt
 refine aB (s_7 (aC fun _ s_8=>aA (aH U U (aH U U (aN (aN (aM (aN (bM (.cons U (.cons U .nil)) ((FTo_p (mk:=_) hp Bt).liftB hNR) (F:= [N11,R]) Tryz.func89 U U (.refl _) (by simp) U ?_ ?_)))))))))
 ·rintro _ _ ⟨e,Nt,cs,rfl,rfl,he,Bt,hcs⟩
  show At _ _ _ [Nt,N11,R] _
  refine aY ((bH (cP (L1:= [Nt]) (.refl _) aJ ?_)))
  exact⟨e,Nt,cs,rfl,rfl,by simp only [tx2,eb,e_ch,e_nn,e_tp,e_pr,e_ga,he],Bt,hcs⟩
 rintro _ _ ⟨Mp,Nt,x_mk,x_to,rfl,rfl,e_to,l_to,hp,Bt⟩
 show At _ _ _ [Mp,Nt,N11,R] _
 refine aB (s_8 (aC fun _ s_9=>aA (aH U U (aH U U (aH U U (bM (.cons U .nil) ((FWord_p hp).liftB hNR) (F:= [Nt,N11,R]) Tryz.func88 U U (.refl _) (by simp) U ?_ ?_))))))
 ·rintro _ _ ⟨e,rfl,rfl,he⟩
  show At _ _ _ [Nt,N11,R] _
  refine aY ((bH (cP (L1:= [Nt]) (.refl _) aJ ?_)))
  exact⟨e,Nt,_,rfl,rfl,by simp only [tx2,eb,e_ch,e_nn,e_tp,e_pr,e_ga,e_to,he],Bt,aX l_to⟩
 rintro _ _ ⟨Mp,x_va,rfl,rfl,e_va,l_va,hp⟩
 show At _ _ _ [Mp,Nt,N11,R] _
 refine aH U U (bM (.cons U .nil) ((FBytes_x hp).liftB hNR) (F:= [Nt,N11,R]) Tryz.func90 U U (.refl _) (by simp) U ?_ ?_)
 ·rintro _ _ ⟨e,rfl,rfl,he⟩
  show At _ _ _ [Nt,N11,R] _
  refine aY ((bH (cP (L1:= [Nt]) (.refl _) aJ ?_)))
  exact⟨e,Nt,_,rfl,rfl,by simp only [tx2,eb,e_ch,e_nn,e_tp,e_pr,e_ga,e_to,e_va,he],Bt,aX l_to⟩
 rintro _ _ ⟨Mp,da,dc,x_d,rfl,rfl,e_d,hp,r_d,w1,w2,w3⟩
 show At _ _ _ [Mp,Nt,N11,R] _
 refine aW aE U U (aD aE fl32_8 U U ?_)
 refine aF cL sz26 U U U U U Bt (by rw [aX l_to];exact show 0+33+4≤53 by decide) sel1 (fun Nt Bt=>?_)
 erw [tx_va l_to]at Bt
 refine aW aE U U (aD aE fl32_9 U U ?_)
 refine aF cL sz22 U U U U U Bt (by rw [aX l_to];exact show 0+37+1≤53 by decide) dB (fun Nt Bt=>?_)
 erw [tx_d l_to]at Bt
 refine aB (s_9 (aC fun _ s_10=>aC fun _ s_11=>aA (aH U U (aW aE U U (aD aE fl32_0 U U (aK aE sc3 U Bt U bI U ?_))))))
 refine op_gtr aE U U U (aB (s_11 (aQ U (fun c65=>?_) (fun c65=>?_))))
 rotate_left
 ·first|(exfalso;omega)|simp at*
 refine c4 (d:=65) U c65 (aA (aH U U (aH U U (aN (aN (aM (aN (bM (.cons U .nil) ((FAccess_p hp (acc_le (hF _ (by simp)))).liftB hNR) (F:= [Nt,N11,R]) Tryz.func91 U U (.refl _) (by simp) U ?_ ?_))))))))
 ·rintro _ _ ⟨e,rfl,rfl,he⟩
  show At _ _ _ [Nt,N11,R] _
  refine aY ((bH (cP (L1:= [Nt]) (.refl _) aJ ?_)))
  exact⟨e,Nt,_,rfl,rfl,by simp only [tx2,eb,e_ch,e_nn,e_tp,e_pr,e_ga,e_to,e_va,e_d,he],Bt,aX l_to⟩
 rintro _ _ ⟨Mp,Na,Nk,aa,cc,x_a,axs,rfl,rfl,e_a,hp,r_a,k_a⟩
 show At _ _ _ [Mp,Na,Nk,Nt,N11,R] _
 refine aW aE U U (aD aE fl32_10 U U ?_)
 refine aF cL sz29 U U U U U Bt (by rw [aX l_to];exact show 0+38+1≤53 by decide) sel3 (fun Nt Bt=>?_)
 erw [tx_a l_to]at Bt
 refine aB (s_10 (aC fun _ s_12=>aC fun _ s_13=>aA (aH U U (aW aE U U (aD aE fl32_0 U U (aK aE sc3 U Bt U bI U ?_))))))
 refine dF aE U U U (aB (s_13 (aQ U (fun c75=>?_) (fun c75=>?_))))
 ·first|(exfalso;omega)|simp at*
 refine cT (d:=75) U c75 (aT (aI (s_12 (aC fun _ s_14=>aA (aH U U (aH U U (aG (aG (aG (aG (aL (aG (bM (.cons U (.cons U .nil)) ((FV_p hp l_to Bt).liftB hNR) (F:= [Na,Nk,N11,R]) Tryz.func93 U U (.refl _) (by simp) U ?_ ?_)))))))))))))
 ·rintro _ _ ⟨e,Nt,cs,rfl,rfl,he,Bt,hcs⟩
  show At _ _ _ [Nt,Na,Nk,N11,R] _
  refine aY ((bW (bJ (bH (cP (L1:= [Nt]) (.refl _) aJ ?_)))))
  exact⟨e,Nt,cs,rfl,rfl,by simp only [tx2,eb,e_ch,e_nn,e_tp,e_pr,e_ga,e_to,e_va,e_d,e_a,he],Bt,hcs⟩
 rintro _ _ ⟨Mp,Nt,x_c,x_o,rfl,rfl,e_v,hp,Bt⟩
 show At _ _ _ [Mp,Nt,Na,Nk,N11,R] _
 refine aB (s_14 (aA (aH U U (aH U U (aH U U (bM (.cons U .nil) ((FWord_p hp).liftB hNR) (F:= [Nt,Na,Nk,N11,R]) Tryz.func88 U U (.refl _) (by simp) U ?_ ?_))))))
 ·rintro _ _ ⟨e,rfl,rfl,he⟩
  show At _ _ _ [Nt,Na,Nk,N11,R] _
  refine bW (bJ (bH (cP (L1:= [Nt]) (.refl _) aJ ?_)))
  exact⟨e,Nt,_,rfl,rfl,by simp only [tx2,eb,e_ch,e_nn,e_tp,e_pr,e_ga,e_to,e_va,e_d,e_a,e_v,he],Bt,aX l_to⟩
 rintro _ _ ⟨Mp,x_r,rfl,rfl,e_r,l_r,hp⟩
 show At _ _ _ [Mp,Nt,Na,Nk,N11,R] _
 refine aH U U (bM (.cons U .nil) ((FWord_p hp).liftB hNR) (F:= [Nt,Na,Nk,N11,R]) Tryz.func88 U U (.refl _) (by simp) U ?_ ?_)
 ·rintro _ _ ⟨e,rfl,rfl,he⟩
  show At _ _ _ [Nt,Na,Nk,N11,R] _
  refine bW (bJ (bH (cP (L1:= [Nt]) (.refl _) aJ ?_)))
  exact⟨e,Nt,_,rfl,rfl,by simp only [tx2,eb,e_ch,e_nn,e_tp,e_pr,e_ga,e_to,e_va,e_d,e_a,e_v,e_r,he],Bt,aX l_to⟩
 rintro _ _ ⟨Mp,x_s,rfl,rfl,e_s,l_s,hp⟩
 show At _ _ _ [Mp,Nt,Na,Nk,N11,R] _
 refine aW aE U U (aD aE fl32_14 U U ?_)
 refine aF cL sz26 U U U U U Bt (by rw [aX l_to];exact show 0+45+4≤53 by decide) sel1 (fun Nt Bt=>?_)
 erw [tx_r l_to]at Bt
 refine aW aE U U (aD aE fl32_15 U U ?_)
 refine aF cL sz26 U U U U U Bt (by rw [aX l_to];exact show 0+49+4≤53 by decide) dB (fun Nt Bt=>?_)
 erw [tx_s l_to]at Bt
 refine cX (At.norX (aG (aG (aN (aN (aG (aG (dI (fun J J1 J2=>bW (bJ (aM (bO (aM (At.retNE (L1:= [Nt,J]) U .nil U (.refl _) aJ ?_))))))))))))))
 exact⟨Nt,J,⟨2,x_c,x_nn,x_pr,x_tp,x_ga,x_mk,x_to,x_va,x_d,x_a,0,[],x_o,x_r,x_s⟩,_,_,_,rfl,rfl,by simp only [tx2,eb,e_ch,e_nn,e_tp,e_pr,e_ga,e_to,e_va,e_d,e_a,e_v,e_r,e_s],⟨vE_lt e_v l_ch,l_nn,l_pr,l_tp,l_ga,l_to,l_va,(show 0<WW by decide),fun _ h_=>absurd h_ List.not_mem_nil,l_r,l_s⟩,Bt,da,dc,aa,cc,none,0,axs,rfl,r_d,⟨7,z7,rfl,by rw [slB,w1,w2,w3]⟩,rfl,r_a.rsl.le J1,k_a.le J2,rfl,RSl.nil _ _⟩
set_option maxHeartbeats 8000000 in
theorem FTx_3 (h:PartsN Np NI bp zs its) (hF: ∀t∈its,t.form.length≤1099511627776) (B:Blk Nt bt 32 (txP (3:Int) 0 0 0 0 0 false zero20 0 (.slice none 0 0) (.slice none 0 0) 0 (.slice none 0 0) false 0 0).flatten):
 FnE Tryz.prog 34 #[.pointer (some ⟨bp,0,none⟩),.pointer (some ⟨bt,0,none⟩)] [Np,Nt] [NI] (fun v L=> ∃Nt J m d a b,v=.tuple #[]∧L= [Nt,J]∧tx3 its=.ok m∧m.Ok∧Blk Nt bt 32 (m.cells d a b)∧TxS zs NI J m d a b) (fun v L=> ∃(e:Nat) (Nt:Heaplet) (cs:List Value),v=gaveV e∧L= [Nt]∧tx3 its=.error e∧Blk Nt bt 32 cs∧cs.length=53):=by
 have hz:zero20.length=20:=List.length_replicate ..
 refine FnE.enter (vs:= [.pointer (some ⟨bp,0,none⟩),.pointer (some ⟨bt,0,none⟩)]) Tryz.func34 U U U ?_
 intro E R hR
 have hNR:=hR NI (by simp)
 have Bt:=B
 change At _ _ E [Np,Nt,R] _
 refine aC fun _ s_1=>aA (aH U U (op_buildA (out:= [_,_,_,_]) aE ze158 ae158 (.cons U (.cons U (.cons U (.cons U .nil)))) U U (aH U U (aW aE U U (aD aE fl32_0 U U (aK aE sc3 U Bt U mem1 U ?_))))))
 refine op_idxV aE ae158 sc3 U U (show _=(((3:Nat)):Int)from by omega) (by omega) U U ?_
 refine op_lit bU Tryz.underlying162 ze3 sz3 (.cons U .nil) U U (by simp [Value.cells]) U U U (fun N11 a11 r11=>?_)
 simp only [flatV,List.flatMap_cons,List.flatMap_nil,Value.cells,List.append_nil,List.cons_append,List.nil_append]at r11
 have s11:=r11.rsl
 refine aN (aN (aM (aN (bM (.cons U (.cons U .nil)) (FJust_p (ks:= [14]) h r11.rsl (by decide)) (F:= [N11,Nt,R]) Tryz.func51 U U (.refl _) (by simp) U ?_ ?_))))
 ·rintro _ _ ⟨rfl,rfl,hjm⟩
  show At _ _ _ [N11,Nt,R] _
  refine aY ((cK (cP (L1:= [Nt]) (.refl _) aJ ?_)))
  exact⟨2,Nt,_,rfl,rfl,tx3_ne hjm,Bt,aX hz⟩
 rintro _ _ ⟨rfl,rfl,hjm⟩
 show At _ _ _ [Np,N11,Nt,R] _
 obtain⟨t0,t1,t2,t3,t4,t5,t6,t7,t8,t9,t10,t11,t12,t13,rfl⟩:=of14 (List.mem_singleton.1 hjm);obtain⟨z0,z1,z2,z3,z4,z5,z6,z7,z8,z9,z10,z11,z12,z13,rfl⟩:=of14 h.all
 refine aB (s_1 (aC fun _ s_2=>aC fun _ s_3=>aA (aH U U (aW aE U U (aD aE fl32_0 U U (aK aE sc3 U Bt U mem2 U ?_))))))
 refine op_gtr aE U U U (aB (s_3 (aQ U (fun c17=>?_) (fun c17=>?_))))
 rotate_left
 ·first|(exfalso;omega)|simp at*
 refine c4 (d:=17) U c17 (aA (aH U U (aH U U (bM (.cons U .nil) ((FSmall_p h).liftB hNR) (F:= [N11,Nt,R]) Tryz.func58 U U (.refl _) (by simp) U ?_ ?_))))
 ·rintro _ _ ⟨e,rfl,rfl,he⟩
  show At _ _ _ [N11,Nt,R] _
  refine aY ((cK (cP (L1:= [Nt]) (.refl _) aJ ?_)))
  exact⟨e,Nt,_,rfl,rfl,by simp only [tx3,eb,he],Bt,aX hz⟩
 rintro _ _ ⟨Mp,x_ch,rfl,rfl,e_ch,l_ch,hp⟩
 show At _ _ _ [Mp,N11,Nt,R] _
 refine aW aE U U (aD aE fl32_1 U U ?_)
 refine aF cL sz24 U U U U U Bt (by rw [aX hz];exact show 0+1+1≤53 by decide) sel2 (fun Nt Bt=>?_)
 erw [tx_ch hz]at Bt
 refine aB (s_2 (aC fun _ s_4=>aA (aH U U (aH U U (aN (aN (aM (aN (bM (.cons U .nil) ((FSmall_p hp).liftB hNR) (F:= [Nt,N11,R]) Tryz.func58 U U (.refl _) (by simp) U ?_ ?_)))))))))
 ·rintro _ _ ⟨e,rfl,rfl,he⟩
  show At _ _ _ [Nt,N11,R] _
  refine aY ((bH (cP (L1:= [Nt]) (.refl _) aJ ?_)))
  exact⟨e,Nt,_,rfl,rfl,by simp only [tx3,eb,e_ch,he],Bt,aX hz⟩
 rintro _ _ ⟨Mp,x_nn,rfl,rfl,e_nn,l_nn,hp⟩
 show At _ _ _ [Mp,Nt,N11,R] _
 refine aW aE U U (aD aE fl32_2 U U ?_)
 refine aF cL sz24 U U U U U Bt (by rw [aX hz];exact show 0+2+1≤53 by decide) sel1 (fun Nt Bt=>?_)
 erw [tx_nn hz]at Bt
 refine aB (s_4 (aC fun _ s_5=>aC fun _ s_6=>aA (aH U U (aW aE U U (aD aE fl32_0 U U (aK aE sc3 U Bt U bI U ?_))))))
 refine op_gtr aE U U U (aB (s_6 (aQ U (fun c32=>?_) (fun c32=>?_))))
 rotate_left
 ·first|(exfalso;omega)|simp at*
 refine c4 (d:=32) U c32 (aA (aH U U (aH U U (aN (aN (aM (aN (bM (.cons U .nil) ((FWord_p hp).liftB hNR) (F:= [Nt,N11,R]) Tryz.func88 U U (.refl _) (by simp) U ?_ ?_))))))))
 ·rintro _ _ ⟨e,rfl,rfl,he⟩
  show At _ _ _ [Nt,N11,R] _
  refine aY ((bH (cP (L1:= [Nt]) (.refl _) aJ ?_)))
  exact⟨e,Nt,_,rfl,rfl,by simp only [tx3,eb,e_ch,e_nn,he],Bt,aX hz⟩
 rintro _ _ ⟨Mp,x_tp,rfl,rfl,e_tp,l_tp,hp⟩
 show At _ _ _ [Mp,Nt,N11,R] _
 refine aW aE U U (aD aE fl32_4 U U ?_)
 refine aF cL sz26 U U U U U Bt (by rw [aX hz];exact show 0+7+4≤53 by decide) sel1 (fun Nt Bt=>?_)
 erw [tx_tp hz]at Bt
 refine aB (s_5 (aC fun _ s_7=>aA (aH U U (aH U U (aH U U (aN (aN (aM (aN (bM (.cons U .nil) ((FWord_p hp).liftB hNR) (F:= [Nt,N11,R]) Tryz.func88 U U (.refl _) (by simp) U ?_ ?_))))))))))
 ·rintro _ _ ⟨e,rfl,rfl,he⟩
  show At _ _ _ [Nt,N11,R] _
  refine aY ((bH (cP (L1:= [Nt]) (.refl _) aJ ?_)))
  exact⟨e,Nt,_,rfl,rfl,by simp only [tx3,eb,e_ch,e_nn,e_tp,he],Bt,aX hz⟩
 rintro _ _ ⟨Mp,x_pr,rfl,rfl,e_pr,l_pr,hp⟩
 show At _ _ _ [Mp,Nt,N11,R] _
 refine aH U U (bM (.cons U .nil) ((FSmall_p hp).liftB hNR) (F:= [Nt,N11,R]) Tryz.func58 U U (.refl _) (by simp) U ?_ ?_)
 ·rintro _ _ ⟨e,rfl,rfl,he⟩
  show At _ _ _ [Nt,N11,R] _
  refine aY ((bH (cP (L1:= [Nt]) (.refl _) aJ ?_)))
  exact⟨e,Nt,_,rfl,rfl,by simp only [tx3,eb,e_ch,e_nn,e_tp,e_pr,he],Bt,aX hz⟩
 rintro _ _ ⟨Mp,x_ga,rfl,rfl,e_ga,l_ga,hp⟩
 show At _ _ _ [Mp,Nt,N11,R] _
 refine aW aE U U (aD aE fl32_3 U U ?_)
 refine aF cL sz26 U U U U U Bt (by rw [aX hz];exact show 0+3+4≤53 by decide) sel1 (fun Nt Bt=>?_)
 erw [tx_pr hz]at Bt
 refine aW aE U U (aD aE fl32_5 U U ?_)
 refine aF cL sz24 U U U U U Bt (by rw [aX hz];exact show 0+11+1≤53 by decide) dB (fun Nt Bt=>?_)
 erw [tx_ga hz]at Bt
 refine aB (s_7 (aC fun _ s_8=>aA (aH U U (aH U U (aN (aN (aM (aN (bM (.cons U (.cons U .nil)) ((FTo_p (mk:=_) hp Bt).liftB hNR) (F:= [N11,R]) Tryz.func89 U U (.refl _) (by simp) U ?_ ?_)))))))))
 ·rintro _ _ ⟨e,Nt,cs,rfl,rfl,he,Bt,hcs⟩
  show At _ _ _ [Nt,N11,R] _
  refine aY ((bH (cP (L1:= [Nt]) (.refl _) aJ ?_)))
  exact⟨e,Nt,cs,rfl,rfl,by simp only [tx3,eb,e_ch,e_nn,e_tp,e_pr,e_ga,he],Bt,hcs⟩
 rintro _ _ ⟨Mp,Nt,x_mk,x_to,rfl,rfl,e_to,l_to,hp,Bt⟩
 show At _ _ _ [Mp,Nt,N11,R] _
 refine aB (s_8 (aC fun _ s_9=>aA (aH U U (aH U U (aH U U (bM (.cons U .nil) ((FWord_p hp).liftB hNR) (F:= [Nt,N11,R]) Tryz.func88 U U (.refl _) (by simp) U ?_ ?_))))))
 ·rintro _ _ ⟨e,rfl,rfl,he⟩
  show At _ _ _ [Nt,N11,R] _
  refine aY ((bH (cP (L1:= [Nt]) (.refl _) aJ ?_)))
  exact⟨e,Nt,_,rfl,rfl,by simp only [tx3,eb,e_ch,e_nn,e_tp,e_pr,e_ga,e_to,he],Bt,aX l_to⟩
 rintro _ _ ⟨Mp,x_va,rfl,rfl,e_va,l_va,hp⟩
 show At _ _ _ [Mp,Nt,N11,R] _
 refine aH U U (bM (.cons U .nil) ((FBytes_x hp).liftB hNR) (F:= [Nt,N11,R]) Tryz.func90 U U (.refl _) (by simp) U ?_ ?_)
 ·rintro _ _ ⟨e,rfl,rfl,he⟩
  show At _ _ _ [Nt,N11,R] _
  refine aY ((bH (cP (L1:= [Nt]) (.refl _) aJ ?_)))
  exact⟨e,Nt,_,rfl,rfl,by simp only [tx3,eb,e_ch,e_nn,e_tp,e_pr,e_ga,e_to,e_va,he],Bt,aX l_to⟩
 rintro _ _ ⟨Mp,da,dc,x_d,rfl,rfl,e_d,hp,r_d,w1,w2,w3⟩
 show At _ _ _ [Mp,Nt,N11,R] _
 refine aW aE U U (aD aE fl32_8 U U ?_)
 refine aF cL sz26 U U U U U Bt (by rw [aX l_to];exact show 0+33+4≤53 by decide) sel1 (fun Nt Bt=>?_)
 erw [tx_va l_to]at Bt
 refine aW aE U U (aD aE fl32_9 U U ?_)
 refine aF cL sz22 U U U U U Bt (by rw [aX l_to];exact show 0+37+1≤53 by decide) dB (fun Nt Bt=>?_)
 erw [tx_d l_to]at Bt
 refine aB (s_9 (aC fun _ s_10=>aC fun _ s_11=>aA (aH U U (aW aE U U (aD aE fl32_0 U U (aK aE sc3 U Bt U bI U ?_))))))
 refine op_gtr aE U U U (aB (s_11 (aQ U (fun c65=>?_) (fun c65=>?_))))
 rotate_left
 ·first|(exfalso;omega)|simp at*
 refine c4 (d:=65) U c65 (aA (aH U U (aH U U (aN (aN (aM (aN (bM (.cons U .nil) ((FAccess_p hp (acc_le (hF _ (by simp)))).liftB hNR) (F:= [Nt,N11,R]) Tryz.func91 U U (.refl _) (by simp) U ?_ ?_))))))))
 ·rintro _ _ ⟨e,rfl,rfl,he⟩
  show At _ _ _ [Nt,N11,R] _
  refine aY ((bH (cP (L1:= [Nt]) (.refl _) aJ ?_)))
  exact⟨e,Nt,_,rfl,rfl,by simp only [tx3,eb,e_ch,e_nn,e_tp,e_pr,e_ga,e_to,e_va,e_d,he],Bt,aX l_to⟩
 rintro _ _ ⟨Mp,Na,Nk,aa,cc,x_a,axs,rfl,rfl,e_a,hp,r_a,k_a⟩
 show At _ _ _ [Mp,Na,Nk,Nt,N11,R] _
 refine aW aE U U (aD aE fl32_10 U U ?_)
 refine aF cL sz29 U U U U U Bt (by rw [aX l_to];exact show 0+38+1≤53 by decide) sel3 (fun Nt Bt=>?_)
 erw [tx_a l_to]at Bt
 refine aB (s_10 (aC fun _ s_12=>aC fun _ s_13=>aA (aH U U (aW aE U U (aD aE fl32_0 U U (aK aE sc3 U Bt U bI U ?_))))))
 refine dF aE U U U (aB (s_13 (aQ U (fun c75=>?_) (fun c75=>?_))))
 rotate_left
 ·first|(exfalso;omega)|simp at*
 refine c4 (d:=75) U c75 (aA (aH U U (aH U U (aH U U (aG (aG (aG (aG (aL (aG (bM (.cons U .nil) ((FWord_p hp).liftB hNR) (F:= [Nt,Na,Nk,N11,R]) Tryz.func88 U U (.refl _) (by simp) U ?_ ?_)))))))))))
 ·rintro _ _ ⟨e,rfl,rfl,he⟩
  show At _ _ _ [Nt,Na,Nk,N11,R] _
  refine aY ((bW (bJ (bH (cP (L1:= [Nt]) (.refl _) aJ ?_)))))
  exact⟨e,Nt,_,rfl,rfl,by simp only [tx3,eb,e_ch,e_nn,e_tp,e_pr,e_ga,e_to,e_va,e_d,e_a,he],Bt,aX l_to⟩
 rintro _ _ ⟨Mp,x_bf,rfl,rfl,e_bf,l_bf,hp⟩
 show At _ _ _ [Mp,Nt,Na,Nk,N11,R] _
 refine aH U U (bM (.cons U .nil) ((FHashes_p hp (fun its h=>len_le (hF _ (by simp)) h)).liftB hNR) (F:= [Nt,Na,Nk,N11,R]) Tryz.func92 U U (.refl _) (by simp) U ?_ ?_)
 ·rintro _ _ ⟨e,rfl,rfl,he⟩
  show At _ _ _ [Nt,Na,Nk,N11,R] _
  refine aY ((bW (bJ (bH (cP (L1:= [Nt]) (.refl _) aJ ?_)))))
  exact⟨e,Nt,_,rfl,rfl,by simp only [tx3,eb,e_ch,e_nn,e_tp,e_pr,e_ga,e_to,e_va,e_d,e_a,e_bf,he],Bt,aX l_to⟩
 rintro _ _ ⟨Mp,Nb,ba,bc,x_b,rfl,rfl,e_b,hp,r_b,k_b⟩
 show At _ _ _ [Mp,Nb,Nt,Na,Nk,N11,R] _
 refine aW aE U U (aD aE fl32_11 U U ?_)
 refine aF cL sz26 U U U U U Bt (by rw [aX l_to];exact show 0+39+4≤53 by decide) sel2 (fun Nt Bt=>?_)
 erw [tx_bf l_to]at Bt
 refine aW aE U U (aD aE fl32_12 U U ?_)
 refine aF cL sz30 U U U U U Bt (by rw [aX l_to];exact show 0+43+1≤53 by decide) dB (fun Nt Bt=>?_)
 erw [tx_b l_to]at Bt
 refine aB (s_12 (aC fun _ s_14=>aA (aH U U (aH U U (bC (bC (bC (bC (bC (aG (bC (bM (.cons U (.cons U .nil)) ((FV_p hp l_to Bt).liftB hNR) (F:= [Nb,Na,Nk,N11,R]) Tryz.func93 U U (.refl _) (by simp) U ?_ ?_))))))))))))
 ·rintro _ _ ⟨e,Nt,cs,rfl,rfl,he,Bt,hcs⟩
  show At _ _ _ [Nt,Nb,Na,Nk,N11,R] _
  refine aY ((dH (bW (bJ (bH (cP (L1:= [Nt]) (.refl _) aJ ?_))))))
  exact⟨e,Nt,cs,rfl,rfl,by simp only [tx3,eb,e_ch,e_nn,e_tp,e_pr,e_ga,e_to,e_va,e_d,e_a,e_bf,e_b,he],Bt,hcs⟩
 rintro _ _ ⟨Mp,Nt,x_c,x_o,rfl,rfl,e_v,hp,Bt⟩
 show At _ _ _ [Mp,Nt,Nb,Na,Nk,N11,R] _
 refine aB (s_14 (aA (aH U U (aH U U (aH U U (bM (.cons U .nil) ((FWord_p hp).liftB hNR) (F:= [Nt,Nb,Na,Nk,N11,R]) Tryz.func88 U U (.refl _) (by simp) U ?_ ?_))))))
 ·rintro _ _ ⟨e,rfl,rfl,he⟩
  show At _ _ _ [Nt,Nb,Na,Nk,N11,R] _
  refine dH (bW (bJ (bH (cP (L1:= [Nt]) (.refl _) aJ ?_))))
  exact⟨e,Nt,_,rfl,rfl,by simp only [tx3,eb,e_ch,e_nn,e_tp,e_pr,e_ga,e_to,e_va,e_d,e_a,e_bf,e_b,e_v,he],Bt,aX l_to⟩
 rintro _ _ ⟨Mp,x_r,rfl,rfl,e_r,l_r,hp⟩
 show At _ _ _ [Mp,Nt,Nb,Na,Nk,N11,R] _
 refine aH U U (bM (.cons U .nil) ((FWord_p hp).liftB hNR) (F:= [Nt,Nb,Na,Nk,N11,R]) Tryz.func88 U U (.refl _) (by simp) U ?_ ?_)
 ·rintro _ _ ⟨e,rfl,rfl,he⟩
  show At _ _ _ [Nt,Nb,Na,Nk,N11,R] _
  refine dH (bW (bJ (bH (cP (L1:= [Nt]) (.refl _) aJ ?_))))
  exact⟨e,Nt,_,rfl,rfl,by simp only [tx3,eb,e_ch,e_nn,e_tp,e_pr,e_ga,e_to,e_va,e_d,e_a,e_bf,e_b,e_v,e_r,he],Bt,aX l_to⟩
 rintro _ _ ⟨Mp,x_s,rfl,rfl,e_s,l_s,hp⟩
 show At _ _ _ [Mp,Nt,Nb,Na,Nk,N11,R] _
 refine aW aE U U (aD aE fl32_14 U U ?_)
 refine aF cL sz26 U U U U U Bt (by rw [aX l_to];exact show 0+45+4≤53 by decide) sel1 (fun Nt Bt=>?_)
 erw [tx_r l_to]at Bt
 refine aW aE U U (aD aE fl32_15 U U ?_)
 refine aF cL sz26 U U U U U Bt (by rw [aX l_to];exact show 0+49+4≤53 by decide) dB (fun Nt Bt=>?_)
 erw [tx_s l_to]at Bt
 refine cX (At.norX (bC (bC (aL (aL (aL (bC (bC (dI (fun W W1 W2=>aG (aG (aL (aL (aG (aG (dI (fun J J1 J2=>bW (bJ (aM (bO (aM (At.retNE (L1:= [Nt,J]) U .nil U (.refl _) aJ ?_))))))))))))))))))))))
 exact⟨Nt,J,⟨3,x_c,x_nn,x_pr,x_tp,x_ga,x_mk,x_to,x_va,x_d,x_a,x_bf,x_b,x_o,x_r,x_s⟩,_,_,_,rfl,rfl,by simp only [tx3,eb,e_ch,e_nn,e_tp,e_pr,e_ga,e_to,e_va,e_d,e_a,e_bf,e_b,e_v,e_r,e_s],⟨vE_lt e_v l_ch,l_nn,l_pr,l_tp,l_ga,l_to,l_va,l_bf,k_b,l_r,l_s⟩,Bt,da,dc,aa,cc,ba,bc,axs,rfl,r_d,⟨7,z7,rfl,by rw [slB,w1,w2,w3]⟩,rfl,r_a.rsl.le (Heaplet.le_trans W1 J1),k_a.le (Heaplet.le_trans W2 J1),rfl,r_b.rsl.le J2⟩
def txE:Nat→List It→Except Nat TxM
 |0=>tx0
 |1=>tx1
 |2=>tx2
 |3=>tx3
 |_=>fun _=>.error 2
theorem FTx_p {k:Nat} (hk:k<4) (h:PartsN Np NI bp zs its) (hF: ∀t∈its,t.form.length≤1099511627776) (B:Blk Nt bt 32 (txP (k:Int) 0 0 0 0 0 false zero20 0 (.slice none 0 0) (.slice none 0 0) 0 (.slice none 0 0) false 0 0).flatten):
 FnE Tryz.prog 34 #[.pointer (some ⟨bp,0,none⟩),.pointer (some ⟨bt,0,none⟩)] [Np,Nt] [NI] (fun v L=> ∃Nt J m d a b,v=.tuple #[]∧L= [Nt,J]∧txE k its=.ok m∧m.Ok∧Blk Nt bt 32 (m.cells d a b)∧TxS zs NI J m d a b) (fun v L=> ∃(e:Nat) (Nt:Heaplet) (cs:List Value),v=gaveV e∧L= [Nt]∧txE k its=.error e∧Blk Nt bt 32 cs∧cs.length=53):=by
 match k,hk with
 |0,_=>exact FTx_0 h hF B
 |1,_=>exact FTx_1 h hF B
 |2,_=>exact FTx_2 h hF B
 |3,_=>exact FTx_3 h hF B
end
def hf (l:Bool) (p:List UInt8):List UInt8:=if l then rlpHead 192 p.length++p else if small p then p else rlpHead 128 p.length++p
theorem form_hf (bs:List UInt8) (its:List It):(It.mk false bs its).form=hf false bs:=by rw [form_false];rfl
theorem form_hfl (bs:List UInt8) (its:List It):(It.mk true bs its).form=hf true (It.forms its):=by rw [form_true];rfl
theorem drop_split {b:List UInt8} {i n:Nat} :b.drop i=(b.drop i).take n++b.drop (i+n):=by
 conv=>lhs;rw [←List.take_append_drop n (b.drop i)]
 rw [List.drop_drop]
theorem cutF_form {b p r:List UInt8} {l:Bool} (h:cutF b=some (l,p,r)) (hb:b.length<2^64):b=hf l p++r:=by
 cases b with
 |nil=>simp [cutF]at h
 |cons x t=>
  have hx:=x.toNat_lt
  have h0:((x::t).getD 0 0).toNat=x.toNat:=rfl
  have hd:hdr (x::t)=(x.toNat- 128) % 64:=rfl
  rw [cutF,if_neg (by simp)]at h
  by_cases h1:x.toNat<128
  ·rw [if_pos (by rw [h0];exact h1)]at h
   simp only [List.take_succ_cons,List.take_zero,List.drop_succ_cons,List.drop_zero,Option.some.injEq,Prod.mk.injEq]at h
   obtain⟨rfl,rfl,rfl⟩:=h
   have:small [x]=true:=small_iffI.2 ⟨rfl,h1⟩
   simp [hf,this]
  ·rw [if_neg (by rw [h0];exact h1)]at h
   by_cases h55:hdr (x::t)≤55
   ·rw [if_pos h55,cutAt]at h
    split at h
    ·cases h
    ·rename_i hlen
     have hp:((x::t).drop 1).take (hdr (x::t))=t.take (hdr (x::t)):=rfl
     have hl:(t.take (hdr (x::t))).length=hdr (x::t):=by rw [List.length_take];simp at hlen;omega
     have hr:(x::t).drop (1+hdr (x::t))=t.drop (hdr (x::t)):=by rw [Nat.add_comm,List.drop_succ_cons]
     split at h
     ·rename_i h192
      rw [h0]at h192
      simp only [Option.some.injEq,Prod.mk.injEq,hp,hr]at h
      obtain⟨rfl,rfl,rfl⟩:=h
      rw [hf,if_pos rfl,hl,rlpHead,if_pos h55,List.append_assoc,List.take_append_drop]
      have:UInt8.ofNat (192+hdr (x::t))=x:=by rw [←UInt8.toNat_inj,ofNat8 (by omega)];omega
      rw [this];rfl
     ·rename_i h192
      rw [h0]at h192
      split at h
      ·cases h
      ·rename_i hsm
       simp only [Option.some.injEq,Prod.mk.injEq,hp,hr]at h
       obtain⟨rfl,rfl,rfl⟩:=h
       have hs: ¬small (t.take (hdr (x::t)))=true:=fun hs=>by
        obtain⟨h2,h3⟩:=small_iffI.1 hs
        rw [hl]at h2
        apply hsm
        refine⟨h2,?_⟩
        rw [h2]at h3
        cases t with
        |nil=>simp at h3;exact absurd (by simp at hl;omega) (by decide: ¬(0:Nat)=1)
        |cons y u=>exact h3
       rw [hf,if_neg (by decide),if_neg hs,hl,rlpHead,if_pos h55,List.append_assoc,List.take_append_drop]
       have:UInt8.ofNat (128+hdr (x::t))=x:=by rw [←UInt8.toNat_inj,ofNat8 (by omega)];omega
       rw [this];rfl
   ·rw [if_neg h55]at h
    split at h
    ·cases h
    ·rename_i h2
     split at h
     ·cases h
     ·rename_i h3
      generalize hk:hdr (x::t)- 54- 1=k at*
      have hkt:k≤t.length:=by simp at h2;omega
      have e1:hdr (x::t)- 54=k+1:=by omega
      have hlB:(t.take k).length=k:=by rw [List.length_take];omega
      have hB:t.take k=bytesOf (lng (x::t)):=by
       have:lng (x::t)=be (t.take k):=by rw [lng,hk];rfl
       rw [this]
       refine eq_bytesOf fun hh=>h2 (.inr ?_)
       cases t with
       |nil=>simp at hh
       |cons y u=>
        obtain⟨j,rfl⟩: ∃j,k=j+1:=⟨k- 1,by omega⟩
        simp only [List.take_succ_cons,List.head?_cons,Option.some.injEq]at hh
        rw [hh];rfl
      rw [cutAt,e1]at h
      split at h
      ·cases h
      ·rename_i hlen
       have hp:(x::t).drop (k+1)=t.drop k:=rfl
       have hr:(x::t).drop (k+1+lng (x::t))=t.drop (k+lng (x::t)):=by rw [show k+1+lng (x::t)=(k+lng (x::t))+1 by omega,List.drop_succ_cons]
       have hl:((t.drop k).take (lng (x::t))).length=lng (x::t):=by rw [List.length_take,List.length_drop];simp at hlen;omega
       have hall:t=bytesOf (lng (x::t))++((t.drop k).take (lng (x::t))++t.drop (k+lng (x::t))):=by
        rw [←drop_split, ←hB,List.take_append_drop]
       have hBl:(bytesOf (lng (x::t))).length=k:=by rw [←hB];exact hlB
       split at h
       ·rename_i h192
        rw [h0]at h192
        simp only [Option.some.injEq,Prod.mk.injEq,hp,hr]at h
        obtain⟨rfl,rfl,rfl⟩:=h
        rw [hf,if_pos rfl,hl,rlpHead,if_neg (by omega),hBl]
        have:UInt8.ofNat (192+55+k)=x:=by rw [←UInt8.toNat_inj,ofNat8 (by omega)];omega
        rw [this,List.cons_append,List.cons_append,List.append_assoc, ←hall]
       ·rename_i h192
        rw [h0]at h192
        split at h
        ·cases h
        ·rename_i hsm
         simp only [Option.some.injEq,Prod.mk.injEq,hp,hr]at h
         obtain⟨rfl,rfl,rfl⟩:=h
         have hs: ¬small ((t.drop k).take (lng (x::t)))=true:=fun hs=>by
          have h4:=(small_iffI.1 hs).1
          rw [hl]at h4;omega
         rw [hf,if_neg (by decide),if_neg hs,hl,rlpHead,if_neg (by omega),hBl]
         have:UInt8.ofNat (128+55+k)=x:=by rw [←UInt8.toNat_inj,ofNat8 (by omega)];omega
         rw [this,List.cons_append,List.cons_append,List.append_assoc, ←hall]
theorem items_form {dec:List UInt8→Except Nat (It×List UInt8)} {k:Nat} (ih: ∀b t q,b.length<2^64→dec b=.ok (t,q)→t.form++q=b∧t.depth≤k):
 ∀(f:Nat) (p:List UInt8) (ts:List It),p.length<2^64→itemsF dec f p=.ok ts→It.forms ts=p∧It.depths ts≤k
 |f,[],ts,_,h=>by
  cases f<;>(simp only [itemsF,Except.ok.injEq]at h;subst h;simp [It.forms,It.depths])
 |0,c::b,ts,_,h=>by simp [itemsF]at h
 |f+1,c::b,ts,hb,h=>by
  rw [itemsF]at h
  split at h
  ·cases h
  ·rename_i t q he
   obtain⟨h1,h2⟩:=ih _ _ _ hb he
   have hq:q.length<2^64:=by
    have:=congrArg List.length h1
    rw [List.length_append]at this
    omega
   cases hi:itemsF dec f q with
   |error e=>rw [hi]at h;cases h
   |ok us=>
    rw [hi]at h
    simp only [exMap,Except.ok.injEq]at h
    subst h
    obtain⟨h3,h4⟩:=items_form ih f q us hq hi
    exact⟨by rw [It.forms,h3,h1],by rw [It.depths];omega⟩
theorem decF_form: ∀(k:Nat) (b:List UInt8) (t:It) (q:List UInt8),b.length<2^64→decF k b=.ok (t,q)→t.form++q=b∧t.depth≤k:=by
 intro k
 induction k with
 |zero=>
  intro b t q hb h
  unfold decF at h
  split at h
  ·cases h
  ·rename_i hc
   cases h
   exact⟨by rw [form_hf];exact(cutF_form hc hb).symm,by simp [It.depth]⟩
  ·cases h
 |succ k ih=>
  intro b t q hb h
  unfold decF at h
  split at h
  ·cases h
  ·rename_i hc
   cases h
   exact⟨by rw [form_hf];exact(cutF_form hc hb).symm,by simp [It.depth]⟩
  ·rename_i p r hc
   split at h
   ·cases h
   ·rename_i its hi
    cases h
    have hl:=(cutF_len hc).1
    obtain⟨h1,h2⟩:=items_form ih _ _ _ (by omega) hi
    exact⟨by rw [form_hfl,h1];exact(cutF_form hc hb).symm,by rw [It.depth];omega⟩
mutual
def sizeT:It→Nat
 |.mk _ bs its=>9+bs.length+sizesT its
def sizesT:List It→Nat
 | []=>0
 |t::ts=>sizeT t+sizesT ts
end
mutual
theorem form_size: ∀t:It,sizeT t<256^8→t.form.length≤sizeT t
 |.mk false bs its,h=>by
  simp only [sizeT]at h⊢
  rw [form_false]
  split
  ·omega
  ·have:=rlpHead_le 128 bs.length (by omega)
   rw [List.length_append];omega
 |.mk true bs its,h=>by
  simp only [sizeT]at h⊢
  have:=forms_size its (by omega)
  have h9:=rlpHead_le 192 (It.forms its).length (by omega)
  rw [form_true,List.length_append];omega
theorem forms_size: ∀ts:List It,sizesT ts<256^8→(It.forms ts).length≤sizesT ts
 | [],_=>by simp [It.forms,sizesT]
 |t::ts,h=>by
  simp only [sizesT]at h⊢
  have h1:=form_size t (by omega)
  have h2:=forms_size ts (by omega)
  rw [It.forms,List.length_append];omega
end
def TwinP (bl deep left:Nat) (v:Value) (L:List Heaplet):Prop:=
 ∃Nl M, ∃y:IV, ∃t' left',v=.agg #[.bool y.l,.slice y.ab y.nb y.cb,.slice y.ai y.ni y.ci]∧L= [Nl,M]∧Blk Nl bl 3 [.int .i64 ((left':Nat):Int)]∧ItN M t' y∧t'.depth≤deep+1∧sizeT t'≤409*(left- left')∧left'<left
open Go Go.RowKit
open Go Go.RowKit
theorem decodeF_form {t:It} (hl:t.form.length<2^64) (hd:t.depth≤1024):decodeF t.form=.ok t.plain:=by
 have e:=dec_form t 1024 [] hl hd
 rw [List.append_nil]at e
 rw [decodeF,e];rfl
theorem decodeF_back {b:List UInt8} {t:It} (hb:b.length<2^64) (h:decodeF b=.ok t):t.form=b∧t.depth≤1024:=by
 unfold decodeF at h
 split at h
 ·cases h
 ·rename_i u q he
  split at h
  ·rename_i hq
   cases h
   obtain⟨h1,h2⟩:=decF_form 1024 b _ _ hb he
   rw [List.eq_nil_of_length_eq_zero hq,List.append_nil]at h1
   exact⟨h1,h2⟩
  ·cases h
open Go Go.RowKit
def SplW (nb:Nat) (v:Value) (L:List Heaplet):Prop:= ∃M1 M2 l n1 n2 a1 c1 a2 c2 p q, ∃e:Int,v=.tuple #[.bool l,.slice a1 n1 c1,.slice a2 n2 c2,.int .i64 e]∧L= [M1,M2]∧Row M1 5 1 a1 n1 c1 (u8s p)∧Row M2 5 1 a2 n2 c2 (u8s q)∧n1≤nb∧n2≤nb
theorem Envelope_r {N:Heaplet} {ao:Option Addr} {n cap:Nat} {b:List UInt8} (h:RSl N 1 ao n cap (u8s b)) (hn:n≤1099511627776):
 Fn Tryz.prog 29 #[.slice ao n cap] [] [N] (fun v L=>(L= []∧envF b=none∧v=.tuple #[.int .i64 0,.slice none 0 0,.int .i64 2])∨ ∃M k p a c,L= [M]∧envF b=some (k,p)∧v=.tuple #[.int .i64 (k:Int),.slice a p.length c,.int .i64 0]∧Row M 5 1 a p.length c (u8s p)):=by
 have hlen:=h.len8
 have hcap:=h.cap63
 have ok: ∀ {M:Heaplet} {k n c:Nat} {q:Int} {a:Option Addr} {p:List UInt8},envF b=some (k,p)→q=(k:Int)→Row M 5 1 a n c (u8s p)→
  ∃M' k p a' c',[M]= [M']∧envF b=some (k,p)∧(Value.tuple #[.int .i64 q,.slice a n c,.int .i64 0])=.tuple #[.int .i64 (k:Int),.slice a' p.length c',.int .i64 0]∧Row M' 5 1 a' p.length c' (u8s p):=by
  intro M k n c q a p hr hq h
  have e:=h.rsl.len8
  subst e;subst hq
  exact⟨M,k,p,a,c,rfl,hr,rfl,h⟩
 refine Fn.enter (vs:= [.slice ao n cap]) Tryz.func29 U U U ?_
 intro E R hR
 have h:=h.le (hR N (by simp))
 change At _ _ E [R] _
 refine aC fun _ s_1=>aA (aR U U (aR U U (aR U U (aB (s_1 (aC fun _ s_2=>bZ (aC fun _ s_3=>aA (aH U U (cF aE se22 U U (dF aE U U U (aH U U (cB (d:=9) U (fun g9=>?_) (fun g9=>?_)))))))))))))
 ·refine aU U U U U U U U (aU U U U U U U U (aU U U U U U U U (aU U U U U U U U (aU U U U U U U U (op_skipU U U U U U U (op_skipU U U U U U U (op_skipU U U U U U U (op_skipU U U U U U U (aU U U U U U U U (cH aE U U U (aR U U (aB (s_3 (At.condT U (aC fun _ s_4=>aA (aR U U (aR U U (aR U U (aB (s_4 (a0 (At.inRet (aS ((bE (L1:= []) U (.tmp U (.tmp U (.tmp U .nil))) U (.refl _) aJ ?_)))))))))))))))))))))))))
  exact .inl ⟨rfl,by rw [envF,if_pos (by omega)],rfl⟩
 refine aP (bF U U U U) U U (cZ (bF U U U U) se22 U U (by assumption) (show _=((0:Nat):Int)from U) (by omega) U ?_)
 refine cO (bF U U U U) sc5 U (by assumption) (by first|exact get8 (by omega)|exact get64 (by omega)|exact get32 (by omega)) (by simp) U ?_
 refine op_geq (bF U U U U) U U U (aP (bF U U U U) U U (cB (d:=14) U (fun g14=>?_) (fun g14=>?_)))
 ·refine aP (bF U U U U) U U (cZ (bF U U U U) se22 U U (by assumption) (show _=((0:Nat):Int)from U) (by omega) U ?_)
  refine cO (bF U U U U) sc5 U (by assumption) (by first|exact get8 (by omega)|exact get64 (by omega)|exact get32 (by omega)) (by simp) U ?_
  refine op_lss (bF U U U U) U U U (cH (bF U U U U) U U U (cE aE U U U (aR U U (aB (s_3 (aQ U (fun c5=>?_) (fun c5=>?_)))))))
  ·refine aC fun _ s_5=>aA (aR U U (aR U U (aR U U (aB (s_5 (a0 (At.inRet (aS ((bE (L1:= []) U (.tmp U (.tmp U (.tmp U .nil))) U (.refl _) aJ ?_))))))))))
   exact .inl ⟨rfl,by rw [envF,if_pos (by omega)],rfl⟩
  refine aC fun _ s_6=>aA (aH U U (cZ aE se22 U U (by assumption) (show _=((0:Nat):Int)from U) (by omega) U ?_))
  refine cO aE sc5 U (by assumption) (by first|exact get8 (by omega)|exact get64 (by omega)|exact get32 (by omega)) (by simp) U ?_
  refine op_geq aE U U U (aR U U (aB (s_6 (aQ U (fun c21=>?_) (fun c21=>?_)))))
  ·refine aC fun _ s_7=>aA (aH U U ?_)
   refine op_append0 bU Tryz.underlying22 Tryz.underlying22 te5 rfl rfl (by assumption) (by simp) (by first|exact one_u8s _|exact one_u64s _|exact one_u32s _|(intro u hu;simp at hu;subst hu;rfl)) (by omega) (by omega) rfl (fun N27 a27 p27 r27=>?_)
   have s27:=r27.rsl
   refine aR U U (aR U U (aR U U (aB (s_7 (a0 (At.inRet (aS ((bE (L1:= [N27]) U (.tmp U (.tmp U (.tmp U .nil))) U (.refl _) aJ ?_)))))))))
   exact .inr (ok (by rw [envF,if_neg (by omega),if_pos (by omega)]) U r27)
  refine aT (cS (aI (s_2 (aC fun _ s_8=>At.drawn [] [0,1,2,3,4,5,6,7,8,9] (by kernel_rfl) (by kernel_rfl) (aP (bP U U U (by kernel_rfl)) U U (cZ (bP U U U (by kernel_rfl)) se22 U U (by assumption) (show _=((0:Nat):Int)from U) (by omega) U ?_))))))
  refine cO (bP U U U (by kernel_rfl)) sc5 U (by assumption) (by first|exact get8 (by omega)|exact get64 (by omega)|exact get32 (by omega)) (by simp) U ?_
  refine op_convI (bP U U U (by kernel_rfl)) (und_some Tryz.underlying5) Tryz.underlying3 U (by omega) (by omega) U (aP (bP U U U (by kernel_rfl)) U U (op_slice (bP U U U (by kernel_rfl)) se22 U (.some U (show _=((1:Nat):Int)from U)) .none .none (by omega) (by omega) (by omega) (by simp) U ?_))
  have s33:=h.drop8 (lo:=1) (by omega)
  refine op_append0 (nxoa rfl rfl rfl) Tryz.underlying22 Tryz.underlying22 te5 rfl rfl (by assumption) (by simp) (by first|exact one_u8s _|exact one_u64s _|exact one_u32s _|(intro u hu;simp at hu;subst hu;rfl)) (by omega) (by omega) rfl (fun N34 a34 p34 r34=>?_)
  have s34:=r34.rsl
  refine cJ (bP U U U (by kernel_rfl)) U U (cJ (bP U U U (by kernel_rfl)) U U (cJ (bP U U U (by kernel_rfl)) U U (dK (aI (s_8 (a0 ((bE (L1:= [N34]) U (.tmp U (.tmp U (.tmp U .nil))) U (.refl _) aJ ?_))))))))
  exfalso;omega
 refine aU U U U U U U U (aU U U U U U U U (aU U U U U U U U (aU U U U U U U U (cE (bF U U U U) U U U (cE aE U U U (aR U U (aB (s_3 (dA U (aC fun _ s_9=>aA (aH U U (cZ aE se22 U U (by assumption) (show _=((0:Nat):Int)from U) (by omega) U ?_))))))))))))
 refine cO aE sc5 U (by assumption) (by first|exact get8 (by omega)|exact get64 (by omega)|exact get32 (by omega)) (by simp) U ?_
 refine op_geq aE U U U (aR U U (aB (s_9 (aQ U (fun c21=>?_) (fun c21=>?_)))))
 ·refine aC fun _ s_10=>aA (aH U U ?_)
  refine op_append0 bU Tryz.underlying22 Tryz.underlying22 te5 rfl rfl (by assumption) (by simp) (by first|exact one_u8s _|exact one_u64s _|exact one_u32s _|(intro u hu;simp at hu;subst hu;rfl)) (by omega) (by omega) rfl (fun N27 a27 p27 r27=>?_)
  have s27:=r27.rsl
  refine aR U U (aR U U (aR U U (aB (s_10 (a0 (At.inRet (aS ((bE (L1:= [N27]) U (.tmp U (.tmp U (.tmp U .nil))) U (.refl _) aJ ?_)))))))))
  exfalso;omega
 refine aT (cS (aI (s_2 (aC fun _ s_11=>At.drawn [] [0,1,2,3,4,5,6,7,8,9] (by kernel_rfl) (by kernel_rfl) (aP (bP U U U (by kernel_rfl)) U U (cZ (bP U U U (by kernel_rfl)) se22 U U (by assumption) (show _=((0:Nat):Int)from U) (by omega) U ?_))))))
 refine cO (bP U U U (by kernel_rfl)) sc5 U (by assumption) (by first|exact get8 (by omega)|exact get64 (by omega)|exact get32 (by omega)) (by simp) U ?_
 refine op_convI (bP U U U (by kernel_rfl)) (und_some Tryz.underlying5) Tryz.underlying3 U (by omega) (by omega) U (aP (bP U U U (by kernel_rfl)) U U (op_slice (bP U U U (by kernel_rfl)) se22 U (.some U (show _=((1:Nat):Int)from U)) .none .none (by omega) (by omega) (by omega) (by simp) U ?_))
 have s33:=h.drop8 (lo:=1) (by omega)
 refine op_append0 (nxoa rfl rfl rfl) Tryz.underlying22 Tryz.underlying22 te5 rfl rfl (by assumption) (by simp) (by first|exact one_u8s _|exact one_u64s _|exact one_u32s _|(intro u hu;simp at hu;subst hu;rfl)) (by omega) (by omega) rfl (fun N34 a34 p34 r34=>?_)
 have s34:=r34.rsl
 refine cJ (bP U U U (by kernel_rfl)) U U (cJ (bP U U U (by kernel_rfl)) U U (cJ (bP U U U (by kernel_rfl)) U U (dK (aI (s_11 (a0 ((bE (L1:= [N34]) U (.tmp U (.tmp U (.tmp U .nil))) U (.refl _) aJ ?_))))))))
 exact .inr (ok (by rw [envF,if_neg (by omega),if_neg (by omega)]) U r34)
def EnvW (nb:Nat) (v:Value) (L:List Heaplet):Prop:= ∃M k n1 a c p, ∃e:Int,v=.tuple #[.int .i64 k,.slice a n1 c,.int .i64 e]∧L= [M]∧Row M 5 1 a n1 c (u8s p)∧n1≤nb
theorem Fn.over {P:Program} {f:FuncId} {args:Array Value} {Ns:List Heaplet} {Post:Value→List Heaplet→Prop} (h: ∀J,(∀N∈Ns,N.le J)→Fn P f args [] [J] Post):Fn P f args [] Ns Post:=
 fun E w R hw hr=>h R hr E w R hw fun N hN=>by rw [List.mem_singleton.1 hN];exact Heaplet.le_refl _
end Go.Proofs.YtjfagifjajielaaGreat
