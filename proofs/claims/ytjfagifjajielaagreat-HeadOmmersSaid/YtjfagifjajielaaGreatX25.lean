/- Several texts in one: see the remarks ahead of each part. No condition but those told there. -/
import Derived.Test.YtjfagifjajielaaGreatX1
import Derived.Test.YtjfagifjajielaaGreatX24
import Derived.Test.YtjfagifjajielaaGreatX4
import Derived.Test.YtjfagifjajielaaGreatX8
import Derived.Maps.OwnSet
import Derived.DeepKeys4
import Derived.Test.YtjfagifjajielaaGreatX14
import Derived.Test.YtjfagifjajielaaGreatX23
import Derived.Test.YtjfagifjajielaaGreatX5
set_option linter.unusedSimpArgs false
set_option linter.unusedVariables false
namespace Go.Proofs.YtjfagifjajielaaGreat
open Go Go.RowKit
set_option maxRecDepth 100000
section
variable {N M : Heaplet} {h : HdM} {v v' : Value}
end
theorem HdIn.le {N M:Heaplet} {h:HdM} {v:Value} (k:HdIn N h v) (hl:N.le M):HdIn M h v:=by
 obtain⟨k1,ea,ec,k3,k4⟩:=k
 exact⟨k1,ea,ec,k3,k4.le hl⟩
def wdK:List (Nat×FldK):= [(0,.num .u64),(1,.num .u64),(2,.arr 20),(22,.num .u64)]
theorem BlkR.one {N:Heaplet} {m:BlkM} {cs:List Value} (h:BlkR N m cs):cs.length=560∧cs.all (·.oneCell')=true:=by
 obtain⟨v1,ta,tc,vs,oa,oc,xs,wa,wc,rfl,⟨h1,ea,ec,rfl,_⟩,_⟩:=h
 exact⟨blk_len (HdM.len h1 _),blk_one (HdM.one rfl) rfl rfl rfl⟩
section
variable {N M : Heaplet} {m : BlkM} {cs cs' : List Value}
end
open Go Go.RowKit Go.ChangeShapes Go.WideShapes Go.Deep
section
variable {H : Type} {enc : TypeId × Value → H} {w : World} {spare : Nat → Bool} {held : Bool}
theorem each_open {α:Type} {f:α→List Value} {Q:α→Prop} {n:Nat} {C:Nat→List Value} (h: ∀i,i<n→ ∃y,C i=f y∧Q y): ∃xs:List α,(List.range n).flatMap C=xs.flatMap f∧ ∀x∈xs,Q x:=by
 induction n with
 |zero=>exact⟨[],rfl,fun x hx=>by cases hx⟩
 |succ n ih=>
  obtain⟨xs,e,hi⟩:=ih fun i hi=>h i (by omega)
  obtain⟨y,e2,hx⟩:=h n (by omega)
  refine⟨xs++ [y],?_,fun z hz=>?_⟩
  ·simp only [List.range_succ,List.flatMap_append,List.flatMap_cons,List.flatMap_nil,List.append_nil,e,e2]
  ·rcases List.mem_append.1 hz with hz|hz
   ·exact hi z hz
   ·rw [List.mem_singleton.1 hz];exact hx
theorem hd_cells {fuel:Nat} {cs:List Value} {x:DataW H×List MemPlace} (h:DataW.trod enc Tryz.prog w 0 spare held fuel 44 cs=some x): ∃(h:HdM) (v:Value),cs=h.cells v∧HdIn (whole w) h v:=by
 obtain⟨hl,k,hx⟩:=struct_open' Tryz.underlying44 h
 have hl':cs.length=556:=hl.trans (by kernel_rfl)
 obtain⟨y0,h0⟩: ∃y,DataW.trod enc Tryz.prog w 0 spare held k 3 ((cs.drop 0).take (Tryz.prog.cellsOf 3))=some y:=hx 0 _ rfl
 rw [show Tryz.prog.cellsOf 3=1 by kernel_rfl]at h0
 obtain⟨y1,h1⟩: ∃y,DataW.trod enc Tryz.prog w 0 spare held k 40 ((cs.drop 1).take (Tryz.prog.cellsOf 40))=some y:=hx 1 _ rfl
 rw [show Tryz.prog.cellsOf 40=32 by kernel_rfl]at h1
 obtain⟨y2,h2⟩: ∃y,DataW.trod enc Tryz.prog w 0 spare held k 40 ((cs.drop 33).take (Tryz.prog.cellsOf 40))=some y:=hx 2 _ rfl
 rw [show Tryz.prog.cellsOf 40=32 by kernel_rfl]at h2
 obtain⟨y3,h3⟩: ∃y,DataW.trod enc Tryz.prog w 0 spare held k 28 ((cs.drop 65).take (Tryz.prog.cellsOf 28))=some y:=hx 3 _ rfl
 rw [show Tryz.prog.cellsOf 28=20 by kernel_rfl]at h3
 obtain⟨y4,h4⟩: ∃y,DataW.trod enc Tryz.prog w 0 spare held k 40 ((cs.drop 85).take (Tryz.prog.cellsOf 40))=some y:=hx 4 _ rfl
 rw [show Tryz.prog.cellsOf 40=32 by kernel_rfl]at h4
 obtain⟨y5,h5⟩: ∃y,DataW.trod enc Tryz.prog w 0 spare held k 40 ((cs.drop 117).take (Tryz.prog.cellsOf 40))=some y:=hx 5 _ rfl
 rw [show Tryz.prog.cellsOf 40=32 by kernel_rfl]at h5
 obtain⟨y6,h6⟩: ∃y,DataW.trod enc Tryz.prog w 0 spare held k 40 ((cs.drop 149).take (Tryz.prog.cellsOf 40))=some y:=hx 6 _ rfl
 rw [show Tryz.prog.cellsOf 40=32 by kernel_rfl]at h6
 obtain⟨y7,h7⟩: ∃y,DataW.trod enc Tryz.prog w 0 spare held k 41 ((cs.drop 181).take (Tryz.prog.cellsOf 41))=some y:=hx 7 _ rfl
 rw [show Tryz.prog.cellsOf 41=256 by kernel_rfl]at h7
 obtain⟨y8,h8⟩: ∃y,DataW.trod enc Tryz.prog w 0 spare held k 26 ((cs.drop 437).take (Tryz.prog.cellsOf 26))=some y:=hx 8 _ rfl
 rw [show Tryz.prog.cellsOf 26=4 by kernel_rfl]at h8
 obtain⟨y9,h9⟩: ∃y,DataW.trod enc Tryz.prog w 0 spare held k 24 ((cs.drop 441).take (Tryz.prog.cellsOf 24))=some y:=hx 9 _ rfl
 rw [show Tryz.prog.cellsOf 24=1 by kernel_rfl]at h9
 obtain⟨y10,h10⟩: ∃y,DataW.trod enc Tryz.prog w 0 spare held k 24 ((cs.drop 442).take (Tryz.prog.cellsOf 24))=some y:=hx 10 _ rfl
 rw [show Tryz.prog.cellsOf 24=1 by kernel_rfl]at h10
 obtain⟨y11,h11⟩: ∃y,DataW.trod enc Tryz.prog w 0 spare held k 24 ((cs.drop 443).take (Tryz.prog.cellsOf 24))=some y:=hx 11 _ rfl
 rw [show Tryz.prog.cellsOf 24=1 by kernel_rfl]at h11
 obtain⟨y12,h12⟩: ∃y,DataW.trod enc Tryz.prog w 0 spare held k 24 ((cs.drop 444).take (Tryz.prog.cellsOf 24))=some y:=hx 12 _ rfl
 rw [show Tryz.prog.cellsOf 24=1 by kernel_rfl]at h12
 obtain⟨y13,h13⟩: ∃y,DataW.trod enc Tryz.prog w 0 spare held k 22 ((cs.drop 445).take (Tryz.prog.cellsOf 22))=some y:=hx 13 _ rfl
 rw [show Tryz.prog.cellsOf 22=1 by kernel_rfl]at h13
 obtain⟨y14,h14⟩: ∃y,DataW.trod enc Tryz.prog w 0 spare held k 40 ((cs.drop 446).take (Tryz.prog.cellsOf 40))=some y:=hx 14 _ rfl
 rw [show Tryz.prog.cellsOf 40=32 by kernel_rfl]at h14
 obtain⟨y15,h15⟩: ∃y,DataW.trod enc Tryz.prog w 0 spare held k 42 ((cs.drop 478).take (Tryz.prog.cellsOf 42))=some y:=hx 15 _ rfl
 rw [show Tryz.prog.cellsOf 42=8 by kernel_rfl]at h15
 obtain⟨y16,h16⟩: ∃y,DataW.trod enc Tryz.prog w 0 spare held k 26 ((cs.drop 486).take (Tryz.prog.cellsOf 26))=some y:=hx 16 _ rfl
 rw [show Tryz.prog.cellsOf 26=4 by kernel_rfl]at h16
 obtain⟨y17,h17⟩: ∃y,DataW.trod enc Tryz.prog w 0 spare held k 40 ((cs.drop 490).take (Tryz.prog.cellsOf 40))=some y:=hx 17 _ rfl
 rw [show Tryz.prog.cellsOf 40=32 by kernel_rfl]at h17
 obtain⟨y18,h18⟩: ∃y,DataW.trod enc Tryz.prog w 0 spare held k 24 ((cs.drop 522).take (Tryz.prog.cellsOf 24))=some y:=hx 18 _ rfl
 rw [show Tryz.prog.cellsOf 24=1 by kernel_rfl]at h18
 obtain⟨y19,h19⟩: ∃y,DataW.trod enc Tryz.prog w 0 spare held k 24 ((cs.drop 523).take (Tryz.prog.cellsOf 24))=some y:=hx 19 _ rfl
 rw [show Tryz.prog.cellsOf 24=1 by kernel_rfl]at h19
 obtain⟨y20,h20⟩: ∃y,DataW.trod enc Tryz.prog w 0 spare held k 40 ((cs.drop 524).take (Tryz.prog.cellsOf 40))=some y:=hx 20 _ rfl
 rw [show Tryz.prog.cellsOf 40=32 by kernel_rfl]at h20
 obtain⟨fi,e0,_⟩:=open_ic Tryz.underlying3 h0
 obtain⟨pa,l_pa,e1⟩:=bytes_cells Tryz.underlying40 Tryz.underlying5 (by kernel_rfl) (by kernel_rfl) h1
 obtain⟨om,l_om,e2⟩:=bytes_cells Tryz.underlying40 Tryz.underlying5 (by kernel_rfl) (by kernel_rfl) h2
 obtain⟨co,l_co,e3⟩:=bytes_cells Tryz.underlying28 Tryz.underlying5 (by kernel_rfl) (by kernel_rfl) h3
 obtain⟨st,l_st,e4⟩:=bytes_cells Tryz.underlying40 Tryz.underlying5 (by kernel_rfl) (by kernel_rfl) h4
 obtain⟨tx,l_tx,e5⟩:=bytes_cells Tryz.underlying40 Tryz.underlying5 (by kernel_rfl) (by kernel_rfl) h5
 obtain⟨rc,l_rc,e6⟩:=bytes_cells Tryz.underlying40 Tryz.underlying5 (by kernel_rfl) (by kernel_rfl) h6
 obtain⟨bl,l_bl,e7⟩:=bytes_cells Tryz.underlying41 Tryz.underlying5 (by kernel_rfl) (by kernel_rfl) h7
 obtain⟨df,l_df,e8⟩:=word_cells Tryz.underlying26 Tryz.underlying24 (by kernel_rfl) (by kernel_rfl) h8
 obtain⟨nu,e9⟩:=open_u64c Tryz.underlying24 h9
 obtain⟨gl,e10⟩:=open_u64c Tryz.underlying24 h10
 obtain⟨gu,e11⟩:=open_u64c Tryz.underlying24 h11
 obtain⟨ti,e12⟩:=open_u64c Tryz.underlying24 h12
 obtain⟨exa,exn,exc,ex,e13,r_ex⟩:=open_u8 Tryz.underlying22 Tryz.underlying5 (by kernel_rfl) h13
 obtain rfl:ex.length=exn:=r_ex.len8
 obtain⟨mx,l_mx,e14⟩:=bytes_cells Tryz.underlying40 Tryz.underlying5 (by kernel_rfl) (by kernel_rfl) h14
 obtain⟨no,l_no,e15⟩:=bytes_cells Tryz.underlying42 Tryz.underlying5 (by kernel_rfl) (by kernel_rfl) h15
 obtain⟨bf,l_bf,e16⟩:=word_cells Tryz.underlying26 Tryz.underlying24 (by kernel_rfl) (by kernel_rfl) h16
 obtain⟨wd,l_wd,e17⟩:=bytes_cells Tryz.underlying40 Tryz.underlying5 (by kernel_rfl) (by kernel_rfl) h17
 obtain⟨bg,e18⟩:=open_u64c Tryz.underlying24 h18
 obtain⟨xs,e19⟩:=open_u64c Tryz.underlying24 h19
 obtain⟨be,l_be,e20⟩:=bytes_cells Tryz.underlying40 Tryz.underlying5 (by kernel_rfl) (by kernel_rfl) h20
 refine⟨⟨fi,pa,om,co,st,tx,rc,bl,df,nu,gl,gu,ti,ex,mx,no,bf,wd,bg,xs,be⟩,.slice exa ex.length exc,?_,⟨l_pa,l_om,l_co,l_st,l_tx,l_rc,l_bl,l_df,l_mx,l_no,l_bf,l_wd,l_be⟩,exa,exc,rfl,r_ex⟩
 have e0':(cs.drop 0).take 1= [.int .i64 fi]:=e0
 have e1':(cs.drop 1).take 32=u8s pa:=e1
 have e2':(cs.drop 33).take 32=u8s om:=e2
 have e3':(cs.drop 65).take 20=u8s co:=e3
 have e4':(cs.drop 85).take 32=u8s st:=e4
 have e5':(cs.drop 117).take 32=u8s tx:=e5
 have e6':(cs.drop 149).take 32=u8s rc:=e6
 have e7':(cs.drop 181).take 256=u8s bl:=e7
 have e8':(cs.drop 437).take 4=u64s (wl df):=e8
 have e9':(cs.drop 441).take 1= [.int .u64 (nu.toNat:Int)]:=e9
 have e10':(cs.drop 442).take 1= [.int .u64 (gl.toNat:Int)]:=e10
 have e11':(cs.drop 443).take 1= [.int .u64 (gu.toNat:Int)]:=e11
 have e12':(cs.drop 444).take 1= [.int .u64 (ti.toNat:Int)]:=e12
 have e13':(cs.drop 445).take 1= [.slice exa ex.length exc]:=e13
 have e14':(cs.drop 446).take 32=u8s mx:=e14
 have e15':(cs.drop 478).take 8=u8s no:=e15
 have e16':(cs.drop 486).take 4=u64s (wl bf):=e16
 have e17':(cs.drop 490).take 32=u8s wd:=e17
 have e18':(cs.drop 522).take 1= [.int .u64 (bg.toNat:Int)]:=e18
 have e19':(cs.drop 523).take 1= [.int .u64 (xs.toNat:Int)]:=e19
 have e20':(cs.drop 524).take 32=u8s be:=e20
 have e:cs=(cs.drop 0).take 1++((cs.drop 1).take 32++((cs.drop 33).take 32++((cs.drop 65).take 20++((cs.drop 85).take 32++((cs.drop 117).take 32++((cs.drop 149).take 32++((cs.drop 181).take 256++((cs.drop 437).take 4++((cs.drop 441).take 1++((cs.drop 442).take 1++((cs.drop 443).take 1++((cs.drop 444).take 1++((cs.drop 445).take 1++((cs.drop 446).take 32++((cs.drop 478).take 8++((cs.drop 486).take 4++((cs.drop 490).take 32++((cs.drop 522).take 1++((cs.drop 523).take 1++((cs.drop 524).take 32)))))))))))))))))))):=by
  rw [List.take_of_length_le (show(cs.drop 524).length≤32 by rw [List.length_drop];omega)]
  rw [←cut_cells _ 523 1, ←cut_cells _ 522 1, ←cut_cells _ 490 32, ←cut_cells _ 486 4, ←cut_cells _ 478 8, ←cut_cells _ 446 32, ←cut_cells _ 445 1, ←cut_cells _ 444 1, ←cut_cells _ 443 1, ←cut_cells _ 442 1, ←cut_cells _ 441 1, ←cut_cells _ 437 4, ←cut_cells _ 181 256, ←cut_cells _ 149 32, ←cut_cells _ 117 32, ←cut_cells _ 85 32, ←cut_cells _ 65 20, ←cut_cells _ 33 32, ←cut_cells _ 1 32, ←cut_cells _ 0 1,List.drop_zero]
 rw [e0',e1',e2',e3',e4',e5',e6',e7',e8',e9',e10',e11',e12',e13',e14',e15',e16',e17',e18',e19',e20']at e
 rw [e]
 simp only [HdM.cells,HdM.parts,c64,List.flatten_cons,List.flatten_nil,List.append_nil]
theorem hds_cells {fuel:Nat} {cs:List Value} {x:DataW H×List MemPlace} (h:DataW.trod enc Tryz.prog w 0 spare held fuel 51 cs=some x):
 ∃ao n cap, ∃xs:List (HdM×Value),cs= [.slice ao n cap]∧RSl (whole w) 556 ao n cap (omC xs)∧(∀x∈xs,HdIn (whole w) x.1 x.2)∧n=xs.length:=by
 have hc:Tryz.prog.cellsOf 44=556:=by kernel_rfl
 obtain⟨ao,n,cap,C,m,e,hr,_,hC⟩:=open_rsl Tryz.underlying51 (by rw [hc];decide) h
 rw [hc]at hr
 obtain⟨xs,h1,h2⟩:=each_open (f:=fun q:HdM×Value=>q.1.cells q.2) (Q:=fun q=>HdIn (whole w) q.1 q.2) (n:=n) (C:=C) fun i hi=>by
  obtain⟨_,y,hy⟩:=hC i hi
  obtain⟨h,v,e1,e2⟩:=hd_cells hy
  exact⟨(h,v),e1,e2⟩
 rw [h1]at hr
 refine⟨ao,n,cap,xs,e,hr,h2,?_⟩
 have h3:=hr.1
 have h4:(xs.flatMap (fun q:HdM×Value=>q.1.cells q.2)).length=xs.length*556:=by
  clear hr h1 h3
  induction xs with
  |nil=>rfl
  |cons a l ih=>
   rw [List.flatMap_cons,List.length_append,List.length_cons,ih fun x hx=>h2 x (List.mem_cons_of_mem _ hx)]
   have:=HdM.len (h2 a (by simp)).1 a.2
   omega
 rw [h4]at h3;omega
end
open Go.Maps (Keyed)
open Go.MapKept Go.ChangeShapes Go.WideShapes
def MapN (P:Program) (k:TypeId) (N:Heaplet) (b n:Nat) (D:DataW Unit):Prop:= ∃es clock,N b=some (.map es clock)∧ ∀w:World,w.heap[b]? =some (.map es clock)→w.ownsMap P k unitElem b n D
section
variable {P : Program} {n : Nat} {l : List (Nat × Value)} {E : World} {L L1 Ls : List Heaplet} {X Y : Act → World → Prop} {d : Nat} {t t' ty k e : TypeId} {m x y : Operand} {N : Heaplet} {b c : Nat} {D : DataW Unit}
theorem op_makeMap {pos:_} {aft:_} {g:_} (k:TypeId) (s:NxA P n l E L ⟨some d,.makeMap t none,ty,pos,aft,g⟩ X Y) (hn:Nat.ble (d+1) n=true) (h: ∀N b,MapN P k N b 0 (.map [])→At n ((d,.map (some b))::l) E (N::L) Y):At n l E L X:=by
 refine op_new s (fun v L'=> ∃N b,v=.map (some b)∧L'=N::L∧MapN P k N b 0 (.map [])) (fun a w hf hw=>?_) rfl hn (fun v L' ⟨N,b,hv,hL,hB⟩=>by subst hv;subst hL;exact h N b hB)
 refine⟨.map (some w.heap.size),w.alloc (.map #[] 0),_,?_,Agree.alloc w _,hw.alloc _,single w.heap.size (.map #[] 0),w.heap.size,rfl,rfl, #[],0,single_self _ _,fun w' hw'=>?_⟩
 ·simp only [execOp,Instr.makeMap,Option.map_none,Sem.run_bind,Sem.run_pure,Result.andThen_ok]
  rfl
 ·exact⟨#[],0,hw',⟨by simp,stamped_empty 0,by simp⟩,Nat.le_refl _,rfl⟩
theorem op_mapUpdate {pos:_} {aft:_} {g:_} {key:Value} {kl:Lit} (s:Nx P n l E L ⟨none,.mapUpdate t m x y,ty,pos,aft,g⟩ X Y) (K:Keyed P k) (ht:P.underlying t=some (.map k e)) (hm:ev l m=some (.map (some b))) (hx:ev l x=some key) (hy:ev l y=some (.agg #[])) (hb:MapN P k N b c D) (hc:c<maxLen) (hk:keyOf P k key=some kl) (hs:L.Perm (N::L1))
 (h: ∀N,MapN P k N b (c+1) (D.put kl (.agg []))→At n l E (N::L1) Y):At n l E L X:=fun a w hf hw=>by
 have hw2:=hw.perm hs
 obtain⟨es,clock,hN,hown⟩:=hb
 have hheap:=hw2.sub N (List.mem_cons_self ..) _ _ hN
 have ho:=hown w hheap
 obtain⟨w',hr,ho',hg⟩:=ho.update K ht hc hk (unitElem_mk (H:=Unit))
 obtain⟨es',clock',hb',F',hs',hD'⟩:=ho'
 have henv:=grown_env hg
 refine s a w hf hw ?_
 unfold Oper.wp
 have hrun:(execOp a.eval ⟨none,.mapUpdate t m x y,ty,pos,aft,g⟩).run P w=.ok .skip w':=by
  simp only [execOp,hf.eval hm,hf.eval hx,hf.eval hy,Sem.run_bind,hr,Result.andThen_ok]
  rfl
 rw [hrun]
 exact h (upd N b (.map es' clock')) ⟨es',clock',upd_self _ _ _,fun w2 hw2=>⟨es',clock',hw2,F',hs',hD'⟩⟩ a w' hf (hw2.put hN henv.1 henv.2.1 henv.2.2 hb' fun k hk hlt=>grown_block hg hlt (by
  intro h;exact hk (Option.some.inj h).symm))
theorem op_lenM {pos:_} {aft:_} {g:_} (s:NxF P n l E L Ls ⟨some d,.call ⟨.builtin .len, #[x], #[t]⟩,ty,pos,aft,g⟩ X Y) (ht:P.underlying t=some (.map k e)) (hx:ev l x=some (.map (some b))) (hb:MapN P k N b c D) (hN:N∈Ls) (hn:Nat.ble (d+1) n=true) (h:At n ((d,.int .i64 (Maps.size D:Int))::l) E L Y):At n l E L X:=by
 refine op_val s (fun a w hf hw=>?_) U hn h
 obtain⟨es,clock,hNb,hown⟩:=hb
 have hl:=(hown w (hw.sub N hN _ _ hNb)).len ht ty
 simp only [execOp,resolve,invoke,builtin,Sem.run_bind,Sem.run_pure,Result.andThen_ok,List.map_toArray,List.map_cons,List.map_nil,hf.eval hx,hl]
end
def setOf:List Lit→DataW Unit
 | []=>.map []
 |k::ks=>(setOf ks).put k (.agg [])
theorem setOf_laws: ∀ks:List Lit,(∀k∈ks,WideAt.IsKeyLit k)→Maps.Tidy (setOf ks)∧Maps.IsMap (setOf ks)∧(∀k,WideAt.IsKeyLit k→(Maps.has (setOf ks) k=true↔k∈ks))∧Maps.size (setOf ks)≤ks.length∧(Maps.size (setOf ks)=ks.length↔ks.Nodup):=by
 intro ks
 induction ks with
 |nil=>exact fun _=>⟨⟨_,rfl,.nil⟩,⟨_,rfl⟩,fun k _=>by simp [setOf,Maps.has],by simp [setOf,Maps.size],by simp [setOf,Maps.size]⟩
 |cons k ks ih=>
  intro hk
  obtain⟨h1,h2,h3,h4,h5⟩:=ih fun k hk'=>hk k (List.mem_cons_of_mem _ hk')
  have hkk:=hk k (List.mem_cons_self ..)
  rw [setOf]
  refine⟨h1.put hkk _,?_,fun k' hk'=>?_,?_,?_⟩
  ·obtain⟨es,he⟩:=h2
   rw [he];exact⟨_,rfl⟩
  ·by_cases e:k'=k
   ·subst e
    rw [Maps.has_put_same h2 hkk];simp
   ·rw [Maps.has_put_other e,h3 k' hk'];simp [e]
  ·rw [Maps.size_put h1]
   split<;>simp<;>omega
  ·rw [Maps.size_put h1,List.nodup_cons]
   have h6:=h3 k hkk
   by_cases hm:k∈ks
   ·rw [if_pos (h6.2 hm)]
    constructor
    ·intro e;simp at e;omega
    ·intro e;exact absurd hm e.1
   ·rw [if_neg (fun e=>hm (h6.1 e)),List.length_cons]
    constructor
    ·intro e;exact⟨hm,h5.1 (by omega)⟩
    ·intro e;rw [h5.2 e.2]
def cfg (ch dao:UInt64) (bl ti:List UInt64) (ao:Option Addr) (n cap:Nat) (tw:List UInt8):List Value:=.int .u64 (ch.toNat:Int)::(u64s bl++(u64s ti++(.int .u64 (dao.toNat:Int)::.slice ao n cap::u8s tw)))
section
variable {ch dao : UInt64} {bl ti : List UInt64} {ao : Option Addr} {n cap : Nat} {tw : List UInt8}
theorem cfg_len (hb:bl.length=14) (ht:ti.length=2) (ho:tw.length=20):(cfg ch dao bl ti ao n cap tw).length=39:=by
 simp [cfg,u64s,u8s,hb,ht,ho]
theorem cfg_blk (hb:bl.length=14) {i:Nat} (hi:i<14):(cfg ch dao bl ti ao n cap tw)[0+1+i*1]? =some (.int .u64 ((bl.getD i 0).toNat:Int)):=by
 rw [show 0+1+i*1=i+1 by omega,cfg,List.getElem?_cons_succ,List.getElem?_append_left (by rw [u64s_len];omega)]
 exact get64 (by omega)
theorem cfg_time (hb:bl.length=14) (ht:ti.length=2) {i:Nat} (hi:i<2):(cfg ch dao bl ti ao n cap tw)[0+15+i*1]? =some (.int .u64 ((ti.getD i 0).toNat:Int)):=by
 rw [show 0+15+i*1=(i+14)+1 by omega,cfg,List.getElem?_cons_succ,List.getElem?_append_right (by rw [u64s_len];omega),u64s_len,List.getElem?_append_left (by rw [u64s_len];omega),show i+14- bl.length=i by omega]
 exact get64 (by omega)
theorem cfg_from (hb:bl.length=14) (ht:ti.length=2):(cfg ch dao bl ti ao n cap tw)[0+18]? =some (.slice ao n cap):=by
 rw [show 0+18=17+1 from rfl,cfg,List.getElem?_cons_succ,List.getElem?_append_right (by rw [u64s_len];omega),u64s_len,List.getElem?_append_right (by rw [u64s_len];omega),u64s_len,hb,ht]
 rfl
theorem cfg_blks (hb:bl.length=14):((cfg ch dao bl ti ao n cap tw).drop (0+1)).take 14=u64s bl:=by
 rw [cfg,List.drop_succ_cons,List.drop_zero,List.take_append_of_le_length (by rw [u64s_len];omega),List.take_of_length_le (by rw [u64s_len];omega)]
theorem cfg_times (hb:bl.length=14) (ht:ti.length=2):((cfg ch dao bl ti ao n cap tw).drop (0+15)).take 2=u64s ti:=by
 rw [cfg,show 0+15=14+1 from rfl,List.drop_succ_cons,List.drop_append_of_le_length (by rw [u64s_len];omega),List.drop_of_length_le (by rw [u64s_len];omega),List.nil_append,List.take_append_of_le_length (by rw [u64s_len];omega),List.take_of_length_le (by rw [u64s_len];omega)]
theorem cfg_all (hb:bl.length=14) (ht:ti.length=2) (ho:tw.length=20):((cfg ch dao bl ti ao n cap tw).drop 0).take 39=cfg ch dao bl ti ao n cap tw:=by
 rw [List.drop_zero,List.take_of_length_le (by rw [cfg_len hb ht ho];omega)]
theorem cfg_set (hb:bl.length=14) (ht:ti.length=2) {a':Option Addr} {n' c':Nat} :setL (cfg ch dao bl ti ao n cap tw) (0+18) [.slice a' n' c']=cfg ch dao bl ti a' n' c' tw:=by
 rw [setL,setL,cfg,show 0+18=17+1 from rfl,List.set_cons_succ,List.set_append_right _ _ (by rw [u64s_len];omega),u64s_len,List.set_append_right _ _ (by rw [u64s_len];omega),u64s_len,hb,ht]
 rfl
theorem cfg_one:(cfg ch dao bl ti ao n cap tw).all (·.oneCell')=true:=by
 rw [List.all_eq_true]
 intro v hv
 simp only [cfg,List.mem_cons,List.mem_append]at hv
 rcases hv with rfl|hv|hv|rfl|rfl|hv
 ·rfl
 ·exact one_u64s _ v hv
 ·exact one_u64s _ v hv
 ·rfl
 ·rfl
 ·exact one_u8s _ v hv
end
def Srt (l:List UInt64):Prop:= ∀i,0<i→i<l.length→(l.getD (i- 1) 0).toNat≤(l.getD i 0).toNat
theorem srt_more {l:List UInt64} {n:Nat} {i:Int} (hs: ∀j:Nat,i<(j:Int)→0<j→j<n→(l.getD (j- 1) 0).toNat≤(l.getD j 0).toNat) (h0:0<i) (h: ¬(((l.getD i.toNat 0).toNat:Int)<((l.getD (i.toNat- 1) 0).toNat:Int))): ∀j:Nat,i- 1<(j:Int)→0<j→j<n→(l.getD (j- 1) 0).toNat≤(l.getD j 0).toNat:=by
 intro j hj hp hn
 by_cases e:i<(j:Int)
 ·exact hs j e hp hn
 ·have:j=i.toNat:=by omega
  subst this
  omega
theorem isNaN_f (x:UInt64):Fn Tryz.prog 184 #[.int .u64 (x.toNat:Int)] [] [] (fun v L=>v=.bool false∧L= []):=by
 refine Fn.enter (vs:= [.int .u64 (x.toNat:Int)]) Tryz.func184 U U U ?_
 intro E R hR
 change At _ _ E [R] _
 refine aC fun _ s_1=>aA (aG U U (aB (s_1 (aC fun _ s_2=>aA (aF U U (aF U U (op_neq aD U U U (aG U U (aB (s_2 (aR ((aW (L1:= []) U (.tmp U .nil) (.refl _) aM ?_)))))))))))))
 exact⟨by simp,rfl⟩
theorem Less_f (x y:UInt64):Fn Tryz.prog 175 #[.int .u64 (x.toNat:Int),.int .u64 (y.toNat:Int)] [] [] (fun v L=>v=.bool (decide ((x.toNat:Int)<(y.toNat:Int)))∧L= []):=by
 refine Fn.enter (vs:= [.int .u64 (x.toNat:Int),.int .u64 (y.toNat:Int)]) Tryz.func175 U U U ?_
 intro E R hR
 change At _ _ E [R] _
 refine aC fun _ s_1=>aA (aG U U (aB (s_1 (aC fun _ s_2=>aA (aF U U (aH aZ (.cons U .nil) (isNaN_f x) Tryz.func184 U U (by simp) U ?_))))))
 rintro _ _ ⟨rfl,rfl⟩
 show At _ _ _ [R] _
 refine aF U U (aU U U U U U U U (aU U U U U U U U (aU U U U U U U U (cB aD U U U (aF U U (aL (cL U U U U) U U (aL (cL U U U U) U U (op_lss (cL U U U U) U U U (cB aD U U U (aG U U (aB (s_2 (aR ((aW (L1:= []) U (.tmp U .nil) (.refl _) aM ?_)))))))))))))))
 exact⟨rfl,rfl⟩
theorem IsSorted_f {N:Heaplet} {ao:Option Addr} {n cap:Nat} {l:List UInt64} (h:RSl N 1 ao n cap (u64s l)):Fn Tryz.prog 156 #[.slice ao n cap] [] [N] (fun v L=> ∃b,v=.bool b∧(b=true↔Srt l)∧L= []):=by
 have hlen:=h.len64
 have hcap:=h.cap63
 refine Fn.enter (vs:= [.slice ao n cap]) Tryz.func156 U U U ?_
 intro E R hR
 have h:=h.le (hR N (by simp))
 change At _ _ E [R] _
 refine aC fun _ s_1=>aA (aG U U (aB (s_1 (aC fun _ s_2=>aC fun _ s_3=>aA (aF U U (bG aD se200 U U (op_subI aD U U (by omega) (by omega) U (aG U U (aB (s_3 (aT (cF (fun fr_ hp_ ms_=> ∃(i:Int),fr_= [(0,.slice ao n cap),(3,.int .i64 i)]∧hp_= [R]∧i.toNat=ms_∧(-1≤i)∧(i<(n:Int))∧(∀j:Nat,i<(j:Int)→0<j→j<n→(l.getD (j- 1) 0).toNat≤(l.getD j 0).toNat)) ?_ aM ⟨(n:Int)- 1,rfl,rfl,rfl,by omega,by omega,fun j hj _ hn=>by omega⟩ ?_))))))))))))
 ·repeat first|apply bD|exact .nil|exact lkI rfl (by omega)|rfl
 rintro _ _ _ ⟨i,rfl,rfl,rfl,h1,h2,hs⟩
 refine aC fun _ s_4=>aC fun _ s_5=>aA (aF U U (op_gtr aD U U U (aB (s_5 (aO U (fun c8=>?_) (fun c8=>?_))))))
 ·refine aQ (aE (s_4 (aC fun _ s_6=>aT (aC fun _ s_7=>At.drawnS [R] [9] [] [0,1,2,3,4,5,6,7,8,9] (by kernel_rfl) (by kernel_rfl) (.refl _) (aL (bF U U U) U U (aL (bF U U U) U U (bU (bF U U U) se200 U U (by assumption) (show _=(((i.toNat:Nat)):Int)from by omega) (by omega) U ?_)))))))
  refine cC (bF U U U) sc24 U (by assumption) (by first|exact get8 (by omega)|exact get64 (by omega)|exact get32 (by omega)) (by simp) U ?_
  refine aL (bF U U U) U U (aL (bF U U U) U U (op_subI (bF U U U) U U (by omega) (by omega) U (bU (bF U U U) se200 U U (by assumption) (show _=(((i.toNat- 1:Nat)):Int)from by omega) (by omega) U ?_)))
  refine cC (bF U U U) sc24 U (by assumption) (by first|exact get8 (by omega)|exact get64 (by omega)|exact get32 (by omega)) (by simp) U ?_
  refine aH (Nx.agree (nxsl U U U U)) (.cons U (.cons U .nil)) (Less_f (l.getD i.toNat 0) (l.getD (i.toNat- 1) 0)) Tryz.func175 U U (by simp) U ?_
  rintro _ _ ⟨rfl,rfl⟩
  show At _ _ _ [R] _
  refine At.sNil (aE (s_7 (aO U (fun c20=>?_) (fun c20=>?_))))
  ·refine aC fun _ s_8=>aA (aG U U (aB (s_8 (aR (b9 (aJ (aJ (b9 (aJ ((aW (L1:= []) U (.tmp U .nil) (.refl _) aM ?_)))))))))))
   exact⟨false,rfl,⟨fun h=>absurd h Bool.false_ne_true,fun h=>by have:=h i.toNat (by omega) (by omega);omega⟩,rfl⟩
  refine aQ (a0 (aE (s_6 (aA (aF U U (op_subI aD U U (by omega) (by omega) U (aG U U (aB (bQ ?_ aM ⟨i- 1,rfl,rfl,rfl,by omega,by omega,srt_more hs (by omega) (by omega)⟩ ?_)))))))))
  ·repeat first|apply bD|exact .nil|exact lkI rfl (by omega)|rfl
  ·omega
 refine bW (aK (aK (bH (aE (s_2 (aC fun _ s_9=>aA (aG U U (aB (s_9 (aR ((aW (L1:= []) U (.tmp U .nil) (.refl _) aM ?_))))))))))))
 exact⟨true,rfl,⟨fun _ j h0 hj=>hs j (by omega) h0 (by omega),fun _=>rfl⟩,rfl⟩
theorem addr_keyed:Keyed Tryz.prog 28:=Keyed.of_law (deep_law_laid (m:=3) (by kernel_rfl) (by decide) (of_decide_eq_true (by kernel_rfl)) (by kernel_rfl) (by kernel_rfl))
theorem u8_wf (x:UInt8):(Lit.int .u8 (x.toNat:Int)).wf=true:=by
 have:=x.toNat_lt
 simp [Lit.wf,IntKind.min,IntKind.max,IntKind.signed,IntKind.bits]
 omega
theorem keyLits_byte {d:Nat} (x:UInt8):Tryz.prog.keyLits (d+1) 5 [.int .u8 (x.toNat:Int)]=some [.int .u8 (x.toNat:Int)]:=by
 simp [Program.keyLits,Tryz.underlying5,u8_wf]
theorem keyLits_addr {d:Nat} (cs:List Value):Tryz.prog.keyLits (d+1) 28 cs=if cs.length=Tryz.prog.cellsOf 28 then ((List.range 20).mapM fun i=>Tryz.prog.keyLits d 5 ((cs.drop (i*Tryz.prog.cellsOf 5)).take (Tryz.prog.cellsOf 5))).map List.flatten else none:=by
 simp only [Program.keyLits,Tryz.underlying28]
theorem cell_one {a:List UInt8} {i:Nat} (h:i<a.length):((u8s a).drop (i*1)).take 1= [.int .u8 ((a.getD i 0).toNat:Int)]:=by
 have:=get8 h
 obtain⟨h1,h2⟩:=List.getElem?_eq_some_iff.1 this
 rw [Nat.mul_one,List.drop_eq_getElem_cons h1,List.take_succ_cons,List.take_zero,h2]
set_option maxRecDepth 100000 in
theorem addr_key {a:List UInt8} (h:a.length=20): ∃k,keyOf Tryz.prog 28 (.agg (u8s a).toArray)=some k:=by
 obtain⟨m,hm⟩: ∃m,Tryz.prog.types.size=m+1:=⟨Tryz.prog.types.size- 1,by have:0<Tryz.prog.types.size:=of_decide_eq_true (by kernel_rfl);omega⟩
 have hc:Tryz.prog.cellsOf 28=20:=by kernel_rfl
 have hc1:Tryz.prog.cellsOf 5=1:=by kernel_rfl
 have one: ∀i,i<20→Tryz.prog.keyLits (m+1) 5 (((u8s a).drop (i*1)).take 1)=some [.int .u8 ((a.getD i 0).toNat:Int)]:=fun i hi=>by
  rw [cell_one (by omega)]
  exact keyLits_byte _
 have all: ∀is:List Nat,(∀i∈is,i<20)→ ∃ls,(is.mapM fun i=>Tryz.prog.keyLits (m+1) 5 (((u8s a).drop (i*1)).take 1))=some ls:=by
  intro is
  induction is with
  |nil=>exact fun _=>⟨[],rfl⟩
  |cons i t ih=>
   intro hi
   obtain⟨ls,hls⟩:=ih fun j hj=>hi j (List.mem_cons_of_mem _ hj)
   refine⟨[.int .u8 ((a.getD i 0).toNat:Int)]::ls,?_⟩
   rw [List.mapM_cons,one i (hi i (List.mem_cons_self ..)),hls]
   rfl
 obtain⟨ls,hls⟩:=all (List.range 20) fun i hi=>List.mem_range.1 hi
 have hk:Tryz.prog.keyLits (Tryz.prog.types.size+1) 28 (u8s a)=some ls.flatten:=by
  rw [hm,keyLits_addr,if_pos (by rw [cK,hc,h]),hc1,hls]
  rfl
 refine⟨.string (keyBytes ls.flatten),?_⟩
 unfold keyOf
 rw [Tryz.underlying28]
 simp only
 rw [if_pos]
 ·show(Tryz.prog.keyLits (Tryz.prog.types.size+1) 28 (u8s a)).map _=_
  rw [hk];rfl
 ·rw [show Tryz.prog.keyType 28=true from by kernel_rfl,Bool.true_and]
  simp only [Value.formed,Tryz.underlying28]
  rw [hc]
  simp [u8s,h]
noncomputable def keyA (a:List UInt8):Lit:=(keyOf Tryz.prog 28 (.agg (u8s a).toArray)).getD (.bool true)
theorem keyA_spec {a:List UInt8} (h:a.length=20):keyOf Tryz.prog 28 (.agg (u8s a).toArray)=some (keyA a):=by
 obtain⟨k,hk⟩:=addr_key h
 rw [keyA,hk];rfl
theorem u8s_inj {a b:List UInt8} (h:u8s a=u8s b):a=b:=by
 have hl:a.length=b.length:=by rw [←cK a,h,cK]
 apply List.ext_getElem hl
 intro i h1 h2
 have e1:=get8 (bs:=a) (j:=i) h1
 have e2:=get8 (bs:=b) (j:=i) h2
 rw [h,e2]at e1
 simp only [Option.some.injEq,Value.int.injEq,true_and]at e1
 rw [List.getD_eq_getElem?_getD,List.getD_eq_getElem?_getD,List.getElem?_eq_getElem h1,List.getElem?_eq_getElem h2,Option.getD_some,Option.getD_some]at e1
 exact UInt8.toNat_inj.1 (by omega)
theorem agg_inj {a b:List Value} (h:Value.agg a.toArray=Value.agg b.toArray):a=b:=by
 injection h with h
 exact List.toArray_inj h
theorem keyA_inj {a b:List UInt8} (ha:a.length=20) (hb:b.length=20) (h:keyA a=keyA b):a=b:=by
 have:=addr_keyed.inj (keyA_spec ha) (by rw [h];exact keyA_spec hb)
 exact u8s_inj (agg_inj this)
set_option maxRecDepth 100000 in
theorem keyA_key {a:List UInt8} (ha:a.length=20):WideAt.IsKeyLit (keyA a):=addr_keyed.key (keyA_spec ha)
noncomputable def keysTo (fr:List (List UInt8)) (j:Nat):List Lit:=((fr.take j).map keyA).reverse
theorem keysTo_succ {fr:List (List UInt8)} {j:Nat} {a:List UInt8} (h:fr[j]? =some a):keysTo fr (j+1)=keyA a::keysTo fr j:=by
 obtain⟨hl,rfl⟩:=List.getElem?_eq_some_iff.1 h
 rw [keysTo,keysTo,List.take_succ_eq_append_getElem hl,List.map_append,List.reverse_append]
 rfl
theorem nodup_rev (l:List Lit):l.reverse.Nodup↔l.Nodup:=by
 unfold List.Nodup
 rw [List.pairwise_reverse]
 exact⟨fun h=>h.imp fun e=>e.symm,fun h=>h.imp fun e=>e.symm⟩
set_option maxRecDepth 100000 in
theorem keys_nodup {fr:List (List UInt8)} (h20: ∀a∈fr,a.length=20):Maps.size (setOf (keysTo fr fr.length))=fr.length↔fr.Nodup:=by
 have hk: ∀k∈keysTo fr fr.length,WideAt.IsKeyLit k:=fun k hk=>by
  rw [keysTo,List.take_length]at hk
  simp only [List.mem_reverse,List.mem_map]at hk
  obtain⟨a,ha,rfl⟩:=hk
  exact keyA_key (h20 a ha)
 have h:=(setOf_laws _ hk).2.2.2.2
 have hl:(keysTo fr fr.length).length=fr.length:=by simp [keysTo]
 rw [hl]at h
 rw [h,keysTo,List.take_length,nodup_rev]
 clear h hl hk
 induction fr with
 |nil=>simp
 |cons a t ih=>
  have ih':(t.map keyA).Nodup↔t.Nodup:=ih fun b hb=>h20 b (List.mem_cons_of_mem _ hb)
  rw [List.map_cons,List.nodup_cons,List.nodup_cons]
  refine and_congr (not_congr ⟨fun hm=>?_,fun hm=>List.mem_map_of_mem hm⟩) ih'
  obtain⟨b,hb,e⟩:=List.mem_map.1 hm
  have:=keyA_inj (h20 b (List.mem_cons_of_mem _ hb)) (h20 a (List.mem_cons_self ..)) e
  rw [←this];exact hb
theorem addr_at {fr:List (List UInt8)} {j:Nat} {a:List UInt8} (h20: ∀a∈fr,a.length=20) (h:fr[j]? =some a):((fr.flatMap u8s).drop (j*20)).take 20=u8s a:=by
 induction fr generalizing j with
 |nil=>simp at h
 |cons b t ih=>
  have hb:(u8s b).length=20:=by rw [cK];exact h20 b (List.mem_cons_self ..)
  cases j with
  |zero=>
   simp only [List.getElem?_cons_zero,Option.some.injEq]at h
   subst h
   rw [Nat.zero_mul,List.drop_zero,List.flatMap_cons,List.take_append_of_le_length (by omega),List.take_of_length_le (by omega)]
  |succ j=>
   have:=ih (j:=j) (fun c hc=>h20 c (List.mem_cons_of_mem _ hc)) (by simpa using h)
   rw [List.flatMap_cons,show(j+1)*20=(u8s b).length+j*20 by omega,List.drop_append,List.drop_eq_nil_of_le (by omega),List.nil_append,Nat.add_sub_cancel_left]
   exact this
def GoodC (bl ti:List UInt64) (fr:List (List UInt8)):Prop:=(bl.getD 0 0).toNat=0∧Srt bl∧Srt ti∧fr.Nodup
open Classical in
noncomputable def chk (p:Prop):Int:=if p then 0 else 10
theorem chk_t {p:Prop} (h:p):chk p=0:=by rw [chk,if_pos h]
theorem chk_f {p:Prop} (h: ¬p):chk p=10:=by rw [chk,if_neg h]
structure Hd where
 fi:Int
 pa:List UInt8
 om:List UInt8
 a2:List UInt8
 df:Nat
 nu:UInt64
 gl:UInt64
 gu:UInt64
 ti:UInt64
 b2:List UInt8
 bf:Nat
 c2:List UInt8
 bg:UInt64
 ex:UInt64
 d2:List UInt8
structure Hd.Ok (h:Hd):Prop where
 pa:h.pa.length=32
 om:h.om.length=32
 a2:h.a2.length=372
 df:h.df<WW
 b2:h.b2.length=40
 bf:h.bf<WW
 c2:h.c2.length=32
 d2:h.d2.length=32
def Hd.cells (h:Hd) (ao:Option Addr) (n cap:Nat):List Value:=.int .i64 h.fi::(u8s h.pa++(u8s h.om++(u8s h.a2++(u64s (wl h.df)++(.int .u64 (h.nu.toNat:Int)::.int .u64 (h.gl.toNat:Int)::.int .u64 (h.gu.toNat:Int)::.int .u64 (h.ti.toNat:Int)::.slice ao n cap::(u8s h.b2++(u64s (wl h.bf)++(u8s h.c2++(.int .u64 (h.bg.toNat:Int)::.int .u64 (h.ex.toNat:Int)::u8s h.d2)))))))))
theorem hd_cut {a m b:List Value} {k n:Nat} (ha:a.length=k) (hm:m.length=n):((a++(m++b)).drop k).take n=m:=by
 subst ha;subst hm
 rw [List.drop_left,List.take_left]
theorem hd_get {a b:List Value} {v:Value} {k:Nat} (ha:a.length=k):(a++v::b)[k]? =some v:=by
 subst ha
 rw [List.getElem?_append_right (Nat.le_refl _),Nat.sub_self];rfl
section
variable {h : Hd} {ao : Option Addr} {n cap : Nat}
def Hd.p1 (h:Hd):List Value:=.int .i64 h.fi::(u8s h.pa++(u8s h.om++u8s h.a2))
theorem Hd.p1_len (k:h.Ok):h.p1.length=437:=by simp [Hd.p1,cK,k.pa,k.om,k.a2]
def Hd.p2 (h:Hd):List Value:=h.p1++u64s (wl h.df)
theorem Hd.p2_len (k:h.Ok):h.p2.length=441:=by simp [Hd.p2,Hd.p1_len k,u64s_len,length_wl]
def Hd.t1 (h:Hd):List Value:=u8s h.b2++(u64s (wl h.bf)++(u8s h.c2++(.int .u64 (h.bg.toNat:Int)::.int .u64 (h.ex.toNat:Int)::u8s h.d2)))
def Hd.p3 (h:Hd) (ao:Option Addr) (n cap:Nat):List Value:=h.p2++(.int .u64 (h.nu.toNat:Int)::.int .u64 (h.gl.toNat:Int)::.int .u64 (h.gu.toNat:Int)::.int .u64 (h.ti.toNat:Int)::.slice ao n cap::u8s h.b2)
theorem Hd.p3_len (k:h.Ok):(h.p3 ao n cap).length=486:=by simp [Hd.p3,Hd.p2_len k,cK,k.b2]
def Hd.p4 (h:Hd) (ao:Option Addr) (n cap:Nat):List Value:=h.p3 ao n cap++(u64s (wl h.bf)++u8s h.c2)
theorem Hd.p4_len (k:h.Ok):(h.p4 ao n cap).length=522:=by simp [Hd.p4,Hd.p3_len k,cK,u64s_len,length_wl,k.c2]
theorem Hd.e1:h.cells ao n cap=h.p1++(u64s (wl h.df)++(.int .u64 (h.nu.toNat:Int)::.int .u64 (h.gl.toNat:Int)::.int .u64 (h.gu.toNat:Int)::.int .u64 (h.ti.toNat:Int)::.slice ao n cap::h.t1)):=by
 simp [Hd.cells,Hd.p1,Hd.t1,List.append_assoc]
theorem Hd.e2:h.cells ao n cap=h.p2++(.int .u64 (h.nu.toNat:Int)::.int .u64 (h.gl.toNat:Int)::.int .u64 (h.gu.toNat:Int)::.int .u64 (h.ti.toNat:Int)::.slice ao n cap::h.t1):=by
 rw [Hd.e1,Hd.p2,List.append_assoc]
theorem Hd.e3:h.cells ao n cap=h.p3 ao n cap++(u64s (wl h.bf)++(u8s h.c2++(.int .u64 (h.bg.toNat:Int)::.int .u64 (h.ex.toNat:Int)::u8s h.d2))):=by
 rw [Hd.e2,Hd.p3,Hd.t1];simp [List.append_assoc]
theorem Hd.e4:h.cells ao n cap=h.p4 ao n cap++(.int .u64 (h.bg.toNat:Int)::.int .u64 (h.ex.toNat:Int)::u8s h.d2):=by
 rw [Hd.e3,Hd.p4];simp [List.append_assoc]
theorem Hd.nu_at (k:h.Ok):(h.cells ao n cap)[441]? =some (.int .u64 (h.nu.toNat:Int)):=by
 rw [Hd.e2];exact hd_get (Hd.p2_len k)
theorem hd_get3 {a b:List Value} {s t u v:Value} {k:Nat} (ha:a.length=k):(a++s::t::u::v::b)[k+3]? =some v:=by
 subst ha
 rw [List.getElem?_append_right (by omega),show a.length+3- a.length=3 by omega];rfl
theorem hd_set4 {a b:List Value} {r s t u v w:Value} {k:Nat} (ha:a.length=k):(a++r::s::t::u::v::b).set (k+4) w=a++r::s::t::u::w::b:=by
 subst ha
 rw [List.set_append_right _ _ (by omega),show a.length+4- a.length=4 by omega];rfl
theorem Hd.ti_at (k:h.Ok):(h.cells ao n cap)[444]? =some (.int .u64 (h.ti.toNat:Int)):=by
 rw [Hd.e2];exact hd_get3 (Hd.p2_len k)
theorem Hd.dfs (k:h.Ok):((h.cells ao n cap).drop 437).take 4=u64s (wl h.df):=by
 rw [Hd.e1];exact hd_cut (Hd.p1_len k) (by rw [u64s_len,length_wl])
theorem Hd.oms (k:h.Ok):((h.cells ao n cap).drop 33).take 32=u8s h.om:=by
 have e:h.cells ao n cap=(.int .i64 h.fi::u8s h.pa)++(u8s h.om++(u8s h.a2++(u64s (wl h.df)++(.int .u64 (h.nu.toNat:Int)::.int .u64 (h.gl.toNat:Int)::.int .u64 (h.gu.toNat:Int)::.int .u64 (h.ti.toNat:Int)::.slice ao n cap::h.t1)))):=by
  simp [Hd.cells,Hd.t1]
 rw [e];exact hd_cut (by simp [cK,k.pa]) (by rw [cK,k.om])
theorem Hd.len (k:h.Ok):(h.cells ao n cap).length=556:=by
 rw [Hd.e4,List.length_append,Hd.p4_len k];simp [cK,k.d2]
theorem Hd.all (k:h.Ok):((h.cells ao n cap).drop 0).take 556=h.cells ao n cap:=by
 rw [List.drop_zero,List.take_of_length_le (by rw [Hd.len k];omega)]
theorem Hd.set (k:h.Ok) {a':Option Addr} {n' c':Nat} :setL (h.cells ao n cap) 445 [.slice a' n' c']=h.cells a' n' c':=by
 rw [setL,setL,Hd.e2,Hd.e2];exact hd_set4 (Hd.p2_len k)
end
section
variable {h : Hd} {ao : Option Addr} {n cap : Nat} {N : Heaplet} {b : Nat} {e : TypeId}
theorem Hd.slice_df (hB:Blk N b e (h.cells ao n cap)) (k:h.Ok):RSl N 1 (some ⟨b,0+437+0*1,none⟩) (4- 0) (4- 0) (u64s (wl h.df)):=by
 refine⟨by rw [u64s_len,length_wl],Nat.le_refl _,by decide,fun _=>⟨b,437,rfl,?_⟩⟩
 have r:=hB.rng.sub (o:=437) (ds:=u64s (wl h.df)) fun i hi=>by
  have hi4:i<4:=by rw [u64s_len,length_wl]at hi;exact hi
  have e:=congrArg (·[i]?) (Hd.dfs (ao:=ao) (n:=n) (cap:=cap) k)
  simp only [List.getElem?_take,hi4,if_true,List.getElem?_drop]at e
  rw [e,List.getElem?_eq_getElem hi]
 rwa [Nat.zero_add]at r
end
theorem cells_agg (xs:List Value):(Value.agg xs.toArray).cells=xs.toArray:=rfl
def zh:Hd:=⟨0,List.replicate 32 0,List.replicate 32 0,List.replicate 372 0,0,0,0,0,0,List.replicate 40 0,0,List.replicate 32 0,0,0,List.replicate 32 0⟩
theorem zeHdr:zer Tryz.prog 44=some (.agg (zh.cells none 0 0).toArray):=by kernel_rfl
def rh:Hd:= { zh with df:=1000000,ti:=100 }
theorem rh_ok:rh.Ok:=⟨List.length_replicate,List.length_replicate,List.length_replicate,by decide+kernel,List.length_replicate,by decide+kernel,List.length_replicate,List.length_replicate⟩
theorem setL_all {cs vs:List Value} {n:Nat} (h:vs.length=n) (h2:cs.length=n):setL cs 0 vs=vs:=by
 have:=setL_append vs [] cs [] (by rw [h,h2])
 simpa using this
theorem get_lt' {α:Type} {xs:List α} {i:Nat} (h:i<xs.length): ∃x,xs[i]? =some x:=⟨_,List.getElem?_eq_getElem h⟩
theorem not_false_b {b:Bool} (h:(!b)=false):b=true:=by cases b<;>simp_all
theorem mem_of_get {α:Type} {xs:List α} {i:Nat} {x:α} (h:xs[i]? =some x):x∈xs:=by
 obtain⟨h1,rfl⟩:=List.getElem?_eq_some_iff.1 h
 exact List.getElem_mem h1
theorem take20 {l:List Value} (h:l.length=20):(l.drop 0).take 20=l:=by rw [List.drop_zero,List.take_of_length_le (by omega)]
theorem one_all (a:List UInt8):(u8s a).all (·.oneCell')=true:=by
 rw [List.all_eq_true]
 exact fun v hv=>one_u8s a v hv
theorem part64 {N:Heaplet} {b o k:Nat} {e:TypeId} {cs:List Value} {l:List UInt64} (h:Blk N b e cs) (hd:(cs.drop o).take k=u64s l) (hk:l.length=k) (hm:k≤9223372036854775807):RSl N 1 (some ⟨b,o,none⟩) k k (u64s l):=by
 refine⟨by rw [u64s_len,hk,Nat.mul_one],Nat.le_refl _,hm,fun h0=>⟨b,o,rfl,?_⟩⟩
 have e:=h.rng.sub (o:=o) (ds:=u64s l) fun i hi=>by
  have h2:((cs.drop o).take k)[i]? =some (u64s l)[i]:=by rw [hd];exact List.getElem?_eq_getElem hi
  rw [List.getElem?_take]at h2
  split at h2
  ·rwa [List.getElem?_drop]at h2
  ·cases h2
 rwa [Nat.zero_add]at e
section
variable {N : Heaplet} {ch dao : UInt64} {bl ti : List UInt64} {ao : Option Addr} {n cap : Nat} {tw : List UInt8} {fr : List (List UInt8)}
set_option maxRecDepth 100000 in
set_option maxHeartbeats 2000000 in
theorem FCheck_f (hb:bl.length=14) (ht:ti.length=2) (ho:tw.length=20) (hA:RSl N 20 ao n cap (fr.flatMap u8s)) (hfn:fr.length=n) (h20: ∀a∈fr,a.length=20):Fn Tryz.prog 118 #[.agg (cfg ch dao bl ti ao n cap tw).toArray] [] [N] (fun v L=>v=.int .i64 (chk (GoodC bl ti fr))∧L= []):=by
 have hcap:=hA.cap63
 have hkn:=keys_nodup h20
 refine Fn.enter (vs:= [.agg (cfg ch dao bl ti ao n cap tw).toArray]) Tryz.func118 U U U ?_
 intro E R hR
 have hA:=hA.le (hR N (by simp))
 change At _ _ E [R] _
 refine aC fun _ s_1=>aA (op_box aZ U U U (fun N1 b1 B1=>?_))
 change Blk N1 b1 _ (cfg ch dao bl ti ao n cap tw)at B1
 refine aG U U (aB (s_1 (aC fun _ s_2=>aA (op_makeMap 28 aZ U (fun N6 b6 m6=>aG U U (aB (s_2 (aC fun _ s_3=>aC fun _ s_4=>aA (aI aD fl75_4 U U (aV aD sc73 U B1 (by first|rfl|first|exact cfg_from hb ht|exact cfg_blk (i:=0) hb (by omega)) mem1 U ?_))))))))))
 refine bG aD se73 U U (aF U U (aB (s_4 (aT (bR (permSel1 (bR (cF (fun fr_ hp_ ms_=> ∃(j:Nat) (N6:Heaplet),fr_= [(1,.pointer (some ⟨b1,0,none⟩)),(3,.map (some b6)),(8,.slice ao n cap),(9,.int .i64 (n:Int)),(10,.int .i64 (j:Int))]∧hp_= [N1,N6,R]∧n- j=ms_∧(j≤n)∧(MapN Tryz.prog 28 N6 b6 j (setOf (keysTo fr j)))) ?_ aM ⟨0,N6,rfl,rfl,rfl,by omega,m6⟩ ?_))))))))
 ·repeat first|apply bD|exact .nil|exact lkI rfl (by omega)|rfl
 rintro _ _ _ ⟨j,N6,rfl,rfl,rfl,hj,m6⟩
 refine aC fun _ s_5=>aA (op_lss aD U U U (aB (s_5 (aC fun _ s_6=>aO U (fun c11=>?_) (fun c11=>?_)))))
 ·obtain⟨a,ha⟩:=get_lt' (xs:=fr) (i:=j) (by omega)
  have hal:=h20 a (mem_of_get ha)
  have hul:(u8s a).length=20:=by rw [cK,hal]
  refine aQ (aE (s_6 (aC fun _ s_7=>aT (aC fun _ s_8=>aA (op_idxE aD se73 U U hA (show _=(((j:Nat)):Int)from by omega) (by omega) U ?_)))))
  refine op_loadAggE (ds:=u8s a) aD ag28 U hA (addr_at h20 ha) hul (by omega) mem2 U (bE aZ ze28 U (fun N5 b5 B5=>?_))
  change Blk N5 b5 _ [.int .u8 0,.int .u8 0,.int .u8 0,.int .u8 0,.int .u8 0,.int .u8 0,.int .u8 0,.int .u8 0,.int .u8 0,.int .u8 0,.int .u8 0,.int .u8 0,.int .u8 0,.int .u8 0,.int .u8 0,.int .u8 0,.int .u8 0,.int .u8 0,.int .u8 0,.int .u8 0]at B5
  refine aX nxQ sz28 U U (cells_agg (u8s a)) hul (one_all a) B5 (by rw [hul];decide) sel0 (fun N5 B5=>?_)
  rw [setL_all hul rfl]at B5
  refine aB (s_8 (aA (aF U U (aY (ds:=u8s a) aD ag28 U B5 (take20 hul) hul bZ U (op_build (out:= []) aD ze226 pl226 .nil U U ?_)))))
  refine op_mapUpdate nxQ addr_keyed Tryz.underlying225 U U U m6 (by unfold maxLen;omega) (keyA_spec hal) sel2 (fun N6 m6=>?_)
  refine At.opsNil (a0 (aE (s_7 (aA (a6 aD U U (by omega) (by omega) U (aF U U (aB (a7 (bR (permSel1 (bR ?_)))))))))))
  refine bQ ?_ aM ⟨j+1,N6,rfl,rfl,rfl,by omega,by rw [keysTo_succ ha,setOf];exact m6⟩ ?_
  ·repeat first|apply bD|exact .nil|exact lkI rfl (by omega)|rfl
  ·omega
 refine bW (aK (aK (bH (aE (s_3 (aC fun _ s_9=>aC fun _ s_10=>aA ?_))))))
 have hjn:j=n:=by omega
 subst hjn
 have sB:=part64 (o:=0+1) B1 (cfg_blks hb) hb (by omega)
 have sT:=part64 (o:=0+15) B1 (cfg_times hb ht) ht (by omega)
 refine aI aD fl75_1 U U (cI aD ae71 U U (show _=(((0:Nat)):Int)from by omega) (by omega) U ?_)
 refine aV aD sc24 U B1 (by first|exact get64A (by omega)|rfl|first|exact cfg_from hb ht|exact cfg_blk (i:=0) hb (by omega)) bZ U ?_
 refine op_neq aD U U U (aF U U (cJ (d:=22) U (fun g22=>?_) (fun g22=>?_)))
 ·refine aU U U U U U U U (aU U U U U U U U (aU U U U U U U U (aU U U U U U U U (bO aD U U U (aF U U (aU U U U U U U U (aU U U U U U U U (aU U U U U U U U (aU U U U U U U U (bO aD U U U (aF U U (aU U U U U U U U (aU U U U U U U U (aU U U U U U U U (aU U U U U U U U (aU U U U U U U U (aU U U U U U U U (bO aD U U U (aB (s_10 (At.condT U (aC fun _ s_11=>aA (aG U U (aB (s_11 (aR (aJ ((a7 (bP (aW (L1:= []) U (.tmp U .nil) (.refl _) aM (⟨?_,rfl⟩))))))))))))))))))))))))))))))))
  rw [←hfn]at*
  first
   |(rw [chk_f fun h=>g22 (by rw [h.1];rfl)];done)
   |(rw [chk_f fun h=>absurd ((congrArg not (h25.2 h.2.1)).symm.trans g28) (by decide)];done)
   |(rw [chk_f fun h=>absurd ((congrArg not (h31.2 h.2.2.1)).symm.trans g34) (by decide)];done)
   |(rw [chk_f fun h=>c41 (congrArg Int.ofNat (hkn.2 h.2.2.2))];done)
   |(rw [chk_t ⟨by omega,h25.1 (not_false_b g28),h31.1 (not_false_b g34),hkn.1 (by omega)⟩];done)
 refine aI (cL U U U U) fl75_1 U U (op_sliceA (cL U U U U) ae71 U .none .none .none (by omega) (by omega) (by omega) (by simp) U (aH (nxga U U U U) (.cons U .nil) (IsSorted_f sB) Tryz.func156 U U (by simp) U ?_))
 rintro _ _ ⟨b25,rfl,h25,rfl⟩
 show At _ _ _ [N1,N6,R] _
 refine op_not (cL U U U U) U U (cB aD U U U (aF U U (At.part (d:=28) U (fun g28=>?_) (fun g28=>?_))))
 ·refine aU U U U U U U U (aU U U U U U U U (aU U U U U U U U (aU U U U U U U U (bO aD U U U (aF U U (aU U U U U U U U (aU U U U U U U U (aU U U U U U U U (aU U U U U U U U (aU U U U U U U U (aU U U U U U U U (bO aD U U U (aB (s_10 (At.condT U (aC fun _ s_12=>aA (aG U U (aB (s_12 (aR (aJ ((a7 (bP (aW (L1:= []) U (.tmp U .nil) (.refl _) aM (⟨?_,rfl⟩))))))))))))))))))))))))))
  rw [←hfn]at*
  first
   |(rw [chk_f fun h=>g22 (by rw [h.1];rfl)];done)
   |(rw [chk_f fun h=>absurd ((congrArg not (h25.2 h.2.1)).symm.trans g28) (by decide)];done)
   |(rw [chk_f fun h=>absurd ((congrArg not (h31.2 h.2.2.1)).symm.trans g34) (by decide)];done)
   |(rw [chk_f fun h=>c41 (congrArg Int.ofNat (hkn.2 h.2.2.2))];done)
   |(rw [chk_t ⟨by omega,h25.1 (not_false_b g28),h31.1 (not_false_b g34),hkn.1 (by omega)⟩];done)
 refine aI (cL U U U U) fl75_2 U U (op_sliceA (cL U U U U) ae72 U .none .none .none (by omega) (by omega) (by omega) (by simp) U (aH (nxga U U U U) (.cons U .nil) (IsSorted_f sT) Tryz.func156 U U (by simp) U ?_))
 rintro _ _ ⟨b31,rfl,h31,rfl⟩
 show At _ _ _ [N1,N6,R] _
 refine op_not (cL U U U U) U U (cB aD U U U (aF U U (At.part (d:=34) U (fun g34=>?_) (fun g34=>?_))))
 ·refine aU U U U U U U U (aU U U U U U U U (aU U U U U U U U (aU U U U U U U U (aU U U U U U U U (aU U U U U U U U (bO aD U U U (aB (s_10 (At.condT U (aC fun _ s_13=>aA (aG U U (aB (s_13 (aR (aJ ((a7 (bP (aW (L1:= []) U (.tmp U .nil) (.refl _) aM (⟨?_,rfl⟩))))))))))))))))))))
  rw [←hfn]at*
  first
   |(rw [chk_f fun h=>g22 (by rw [h.1];rfl)];done)
   |(rw [chk_f fun h=>absurd ((congrArg not (h25.2 h.2.1)).symm.trans g28) (by decide)];done)
   |(rw [chk_f fun h=>absurd ((congrArg not (h31.2 h.2.2.1)).symm.trans g34) (by decide)];done)
   |(rw [chk_f fun h=>c41 (congrArg Int.ofNat (hkn.2 h.2.2.2))];done)
   |(rw [chk_t ⟨by omega,h25.1 (not_false_b g28),h31.1 (not_false_b g34),hkn.1 (by omega)⟩];done)
 refine aL (cL U U U U) U U (op_lenM (cL U U U U) Tryz.underlying225 U m6 mem1 U (aI (cL U U U U) fl75_4 U U (aV (cL U U U U) sc73 U B1 (by first|rfl|first|exact cfg_from hb ht|exact cfg_blk (i:=0) hb (by omega)) bZ U ?_)))
 refine bG (cL U U U U) se73 U U (op_neq (cL U U U U) U U U (cB aD U U U (aB (s_10 (aO U (fun c41=>?_) (fun c41=>?_))))))
 ·refine aC fun _ s_14=>aA (aG U U (aB (s_14 (aR (aJ ((a7 (bP (aW (L1:= []) U (.tmp U .nil) (.refl _) aM (⟨?_,rfl⟩))))))))))
  rw [←hfn]at*
  first
   |(rw [chk_f fun h=>g22 (by rw [h.1];rfl)];done)
   |(rw [chk_f fun h=>absurd ((congrArg not (h25.2 h.2.1)).symm.trans g28) (by decide)];done)
   |(rw [chk_f fun h=>absurd ((congrArg not (h31.2 h.2.2.1)).symm.trans g34) (by decide)];done)
   |(rw [chk_f fun h=>c41 (congrArg Int.ofNat (hkn.2 h.2.2.2))];done)
   |(rw [chk_t ⟨by omega,h25.1 (not_false_b g28),h31.1 (not_false_b g34),hkn.1 (by omega)⟩];done)
 refine aQ (aE (s_9 (aC fun _ s_15=>aA (aG U U (aB (s_15 (aR ((a7 (bP (aW (L1:= []) U (.tmp U .nil) (.refl _) aM (⟨?_,rfl⟩))))))))))))
 rw [←hfn]at*
 first
  |(rw [chk_f fun h=>g22 (by rw [h.1];rfl)];done)
  |(rw [chk_f fun h=>absurd ((congrArg not (h25.2 h.2.1)).symm.trans g28) (by decide)];done)
  |(rw [chk_f fun h=>absurd ((congrArg not (h31.2 h.2.2.1)).symm.trans g34) (by decide)];done)
  |(rw [chk_f fun h=>c41 (congrArg Int.ofNat (hkn.2 h.2.2.2))];done)
  |(rw [chk_t ⟨by omega,h25.1 (not_false_b g28),h31.1 (not_false_b g34),hkn.1 (by omega)⟩];done)
end
end Go.Proofs.YtjfagifjajielaaGreat
