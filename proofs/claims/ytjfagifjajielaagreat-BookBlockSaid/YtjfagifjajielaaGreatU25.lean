/- Several texts in one: see the remarks ahead of each part. No condition but those told there. -/
import Derived.Test.YtjfagifjajielaaGreatU24
import Derived.Test.YtjfagifjajielaaGreatU4
import Derived.Test.YtjfagifjajielaaGreatU8
set_option linter.unusedSimpArgs false
set_option linter.unusedVariables false
/- Layer 14: two headers, two blocks that are the same are told to be. No condition. -/
namespace Go.Proofs.YtjfagifjajielaaGreat
open Go Go.RowKit
set_option maxRecDepth 100000
section
variable {N M : Heaplet} {h : HdM} {v v' : Value}
end
theorem HdIn.le {N M:Heaplet} {h:HdM} {v:Value} (k:HdIn N h v) (hl:N.le M):HdIn M h v:=by
 obtain⟨k1,ea,ec,k3,k4⟩:=k
 exact⟨k1,ea,ec,k3,k4.le hl⟩
def wdK:List (Nat×FldK):= [(0,.num .u64),(1,.num .u64),(2,.arr 20),(22,.num .u64)]
theorem BlkR.one {N:Heaplet} {m:BlkM} {cs:List Value} (h:BlkR N m cs):cs.length=560∧cs.all (·.oneCell')=true:=by
 obtain⟨v1,ta,tc,vs,oa,oc,xs,wa,wc,rfl,⟨h1,ea,ec,rfl,_⟩,_⟩:=h
 exact⟨bJ (HdM.len h1 _),blk_one (HdM.one rfl) rfl rfl rfl⟩
section
variable {N M : Heaplet} {m : BlkM} {cs cs' : List Value}
end
end Go.Proofs.YtjfagifjajielaaGreat
/- Headers and blocks as arguments. No condition. -/
namespace Go.Proofs.YtjfagifjajielaaGreat
open Go Go.RowKit Go.ChangeShapes Go.WideShapes Go.Deep
set_option maxRecDepth 100000
section
variable {H : Type} {enc : TypeId × Value → H} {w : World} {spare : Nat → Bool} {held : Bool}
theorem each_open {α:Type} {f:α→List Value} {Q:α→Prop} {n:Nat} {C:Nat→List Value} (h: ∀i,i<n→ ∃y,C i=f y∧Q y): ∃xs:List α,(List.range n).flatMap C=xs.flatMap f∧ ∀x∈xs,Q x:=by
 induction n with
 |zero=>exact⟨[],rfl,fun x hx=>by cases hx⟩
 |succ n ih=>
  obtain⟨xs,e,hi⟩:=ih fun i hi=>h i (by omega)
  obtain⟨y,e2,hx⟩:=h n (by omega)
  refine⟨xs++ [y],?_,fun z hz=>?_⟩
  ·simp only [List.range_succ,List.flatMap_append,List.flatMap_cons,List.flatMap_nil,List.append_nil,e,e2]
  ·rcases List.mem_append.1 hz with hz|hz
   ·exact hi z hz
   ·rw [List.mem_singleton.1 hz];exact hx
theorem bags_cells {fuel:Nat} {cs:List Value} {x:DataW H×List MemPlace} (h:DataW.trod enc Tryz.prog w 0 spare held fuel 50 cs=some x):
 ∃ao n cap vs gs,cs= [.slice ao n cap]∧RSl (whole w) 1 ao n cap vs∧Bags (whole w) vs gs:=by
 have hc:Tryz.prog.cellsOf 22=1:=by kernel_rfl
 obtain⟨ao,n,cap,C,m,e,hr,_,hC⟩:=open_rsl Tryz.underlying50 (by rw [hc];decide) h
 rw [hc]at hr
 obtain⟨xs,h1,h2⟩:=each_open (f:=fun q:Option Addr×Nat×List UInt8=> [Value.slice q.1 q.2.2.length q.2.1]) (Q:=fun q=>RSl (whole w) 1 q.1 q.2.2.length q.2.1 (u8s q.2.2)) (n:=n) (C:=C) fun i hi=>by
  obtain⟨_,y,hy⟩:=hC i hi
  obtain⟨a,k,c,bs,e1,h1⟩:=open_u8 Tryz.underlying22 Tryz.underlying5 (by kernel_rfl) hy
  obtain rfl:=h1.len8
  exact⟨(a,c,bs),e1,h1⟩
 rw [h1, ←List.map_eq_flatMap]at hr
 refine⟨ao,n,cap,_,xs.map fun q=>q.2.2,e,hr,⟨by simp,fun i x hx=>?_⟩⟩
 rw [List.getElem?_map]at hx
 obtain⟨q,hq,rfl⟩:=Option.map_eq_some_iff.1 hx
 exact⟨q.1,q.2.1,by show(xs.map _)[i]? =_;rw [List.getElem?_map,hq];rfl,h2 q (List.mem_of_getElem? hq)⟩
theorem hd_cells {fuel:Nat} {cs:List Value} {x:DataW H×List MemPlace} (h:DataW.trod enc Tryz.prog w 0 spare held fuel 44 cs=some x): ∃(h:HdM) (v:Value),cs=h.cells v∧HdIn (whole w) h v:=by
 obtain⟨hl,k,hx⟩:=struct_open' Tryz.underlying44 h
 have hl':cs.length=556:=hl.trans (by kernel_rfl)
 obtain⟨y0,h0⟩: ∃y,DataW.trod enc Tryz.prog w 0 spare held k 3 ((cs.drop 0).take (Tryz.prog.cellsOf 3))=some y:=hx 0 _ rfl
 rw [show Tryz.prog.cellsOf 3=1 by kernel_rfl]at h0
 obtain⟨y1,h1⟩: ∃y,DataW.trod enc Tryz.prog w 0 spare held k 40 ((cs.drop 1).take (Tryz.prog.cellsOf 40))=some y:=hx 1 _ rfl
 rw [show Tryz.prog.cellsOf 40=32 by kernel_rfl]at h1
 obtain⟨y2,h2⟩: ∃y,DataW.trod enc Tryz.prog w 0 spare held k 40 ((cs.drop 33).take (Tryz.prog.cellsOf 40))=some y:=hx 2 _ rfl
 rw [show Tryz.prog.cellsOf 40=32 by kernel_rfl]at h2
 obtain⟨y3,h3⟩: ∃y,DataW.trod enc Tryz.prog w 0 spare held k 28 ((cs.drop 65).take (Tryz.prog.cellsOf 28))=some y:=hx 3 _ rfl
 rw [show Tryz.prog.cellsOf 28=20 by kernel_rfl]at h3
 obtain⟨y4,h4⟩: ∃y,DataW.trod enc Tryz.prog w 0 spare held k 40 ((cs.drop 85).take (Tryz.prog.cellsOf 40))=some y:=hx 4 _ rfl
 rw [show Tryz.prog.cellsOf 40=32 by kernel_rfl]at h4
 obtain⟨y5,h5⟩: ∃y,DataW.trod enc Tryz.prog w 0 spare held k 40 ((cs.drop 117).take (Tryz.prog.cellsOf 40))=some y:=hx 5 _ rfl
 rw [show Tryz.prog.cellsOf 40=32 by kernel_rfl]at h5
 obtain⟨y6,h6⟩: ∃y,DataW.trod enc Tryz.prog w 0 spare held k 40 ((cs.drop 149).take (Tryz.prog.cellsOf 40))=some y:=hx 6 _ rfl
 rw [show Tryz.prog.cellsOf 40=32 by kernel_rfl]at h6
 obtain⟨y7,h7⟩: ∃y,DataW.trod enc Tryz.prog w 0 spare held k 41 ((cs.drop 181).take (Tryz.prog.cellsOf 41))=some y:=hx 7 _ rfl
 rw [show Tryz.prog.cellsOf 41=256 by kernel_rfl]at h7
 obtain⟨y8,h8⟩: ∃y,DataW.trod enc Tryz.prog w 0 spare held k 26 ((cs.drop 437).take (Tryz.prog.cellsOf 26))=some y:=hx 8 _ rfl
 rw [show Tryz.prog.cellsOf 26=4 by kernel_rfl]at h8
 obtain⟨y9,h9⟩: ∃y,DataW.trod enc Tryz.prog w 0 spare held k 24 ((cs.drop 441).take (Tryz.prog.cellsOf 24))=some y:=hx 9 _ rfl
 rw [show Tryz.prog.cellsOf 24=1 by kernel_rfl]at h9
 obtain⟨y10,h10⟩: ∃y,DataW.trod enc Tryz.prog w 0 spare held k 24 ((cs.drop 442).take (Tryz.prog.cellsOf 24))=some y:=hx 10 _ rfl
 rw [show Tryz.prog.cellsOf 24=1 by kernel_rfl]at h10
 obtain⟨y11,h11⟩: ∃y,DataW.trod enc Tryz.prog w 0 spare held k 24 ((cs.drop 443).take (Tryz.prog.cellsOf 24))=some y:=hx 11 _ rfl
 rw [show Tryz.prog.cellsOf 24=1 by kernel_rfl]at h11
 obtain⟨y12,h12⟩: ∃y,DataW.trod enc Tryz.prog w 0 spare held k 24 ((cs.drop 444).take (Tryz.prog.cellsOf 24))=some y:=hx 12 _ rfl
 rw [show Tryz.prog.cellsOf 24=1 by kernel_rfl]at h12
 obtain⟨y13,h13⟩: ∃y,DataW.trod enc Tryz.prog w 0 spare held k 22 ((cs.drop 445).take (Tryz.prog.cellsOf 22))=some y:=hx 13 _ rfl
 rw [show Tryz.prog.cellsOf 22=1 by kernel_rfl]at h13
 obtain⟨y14,h14⟩: ∃y,DataW.trod enc Tryz.prog w 0 spare held k 40 ((cs.drop 446).take (Tryz.prog.cellsOf 40))=some y:=hx 14 _ rfl
 rw [show Tryz.prog.cellsOf 40=32 by kernel_rfl]at h14
 obtain⟨y15,h15⟩: ∃y,DataW.trod enc Tryz.prog w 0 spare held k 42 ((cs.drop 478).take (Tryz.prog.cellsOf 42))=some y:=hx 15 _ rfl
 rw [show Tryz.prog.cellsOf 42=8 by kernel_rfl]at h15
 obtain⟨y16,h16⟩: ∃y,DataW.trod enc Tryz.prog w 0 spare held k 26 ((cs.drop 486).take (Tryz.prog.cellsOf 26))=some y:=hx 16 _ rfl
 rw [show Tryz.prog.cellsOf 26=4 by kernel_rfl]at h16
 obtain⟨y17,h17⟩: ∃y,DataW.trod enc Tryz.prog w 0 spare held k 40 ((cs.drop 490).take (Tryz.prog.cellsOf 40))=some y:=hx 17 _ rfl
 rw [show Tryz.prog.cellsOf 40=32 by kernel_rfl]at h17
 obtain⟨y18,h18⟩: ∃y,DataW.trod enc Tryz.prog w 0 spare held k 24 ((cs.drop 522).take (Tryz.prog.cellsOf 24))=some y:=hx 18 _ rfl
 rw [show Tryz.prog.cellsOf 24=1 by kernel_rfl]at h18
 obtain⟨y19,h19⟩: ∃y,DataW.trod enc Tryz.prog w 0 spare held k 24 ((cs.drop 523).take (Tryz.prog.cellsOf 24))=some y:=hx 19 _ rfl
 rw [show Tryz.prog.cellsOf 24=1 by kernel_rfl]at h19
 obtain⟨y20,h20⟩: ∃y,DataW.trod enc Tryz.prog w 0 spare held k 40 ((cs.drop 524).take (Tryz.prog.cellsOf 40))=some y:=hx 20 _ rfl
 rw [show Tryz.prog.cellsOf 40=32 by kernel_rfl]at h20
 obtain⟨fi,e0,_⟩:=open_ic Tryz.underlying3 h0
 obtain⟨pa,l_pa,e1⟩:=bytes_cells Tryz.underlying40 Tryz.underlying5 (by kernel_rfl) (by kernel_rfl) h1
 obtain⟨om,l_om,e2⟩:=bytes_cells Tryz.underlying40 Tryz.underlying5 (by kernel_rfl) (by kernel_rfl) h2
 obtain⟨co,l_co,e3⟩:=bytes_cells Tryz.underlying28 Tryz.underlying5 (by kernel_rfl) (by kernel_rfl) h3
 obtain⟨st,l_st,e4⟩:=bytes_cells Tryz.underlying40 Tryz.underlying5 (by kernel_rfl) (by kernel_rfl) h4
 obtain⟨tx,l_tx,e5⟩:=bytes_cells Tryz.underlying40 Tryz.underlying5 (by kernel_rfl) (by kernel_rfl) h5
 obtain⟨rc,l_rc,e6⟩:=bytes_cells Tryz.underlying40 Tryz.underlying5 (by kernel_rfl) (by kernel_rfl) h6
 obtain⟨bl,l_bl,e7⟩:=bytes_cells Tryz.underlying41 Tryz.underlying5 (by kernel_rfl) (by kernel_rfl) h7
 obtain⟨df,l_df,e8⟩:=word_cells Tryz.underlying26 Tryz.underlying24 (by kernel_rfl) (by kernel_rfl) h8
 obtain⟨nu,e9⟩:=open_u64c Tryz.underlying24 h9
 obtain⟨gl,e10⟩:=open_u64c Tryz.underlying24 h10
 obtain⟨gu,e11⟩:=open_u64c Tryz.underlying24 h11
 obtain⟨ti,e12⟩:=open_u64c Tryz.underlying24 h12
 obtain⟨exa,exn,exc,ex,e13,r_ex⟩:=open_u8 Tryz.underlying22 Tryz.underlying5 (by kernel_rfl) h13
 obtain rfl:ex.length=exn:=r_ex.len8
 obtain⟨mx,l_mx,e14⟩:=bytes_cells Tryz.underlying40 Tryz.underlying5 (by kernel_rfl) (by kernel_rfl) h14
 obtain⟨no,l_no,e15⟩:=bytes_cells Tryz.underlying42 Tryz.underlying5 (by kernel_rfl) (by kernel_rfl) h15
 obtain⟨bf,l_bf,e16⟩:=word_cells Tryz.underlying26 Tryz.underlying24 (by kernel_rfl) (by kernel_rfl) h16
 obtain⟨wd,l_wd,e17⟩:=bytes_cells Tryz.underlying40 Tryz.underlying5 (by kernel_rfl) (by kernel_rfl) h17
 obtain⟨bg,e18⟩:=open_u64c Tryz.underlying24 h18
 obtain⟨xs,e19⟩:=open_u64c Tryz.underlying24 h19
 obtain⟨be,l_be,e20⟩:=bytes_cells Tryz.underlying40 Tryz.underlying5 (by kernel_rfl) (by kernel_rfl) h20
 refine⟨⟨fi,pa,om,co,st,tx,rc,bl,df,nu,gl,gu,ti,ex,mx,no,bf,wd,bg,xs,be⟩,.slice exa ex.length exc,?_,⟨l_pa,l_om,l_co,l_st,l_tx,l_rc,l_bl,l_df,l_mx,l_no,l_bf,l_wd,l_be⟩,exa,exc,rfl,r_ex⟩
 have e0':(cs.drop 0).take 1= [.int .i64 fi]:=e0
 have e1':(cs.drop 1).take 32=u8s pa:=e1
 have e2':(cs.drop 33).take 32=u8s om:=e2
 have e3':(cs.drop 65).take 20=u8s co:=e3
 have e4':(cs.drop 85).take 32=u8s st:=e4
 have e5':(cs.drop 117).take 32=u8s tx:=e5
 have e6':(cs.drop 149).take 32=u8s rc:=e6
 have e7':(cs.drop 181).take 256=u8s bl:=e7
 have e8':(cs.drop 437).take 4=u64s (wl df):=e8
 have e9':(cs.drop 441).take 1= [.int .u64 (nu.toNat:Int)]:=e9
 have e10':(cs.drop 442).take 1= [.int .u64 (gl.toNat:Int)]:=e10
 have e11':(cs.drop 443).take 1= [.int .u64 (gu.toNat:Int)]:=e11
 have e12':(cs.drop 444).take 1= [.int .u64 (ti.toNat:Int)]:=e12
 have e13':(cs.drop 445).take 1= [.slice exa ex.length exc]:=e13
 have e14':(cs.drop 446).take 32=u8s mx:=e14
 have e15':(cs.drop 478).take 8=u8s no:=e15
 have e16':(cs.drop 486).take 4=u64s (wl bf):=e16
 have e17':(cs.drop 490).take 32=u8s wd:=e17
 have e18':(cs.drop 522).take 1= [.int .u64 (bg.toNat:Int)]:=e18
 have e19':(cs.drop 523).take 1= [.int .u64 (xs.toNat:Int)]:=e19
 have e20':(cs.drop 524).take 32=u8s be:=e20
 have e:cs=(cs.drop 0).take 1++((cs.drop 1).take 32++((cs.drop 33).take 32++((cs.drop 65).take 20++((cs.drop 85).take 32++((cs.drop 117).take 32++((cs.drop 149).take 32++((cs.drop 181).take 256++((cs.drop 437).take 4++((cs.drop 441).take 1++((cs.drop 442).take 1++((cs.drop 443).take 1++((cs.drop 444).take 1++((cs.drop 445).take 1++((cs.drop 446).take 32++((cs.drop 478).take 8++((cs.drop 486).take 4++((cs.drop 490).take 32++((cs.drop 522).take 1++((cs.drop 523).take 1++((cs.drop 524).take 32)))))))))))))))))))):=by
  rw [List.take_of_length_le (show(cs.drop 524).length≤32 by rw [List.length_drop];omega)]
  rw [←cut_cells _ 523 1, ←cut_cells _ 522 1, ←cut_cells _ 490 32, ←cut_cells _ 486 4, ←cut_cells _ 478 8, ←cut_cells _ 446 32, ←cut_cells _ 445 1, ←cut_cells _ 444 1, ←cut_cells _ 443 1, ←cut_cells _ 442 1, ←cut_cells _ 441 1, ←cut_cells _ 437 4, ←cut_cells _ 181 256, ←cut_cells _ 149 32, ←cut_cells _ 117 32, ←cut_cells _ 85 32, ←cut_cells _ 65 20, ←cut_cells _ 33 32, ←cut_cells _ 1 32, ←cut_cells _ 0 1,List.drop_zero]
 rw [e0',e1',e2',e3',e4',e5',e6',e7',e8',e9',e10',e11',e12',e13',e14',e15',e16',e17',e18',e19',e20']at e
 rw [e]
 simp only [HdM.cells,HdM.parts,c64,List.flatten_cons,List.flatten_nil,List.append_nil]
theorem wd_cells {fuel:Nat} {cs:List Value} {x:DataW H×List MemPlace} (h:DataW.trod enc Tryz.prog w 0 spare held fuel 125 cs=some x): ∃y:WdM,cs=y.cells∧y.ad.length=20:=by
 obtain⟨hl,k,hx⟩:=struct_open' Tryz.underlying125 h
 have hl':cs.length=23:=hl.trans (by kernel_rfl)
 obtain⟨y0,h0⟩: ∃y,DataW.trod enc Tryz.prog w 0 spare held k 24 ((cs.drop 0).take (Tryz.prog.cellsOf 24))=some y:=hx 0 _ rfl
 rw [show Tryz.prog.cellsOf 24=1 by kernel_rfl]at h0
 obtain⟨y1,h1⟩: ∃y,DataW.trod enc Tryz.prog w 0 spare held k 24 ((cs.drop 1).take (Tryz.prog.cellsOf 24))=some y:=hx 1 _ rfl
 rw [show Tryz.prog.cellsOf 24=1 by kernel_rfl]at h1
 obtain⟨y2,h2⟩: ∃y,DataW.trod enc Tryz.prog w 0 spare held k 28 ((cs.drop 2).take (Tryz.prog.cellsOf 28))=some y:=hx 2 _ rfl
 rw [show Tryz.prog.cellsOf 28=20 by kernel_rfl]at h2
 obtain⟨y3,h3⟩: ∃y,DataW.trod enc Tryz.prog w 0 spare held k 24 ((cs.drop 22).take (Tryz.prog.cellsOf 24))=some y:=hx 3 _ rfl
 rw [show Tryz.prog.cellsOf 24=1 by kernel_rfl]at h3
 obtain⟨i,e0⟩:=open_u64c Tryz.underlying24 h0
 obtain⟨u,e1⟩:=open_u64c Tryz.underlying24 h1
 obtain⟨a,l_a,e2⟩:=bytes_cells Tryz.underlying28 Tryz.underlying5 (by kernel_rfl) (by kernel_rfl) h2
 obtain⟨m,e3⟩:=open_u64c Tryz.underlying24 h3
 refine⟨⟨i,u,a,m⟩,?_,l_a⟩
 have e0':(cs.drop 0).take 1= [.int .u64 (i.toNat:Int)]:=e0
 have e1':(cs.drop 1).take 1= [.int .u64 (u.toNat:Int)]:=e1
 have e2':(cs.drop 2).take 20=u8s a:=e2
 have e3':(cs.drop 22).take 1= [.int .u64 (m.toNat:Int)]:=e3
 have e:cs=(cs.drop 0).take 1++((cs.drop 1).take 1++((cs.drop 2).take 20++((cs.drop 22).take 1))):=by
  rw [List.take_of_length_le (show(cs.drop 22).length≤1 by rw [List.length_drop];omega)]
  rw [←cut_cells _ 2 20, ←cut_cells _ 1 1, ←cut_cells _ 0 1,List.drop_zero]
 rw [e0',e1',e2',e3']at e
 rw [e];rfl
theorem hds_cells {fuel:Nat} {cs:List Value} {x:DataW H×List MemPlace} (h:DataW.trod enc Tryz.prog w 0 spare held fuel 51 cs=some x):
 ∃ao n cap, ∃xs:List (HdM×Value),cs= [.slice ao n cap]∧RSl (whole w) 556 ao n cap (omC xs)∧(∀x∈xs,HdIn (whole w) x.1 x.2)∧n=xs.length:=by
 have hc:Tryz.prog.cellsOf 44=556:=by kernel_rfl
 obtain⟨ao,n,cap,C,m,e,hr,_,hC⟩:=open_rsl Tryz.underlying51 (by rw [hc];decide) h
 rw [hc]at hr
 obtain⟨xs,h1,h2⟩:=each_open (f:=fun q:HdM×Value=>q.1.cells q.2) (Q:=fun q=>HdIn (whole w) q.1 q.2) (n:=n) (C:=C) fun i hi=>by
  obtain⟨_,y,hy⟩:=hC i hi
  obtain⟨h,v,e1,e2⟩:=hd_cells hy
  exact⟨(h,v),e1,e2⟩
 rw [h1]at hr
 refine⟨ao,n,cap,xs,e,hr,h2,?_⟩
 have h3:=hr.1
 have h4:(xs.flatMap (fun q:HdM×Value=>q.1.cells q.2)).length=xs.length*556:=by
  clear hr h1 h3
  induction xs with
  |nil=>rfl
  |cons a l ih=>
   rw [List.flatMap_cons,List.length_append,List.length_cons,ih fun x hx=>h2 x (List.mem_cons_of_mem _ hx)]
   have:=HdM.len (h2 a (by simp)).1 a.2
   omega
 rw [h4]at h3;omega
theorem wds_cells {fuel:Nat} {cs:List Value} {x:DataW H×List MemPlace} (h:DataW.trod enc Tryz.prog w 0 spare held fuel 52 cs=some x):
 ∃ao n cap, ∃xs:List (WdM),cs= [.slice ao n cap]∧RSl (whole w) 23 ao n cap (wdsC xs)∧(∀x∈xs,x.ad.length=20)∧n=xs.length:=by
 have hc:Tryz.prog.cellsOf 125=23:=by kernel_rfl
 obtain⟨ao,n,cap,C,m,e,hr,_,hC⟩:=open_rsl Tryz.underlying52 (by rw [hc];decide) h
 rw [hc]at hr
 obtain⟨xs,h1,h2⟩:=each_open (f:=WdM.cells) (Q:=fun q=>q.ad.length=20) (n:=n) (C:=C) fun i hi=>by
  obtain⟨_,y,hy⟩:=hC i hi
  exact wd_cells hy
 rw [h1]at hr
 refine⟨ao,n,cap,xs,e,hr,h2,?_⟩
 have h3:=hr.1
 have h4:(xs.flatMap WdM.cells).length=xs.length*23:=by
  clear hr h1 h3
  induction xs with
  |nil=>rfl
  |cons a l ih=>
   rw [List.flatMap_cons,List.length_append,List.length_cons,ih fun x hx=>h2 x (List.mem_cons_of_mem _ hx)]
   have:=wdC_len (i:=a.ix) (v:=a.va) (m:=a.am) (h2 a (by simp))
   have e:a.cells=wdC a.ix a.va a.ad a.am:=rfl
   rw [e]
   omega
 rw [h4]at h3;omega
theorem open_block {r:Reach} {b0:Nat} {v:Value} {d:DataW H} {ps:List MemPlace} (hval:Value.okWide Tryz.prog w r b0 54 v) (hd:DataW.Trod enc Tryz.prog w 0 spare held 54 v d ps):
 ∃m cs,v=.agg (List.toArray cs)∧BlkR (whole w) m cs:=by
 obtain⟨cs,rfl⟩:=okWide_structB Tryz.underlying54 hval
 obtain⟨fuel,hf⟩:=hd
 obtain⟨hl,k,hx⟩:=struct_open' Tryz.underlying54 hf
 have hl':cs.toList.length=560:=hl.trans (by kernel_rfl)
 obtain⟨y0,h0⟩: ∃y,DataW.trod enc Tryz.prog w 0 spare held k 44 ((cs.toList.drop 0).take (Tryz.prog.cellsOf 44))=some y:=hx 0 _ rfl
 rw [show Tryz.prog.cellsOf 44=556 by kernel_rfl]at h0
 obtain⟨y1,h1⟩: ∃y,DataW.trod enc Tryz.prog w 0 spare held k 50 ((cs.toList.drop 556).take (Tryz.prog.cellsOf 50))=some y:=hx 1 _ rfl
 rw [show Tryz.prog.cellsOf 50=1 by kernel_rfl]at h1
 obtain⟨y2,h2⟩: ∃y,DataW.trod enc Tryz.prog w 0 spare held k 51 ((cs.toList.drop 557).take (Tryz.prog.cellsOf 51))=some y:=hx 2 _ rfl
 rw [show Tryz.prog.cellsOf 51=1 by kernel_rfl]at h2
 obtain⟨y3,h3⟩: ∃y,DataW.trod enc Tryz.prog w 0 spare held k 4 ((cs.toList.drop 558).take (Tryz.prog.cellsOf 4))=some y:=hx 3 _ rfl
 rw [show Tryz.prog.cellsOf 4=1 by kernel_rfl]at h3
 obtain⟨y4,h4⟩: ∃y,DataW.trod enc Tryz.prog w 0 spare held k 52 ((cs.toList.drop 559).take (Tryz.prog.cellsOf 52))=some y:=hx 4 _ rfl
 rw [show Tryz.prog.cellsOf 52=1 by kernel_rfl]at h4
 obtain⟨hd,hv,e0,hi⟩:=hd_cells h0
 obtain⟨ta,tn,tc,vs,gs,e1,rt,hb⟩:=bags_cells h1
 obtain⟨oa,on,oc,xs,e2,ro,ho,hon⟩:=hds_cells h2
 obtain⟨pd,e3⟩:=open_boolc Tryz.underlying4 h3
 obtain⟨wa,wn,wc,wds,e4,rw_,hw,hwn⟩:=wds_cells h4
 have hbl:tn=gs.length:=by have h1:=rt.1;have h2:=hb.len;omega
 subst hbl hon hwn
 refine⟨⟨hd,gs,xs.map Prod.fst,pd,wds⟩,cs.toList,by rw [Array.toArray_toList],hv,ta,tc,vs,oa,oc,xs,wa,wc,?_,hi,rt,hb,by rw [List.length_map];exact ro,ho,rfl,rw_,hw⟩
 have e0':(cs.toList.drop 0).take 556=hd.cells hv:=e0
 have e1':(cs.toList.drop 556).take 1= [.slice ta gs.length tc]:=e1
 have e2':(cs.toList.drop 557).take 1= [.slice oa xs.length oc]:=e2
 have e3':(cs.toList.drop 558).take 1= [.bool pd]:=e3
 have e4':(cs.toList.drop 559).take 1= [.slice wa wds.length wc]:=e4
 have e:cs.toList=(cs.toList.drop 0).take 556++((cs.toList.drop 556).take 1++((cs.toList.drop 557).take 1++((cs.toList.drop 558).take 1++((cs.toList.drop 559).take 1)))):=by
  rw [List.take_of_length_le (show(cs.toList.drop 559).length≤1 by rw [List.length_drop];omega)]
  rw [←cut_cells _ 558 1, ←cut_cells _ 557 1, ←cut_cells _ 556 1, ←cut_cells _ 0 556,List.drop_zero]
 rw [e0',e1',e2',e3',e4']at e
 rw [e,List.length_map]
 simp only [blkP,List.flatten_cons,List.flatten_nil,List.append_nil]
end
end Go.Proofs.YtjfagifjajielaaGreat
/- Layer 14, in plain words: a transaction that is written is read again. Condition: sizes. -/
namespace Go.Proofs.YtjfagifjajielaaGreat
open Go Go.RowKit
set_option maxRecDepth 100000
theorem plains_map (l:List It):It.plains l=l.map It.plain:=by
 induction l with
 |nil=>rfl
 |cons t ts ih=>simp only [It.plains,List.map_cons,ih]
theorem plain_S (b:List UInt8):(itS b).plain=itS b:=by simp only [itS,It.plain]
theorem plain_L {l:List It} (h: ∀t∈l,t.plain=t):(itL l).plain=itL l:=by
 simp only [itL,It.plain,plains_map]
 congr 1
 exact(List.map_congr_left h).trans (List.map_id _)
theorem strE_S (b:List UInt8):strE (itS b)=.ok b:=rfl
theorem listE_L (l:List It):listE (itL l)=.ok l:=rfl
theorem fixE_S {b:List UInt8} {k:Nat} (h:b.length=k):fixE k (itS b)=.ok b:=by simp only [fixE,strE_S];rw [if_pos h]
theorem numE_bytes {x:Nat} (h:x<WW):numE (bytesOf x)=0:=by
 refine numE0 ?_ (by have:=byteLenW h;omega)
 rintro⟨h1,h2⟩
 have:=head_bytesOf x
 cases hb:bytesOf x with
 |nil=>rw [hb]at h1;exact absurd h1 (by decide)
 |cons a r=>
  rw [hb]at h2 this
  have h2:a.toNat=0:=h2
  exact this (congrArg some (UInt8.toNat_inj.1 h2))
theorem wordE_N {x:Nat} (h:x<WW):wordE (numI x)=.ok x:=by
 simp only [wordE,numI,strE_S]
 rw [if_pos (numE_bytes h),be_bytesOf]
theorem smallE_N {x:Nat} (h:x<2^64):smallE (numI x)=.ok x:=by
 have hW:2^64≤WW:=by decide
 simp only [smallE,wordE_N (Nat.lt_of_lt_of_le h hW)]
 rw [if_pos h]
/-- The accounts' lengths. -/
def AcOk (m:TxM):Prop:= ∀g∈m.ac,g.addr.length=20∧ ∀k∈g.keys,k.length=32
end Go.Proofs.YtjfagifjajielaaGreat
/- Layer 14, in plain words: a transaction that is written is read again, and what is read is written again. Condition: sizes. -/
namespace Go.Proofs.YtjfagifjajielaaGreat
open Go Go.RowKit
set_option maxRecDepth 100000
end Go.Proofs.YtjfagifjajielaaGreat
/- Layer 14, in plain words: a transaction that is read is written again, byte for byte. Condition: sizes. -/
namespace Go.Proofs.YtjfagifjajielaaGreat
open Go Go.RowKit
set_option maxRecDepth 100000
theorem deco_plain {b:List UInt8} {t:It} (hb:b.length<2^64) (h:decodeF b=.ok t):t.plain=t:=by
 obtain⟨h1,h2⟩:=decodeF_back hb h
 have h3:=decodeF_form (t:=t) (by rw [h1];exact hb) h2
 rw [h1,h]at h3
 exact(Except.ok.inj h3).symm
end Go.Proofs.YtjfagifjajielaaGreat
/- Layer 14, in plain words: a header, a block that is read is written again, byte for byte. Condition: sizes. -/
namespace Go.Proofs.YtjfagifjajielaaGreat
open Go Go.RowKit
set_option maxRecDepth 100000
end Go.Proofs.YtjfagifjajielaaGreat
/- Layer 14: sizes of what was read; what was read can be written. No condition. -/
namespace Go.Proofs.YtjfagifjajielaaGreat
open Go Go.RowKit
set_option maxRecDepth 100000
theorem TxS.r {zs:List IV} {NI J K:Heaplet} {m:TxM} {d a b:Value} (h:TxS zs NI J m d a b) (h1:NI.le K) (h2:J.le K):TxR K m d a b:=by
 obtain⟨da,dc,aa,cc,ba,bc,axs,e1,e2,_,e3,e4,e5,e6,e7⟩:=h
 exact⟨da,dc,aa,cc,ba,bc,axs,e1,e2.le h1,e3,e4.le h2,e5.le h2,e6,e7.le h2⟩
theorem TxR.le {N M:Heaplet} {m:TxM} {d a b:Value} (h:TxR N m d a b) (hl:N.le M):TxR M m d a b:=by
 obtain⟨da,dc,aa,cc,ba,bc,axs,e1,e2,e3,e4,e5,e6,e7⟩:=h
 exact⟨da,dc,aa,cc,ba,bc,axs,e1,e2.le hl,e3,e4.le hl,e5.le hl,e6,e7.le hl⟩
theorem TxR.ac {N:Heaplet} {m:TxM} {d a b:Value} (h:TxR N m d a b):AcOk m:=fun g hg=>by
 obtain⟨da,dc,aa,cc,ba,bc,axs,e1,e2,e3,e4,e5,e6,e7⟩:=h
 obtain⟨i,hi,rfl⟩:=List.mem_iff_getElem.1 hg
 obtain⟨g',x,h1,h2,h3⟩:=e5.at hi
 rw [List.getElem?_eq_getElem hi]at h1
 obtain rfl:=Option.some.inj h1
 exact⟨h3.2.1,h3.2.2.2.2⟩
theorem cut_cut (m:TxM):cutM (cutM m)=cutM m:=by
 have h: ∀g:AccM,g.cut.cut=g.cut:=fun g=>by simp [AccM.cut,List.take_take]
 have e:cutA (cutA m.ac)=cutA m.ac:=by
  rw [cutA,cutA, ←List.map_take,List.take_take,List.map_map]
  exact List.map_congr_left fun g _=>h g
 simp only [cutM,e,List.take_take,Nat.min_self]
theorem forms_bound {its:List It} {B:Nat} (h: ∀t∈its,t.form.length≤B):(It.forms its).length≤its.length*B:=by
 induction its with
 |nil=>rw [forms_nil];exact Nat.zero_le _
 |cons t ts ih=>
  rw [forms_cons,List.length_append,List.length_cons,Nat.succ_mul]
  have h1:=h t (by simp)
  have h2:=ih fun y hy=>h y (List.mem_cons_of_mem _ hy)
  omega
theorem BlkS.r {NI NT NK NO NW K:Heaplet} {m:BlkM} {cs:List Value} (h:BlkS NI NT NK NO NW m cs) (h1:NI.le K) (h2:NT.le K) (h3:NK.le K) (h4:NO.le K) (h5:NW.le K):BlkR K m cs∧okF m.hd.fi∧ ∀x∈m.oms,okF x.fi:=by
 obtain⟨v1,ta,tc,vs,ys,oa,oc,xs,wa,wc,t,zs,zt,e,k1,k2,⟨zs',ea,ec,k3,k4,_⟩,k5,_,k6,k7,k8,k9,k10,k11,_⟩:=h
 refine⟨⟨v1,ta,tc,vs,oa,oc,xs,wa,wc,e,⟨k1,ea,ec,k3,k4.le h1⟩,k5.rsl.le h2,⟨k6.lv,fun i g hg=>?_⟩,k7.rsl.le h4,fun x hx=>?_,k9,k10.rsl.le h5,k11⟩,k2,fun x hx=>?_⟩
 ·obtain⟨p,c,q1,q2⟩:=k6.at hg
  exact⟨p,c,q1,q2.elim (fun q=>q.le h1) (fun q=>q.le h3)⟩
 ·obtain⟨q1,_,zs,ea,ec,q3,q4,_⟩:=k8 x hx
  exact⟨q1,ea,ec,q3,q4.le h1⟩
 ·rw [←k9]at hx
  obtain⟨y,hy,rfl⟩:=List.mem_map.1 hx
  exact(k8 y hy).2.1
end Go.Proofs.YtjfagifjajielaaGreat
