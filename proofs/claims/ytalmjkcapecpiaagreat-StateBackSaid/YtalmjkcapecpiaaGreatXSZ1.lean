/- Accounts, calls, numbers as arguments. No condition. -/
import Derived.Test.YtalmjkcapecpiaaGreatX1
import Derived.Test.YtalmjkcapecpiaaGreatX6
import Derived.Test.YtalmjkcapecpiaaGreatX20
set_option linter.unusedSimpArgs false
set_option linter.unusedVariables false
namespace Go.Proofs.YtalmjkcapecpiaaGreat
open Go Go.RowKit Go.ChangeShapes Go.WideShapes Go.Deep
set_option maxRecDepth 100000
section
variable {H : Type} {enc : TypeId × Value → H} {w : World} {spare : Nat → Bool} {held : Bool}
theorem each_openS {α:Type} {f:α→List Value} {Q:α→Prop} {n:Nat} {C:Nat→List Value} (h: ∀i,i<n→ ∃y,C i=f y∧Q y): ∃xs:List α,(List.range n).flatMap C=xs.flatMap f∧xs.length=n∧ ∀x∈xs,Q x:=by
 induction n with
 |zero=>exact⟨[],rfl,rfl,fun x hx=>by cases hx⟩
 |succ n ih=>
  obtain⟨xs,e,hl,hi⟩:=ih fun i hi=>h i (by omega)
  obtain⟨y,e2,hx⟩:=h n (by omega)
  refine⟨xs++ [y],?_,by rw [List.length_append,hl];rfl,fun z hz=>?_⟩
  ·simp only [List.range_succ,List.flatMap_append,List.flatMap_cons,List.flatMap_nil,List.append_nil,e,e2]
  ·rcases List.mem_append.1 hz with hz|hz
   ·exact hi z hz
   ·rw [List.mem_singleton.1 hz];exact hx
theorem slot_cells {fuel:Nat} {cs:List Value} {x:DataW H×List MemPlace} (h:DataW.trod enc Tryz.prog w 0 spare held fuel 52 cs=some x): ∃q:Nat×Nat,cs=slotC q∧q.1<WW∧q.2<WW:=by
 obtain⟨hl,k,hx⟩:=struct_open' Tryz.underlying52 h
 have hl':cs.length=8:=hl.trans (by kernel_rfl)
 have c4:Tryz.prog.cellsOf 36=4:=by kernel_rfl
 obtain⟨y0,h0⟩: ∃y,DataW.trod enc Tryz.prog w 0 spare held k 36 ((cs.drop 0).take (Tryz.prog.cellsOf 36))=some y:=hx 0 _ rfl
 obtain⟨y1,h1⟩: ∃y,DataW.trod enc Tryz.prog w 0 spare held k 36 ((cs.drop 4).take (Tryz.prog.cellsOf 36))=some y:=hx 1 _ rfl
 rw [c4]at h0 h1
 obtain⟨a,ha,ea⟩:=word_cells Tryz.underlying36 Tryz.underlying34 (by kernel_rfl) c4 h0
 obtain⟨b,hb,eb⟩:=word_cells Tryz.underlying36 Tryz.underlying34 (by kernel_rfl) c4 h1
 refine⟨(a,b),?_,ha,hb⟩
 have e0:=cut_cells cs 0 4
 have e1:=cut_cells cs 4 4
 rw [List.drop_of_length_le (show cs.length≤4+4 by omega),List.append_nil]at e1
 rw [List.drop_zero]at e0 ea
 show cs=u64s (wl a)++u64s (wl b)
 rw [e0,ea,show 0+4=4 from rfl,e1,eb]
theorem acc_cells {fuel:Nat} {cs:List Value} {x:DataW H×List MemPlace} (h:DataW.trod enc Tryz.prog w 0 spare held fuel 43 cs=some x): ∃p:AcA×AcI,cs=accC p∧AccIn (whole w) p:=by
 obtain⟨hl,k,hx⟩:=struct_open' Tryz.underlying43 h
 have hl':cs.length=27:=hl.trans (by kernel_rfl)
 have c20:Tryz.prog.cellsOf 33=20:=by kernel_rfl
 have c1:Tryz.prog.cellsOf 34=1:=by kernel_rfl
 have c4:Tryz.prog.cellsOf 36=4:=by kernel_rfl
 have cb:Tryz.prog.cellsOf 37=1:=by kernel_rfl
 have cs1:Tryz.prog.cellsOf 41=1:=by kernel_rfl
 have c8:Tryz.prog.cellsOf 52=8:=by kernel_rfl
 obtain⟨y0,h0⟩: ∃y,DataW.trod enc Tryz.prog w 0 spare held k 33 ((cs.drop 0).take (Tryz.prog.cellsOf 33))=some y:=hx 0 _ rfl
 obtain⟨y1,h1⟩: ∃y,DataW.trod enc Tryz.prog w 0 spare held k 34 ((cs.drop 20).take (Tryz.prog.cellsOf 34))=some y:=hx 1 _ rfl
 obtain⟨y2,h2⟩: ∃y,DataW.trod enc Tryz.prog w 0 spare held k 36 ((cs.drop 21).take (Tryz.prog.cellsOf 36))=some y:=hx 2 _ rfl
 obtain⟨y3,h3⟩: ∃y,DataW.trod enc Tryz.prog w 0 spare held k 37 ((cs.drop 25).take (Tryz.prog.cellsOf 37))=some y:=hx 3 _ rfl
 obtain⟨y4,h4⟩: ∃y,DataW.trod enc Tryz.prog w 0 spare held k 41 ((cs.drop 26).take (Tryz.prog.cellsOf 41))=some y:=hx 4 _ rfl
 rw [c20]at h0
 rw [c1]at h1
 rw [c4]at h2
 rw [cb]at h3
 rw [cs1]at h4
 obtain⟨ad,hal,ea⟩:=bytes_cells Tryz.underlying33 Tryz.underlying5 (by kernel_rfl) c20 h0
 obtain⟨no,en⟩:=open_u64c Tryz.underlying34 h1
 obtain⟨ba,hba,eb⟩:=word_cells Tryz.underlying36 Tryz.underlying34 (by kernel_rfl) c4 h2
 obtain⟨ca,cn,cc,co,ec,hco⟩:=open_u8 Tryz.underlying37 Tryz.underlying5 (by kernel_rfl) h3
 obtain rfl:=hco.len8
 obtain⟨sa,sn,sc,C,m,es,hr,_,hC⟩:=open_rsl Tryz.underlying41 (by rw [c8];decide) h4
 rw [c8]at hr
 obtain⟨sl,hs1,hs2,hs3⟩:=each_openS (f:=slotC) (Q:=fun q=>q.1<WW∧q.2<WW) (n:=sn) (C:=C) fun i hi=>by
  obtain⟨_,y,hy⟩:=hC i hi
  exact slot_cells hy
 rw [hs1]at hr
 subst hs2
 refine⟨(⟨ad,no,ba,co,sl⟩,⟨ca,cc,sa,sc⟩),?_,hal,hba,hco,hr,hs3⟩
 have e0:=cut_cells cs 0 20
 have e1:=cut_cells cs 20 1
 have e2:=cut_cells cs 21 4
 have e3:=cut_cells cs 25 1
 have e4:=cut_cells cs 26 1
 rw [List.drop_of_length_le (show cs.length≤26+1 by omega),List.append_nil]at e4
 rw [List.drop_zero]at e0 ea
 rw [e0,ea,show 0+20=20 from rfl,e1,en,show 20+1=21 from rfl,e2,eb,show 21+4=25 from rfl,e3,ec,show 25+1=26 from rfl,e4,es]
 rfl
theorem open_accs {r:Reach} {b0:Nat} {v:Value} {d:DataW H} {ps:List MemPlace} (hval:Value.okWide Tryz.prog w r b0 22 v) (hd:DataW.Trod enc Tryz.prog w 0 spare held 22 v d ps):
 ∃ao n cap, ∃ws:List (AcA×AcI),v=.slice ao n cap∧RSl (whole w) 27 ao n cap (ws.flatMap accC)∧ws.length=n∧ ∀p∈ws,AccIn (whole w) p:=by
 obtain⟨ao',n',cap',rfl⟩:=okWide_slice Tryz.underlying22 hval
 obtain⟨fuel,hf⟩:=hd
 have hc:Tryz.prog.cellsOf 43=27:=by kernel_rfl
 obtain⟨ao,n,cap,C,m,e,hr,_,hC⟩:=open_rsl Tryz.underlying22 (by rw [hc];decide) hf
 rw [hc]at hr
 obtain⟨ws,h1,h2,h3⟩:=each_openS (f:=accC) (Q:=AccIn (whole w)) (n:=n) (C:=C) fun i hi=>by
  obtain⟨_,y,hy⟩:=hC i hi
  exact acc_cells hy
 rw [h1]at hr
 exact⟨ao,n,cap,ws,(List.cons.inj e).1,hr,h2,h3⟩
theorem opS_cells {fuel:Nat} {cs:List Value} {x:DataW H×List MemPlace} (h:DataW.trod enc Tryz.prog w 0 spare held fuel 39 cs=some x): ∃p:OpM×(Option Addr×Nat),cs=opF p∧OpV (whole w) p.1 p.2.1 p.2.2:=by
 obtain⟨hl,k,hx⟩:=struct_open' Tryz.underlying39 h
 have hl':cs.length=32:=hl.trans (by kernel_rfl)
 have ci:Tryz.prog.cellsOf 3=1:=by kernel_rfl
 have c20:Tryz.prog.cellsOf 33=20:=by kernel_rfl
 have c4:Tryz.prog.cellsOf 36=4:=by kernel_rfl
 have cb:Tryz.prog.cellsOf 37=1:=by kernel_rfl
 obtain⟨y0,h0⟩: ∃y,DataW.trod enc Tryz.prog w 0 spare held k 3 ((cs.drop 0).take (Tryz.prog.cellsOf 3))=some y:=hx 0 _ rfl
 obtain⟨y1,h1⟩: ∃y,DataW.trod enc Tryz.prog w 0 spare held k 3 ((cs.drop 1).take (Tryz.prog.cellsOf 3))=some y:=hx 1 _ rfl
 obtain⟨y2,h2⟩: ∃y,DataW.trod enc Tryz.prog w 0 spare held k 33 ((cs.drop 2).take (Tryz.prog.cellsOf 33))=some y:=hx 2 _ rfl
 obtain⟨y3,h3⟩: ∃y,DataW.trod enc Tryz.prog w 0 spare held k 36 ((cs.drop 22).take (Tryz.prog.cellsOf 36))=some y:=hx 3 _ rfl
 obtain⟨y4,h4⟩: ∃y,DataW.trod enc Tryz.prog w 0 spare held k 36 ((cs.drop 26).take (Tryz.prog.cellsOf 36))=some y:=hx 4 _ rfl
 obtain⟨y5,h5⟩: ∃y,DataW.trod enc Tryz.prog w 0 spare held k 3 ((cs.drop 30).take (Tryz.prog.cellsOf 3))=some y:=hx 5 _ rfl
 obtain⟨y6,h6⟩: ∃y,DataW.trod enc Tryz.prog w 0 spare held k 37 ((cs.drop 31).take (Tryz.prog.cellsOf 37))=some y:=hx 6 _ rfl
 rw [ci]at h0 h1 h5
 rw [c20]at h2
 rw [c4]at h3 h4
 rw [cb]at h6
 obtain⟨on,f0,_⟩:=open_ic Tryz.underlying3 h0
 obtain⟨dd,f1,_⟩:=open_ic Tryz.underlying3 h1
 obtain⟨ad,hal,f2⟩:=bytes_cells Tryz.underlying33 Tryz.underlying5 (by kernel_rfl) c20 h2
 obtain⟨kk,hkk,f3⟩:=word_cells Tryz.underlying36 Tryz.underlying34 (by kernel_rfl) c4 h3
 obtain⟨vv,hvv,f4⟩:=word_cells Tryz.underlying36 Tryz.underlying34 (by kernel_rfl) c4 h4
 obtain⟨nn,f5,_⟩:=open_ic Tryz.underlying3 h5
 obtain⟨ba,bn,bc,bl,f6,hb⟩:=open_u8 Tryz.underlying37 Tryz.underlying5 (by kernel_rfl) h6
 obtain rfl:=hb.len8
 refine⟨(⟨on,dd,ad,kk,vv,nn,bl⟩,(ba,bc)),?_,hal,hkk,hvv,hb⟩
 have e0:=cut_cells cs 0 1
 have e1:=cut_cells cs 1 1
 have e2:=cut_cells cs 2 20
 have e3:=cut_cells cs 22 4
 have e4:=cut_cells cs 26 4
 have e5:=cut_cells cs 30 1
 have e6:=cut_cells cs 31 1
 rw [List.drop_of_length_le (show cs.length≤31+1 by omega),List.append_nil]at e6
 rw [List.drop_zero]at e0 f0
 rw [e0,f0,show 0+1=1 from rfl,e1,f1,show 1+1=2 from rfl,e2,f2,show 2+20=22 from rfl,e3,f3,show 22+4=26 from rfl,e4,f4,show 26+4=30 from rfl,e5,f5,show 30+1=31 from rfl,e6,f6]
 rfl
theorem open_opsS {r:Reach} {b0:Nat} {v:Value} {d:DataW H} {ps:List MemPlace} (hval:Value.okWide Tryz.prog w r b0 23 v) (hd:DataW.Trod enc Tryz.prog w 0 spare held 23 v d ps):
 ∃ao n cap, ∃os:List (OpM×(Option Addr×Nat)),v=.slice ao n cap∧RSl (whole w) 32 ao n cap (os.flatMap opF)∧os.length=n∧ ∀p∈os,OpV (whole w) p.1 p.2.1 p.2.2:=by
 obtain⟨ao',n',cap',rfl⟩:=okWide_slice Tryz.underlying23 hval
 obtain⟨fuel,hf⟩:=hd
 have hc:Tryz.prog.cellsOf 39=32:=by kernel_rfl
 obtain⟨ao,n,cap,C,m,e,hr,_,hC⟩:=open_rsl Tryz.underlying23 (by rw [hc];decide) hf
 rw [hc]at hr
 obtain⟨ws,h1,h2,h3⟩:=each_openS (f:=opF) (Q:=fun p=>OpV (whole w) p.1 p.2.1 p.2.2) (n:=n) (C:=C) fun i hi=>by
  obtain⟨_,y,hy⟩:=hC i hi
  exact opS_cells hy
 rw [h1]at hr
 exact⟨ao,n,cap,ws,(List.cons.inj e).1,hr,h2,h3⟩
end
end Go.Proofs.YtalmjkcapecpiaaGreat
