/- What is done to a state between a mark and the way back to it is not seen afterwards: 'quarrylaw15.StateBack' answers true. No condition. -/
import Derived.Test.YtalmjkcapecpiaaGreatX1
import Derived.Test.YtalmjkcapecpiaaGreatRows
import Derived.Test.YtalmjkcapecpiaaGreatXSZ1
import Derived.Test.YtalmjkcapecpiaaGreatXTD2
set_option linter.unusedSimpArgs false
set_option linter.unusedVariables false
namespace Go.Proofs.YtalmjkcapecpiaaGreat.StateBack
open Go Go.ChangeShapes Go.WideShapes Go.ChangeAt Go.RowKit
theorem own:ownKnob Tryz.prog.godebug=none:=by kernel_rfl
theorem laidOut:laidOutB Tryz.prog=true:=by kernel_rfl
set_option maxRecDepth 100000 in
theorem contract (H:Type) (enc:TypeId×Value→H) (W:World) (base:Nat) (args:Array Value) (ds gs:List (DataW H)) (before:List MemPlace)
 (hval: ∀(j:Nat) t v,Tryz.f4.params[j]? =some t→args[j]? =some v→Value.okWide Tryz.prog W .any base t v)
 (hW:DataW.Whole enc Tryz.prog Tryz.f4.params.toList Rows.stateBackSpec.vars false W args.toList ds gs before):
 Calls Tryz.prog 4 args W fun e W'=> ∃v,e=.returned v∧Rows.stateBackSpec.post enc Tryz.prog Tryz.f4 false true false false W args v W':=by
 have hW':=hW
 obtain⟨p,q,hA0,hV,hpq,hfz,hnd⟩:=hW
 have hA:DataW.TrodAll enc Tryz.prog W 0 (fun _=>true) true Tryz.f4.params.toList args.toList ds p:=hA0
 rw [Tryz.params4]at hA hval
 obtain⟨v0,vs0,d0,ds0,p0,q0,hargs,rfl,_,h0,r0⟩:=trodAll_cons hA
 obtain⟨v1,vs1,d1,ds1,p1,q1,rfl,rfl,_,h1,r1⟩:=trodAll_cons r0
 obtain⟨v2,vs2,d2,ds2,p2,q2,rfl,rfl,_,h2,r2⟩:=trodAll_cons r1
 obtain⟨rfl,rfl,_⟩:=trodAll_nil r2
 obtain rfl:args= #[v0,v1,v2]:=by cases args;simp_all
 obtain⟨rfl,_⟩:=trodVars_none hV
 obtain⟨ao0,n0,c0,x0,rfl,i0,k0,m0⟩:=open_accs (hval 0 22 v0 rfl rfl) h0
 obtain⟨ao1,n1,c1,x1,rfl,i1,k1,m1⟩:=open_opsS (hval 1 23 v1 rfl rfl) h1
 obtain⟨ao2,n2,c2,x2,rfl,i2,k2,m2⟩:=open_opsS (hval 2 23 v2 rfl rfl) h2
 refine(StateBack_f i0 k0 m0 i1 k1 m1 i2 k2 m2 W W (whole W) (Hp.whole W) (fun N hN=>by first|(have e:N=whole W:=List.mem_singleton.1 hN;rw [e];exact Heaplet.le_refl _)|exact absurd hN List.not_mem_nil|(have e:N=whole W:=(by simpa using hN);rw [e];exact Heaplet.le_refl _))).mono fun e W' hd=>?_
 obtain⟨v,L1,rfl,⟨rfl,rfl⟩,hp⟩:=hd
 exact⟨_,rfl,law_post hW' rfl rfl (by rfl) rfl (fun _ _ _=>shut_bool Tryz.underlying4 _) (okWide_bool_mk Tryz.underlying4 _) laidOut (by rw [Tryz.params4];decide+kernel) hp.below⟩
set_option maxRecDepth 100000 in
theorem lifted (os:Os) (started:os.Started) (H:Type) (enc:TypeId×Value→H):
 ReturnsInHanded {} Tryz.checked os 4 .any (Rows.stateBackSpec.pre6 enc Tryz.prog Tryz.f4 Rows.stateBackRow.domain false) (Rows.stateBackSpec.post enc Tryz.prog Tryz.f4 false true false false):=by
 refine returnsInHanded_of_change (C:=Tryz.checked) own started (by kernel_rfl) Tryz.func4
  (ChangeSpec.witness6 (enc:=enc) (C:=Tryz.checked) false ⟨#[], #[.slice none 0 0,.slice none 0 0,.slice none 0 0],[]⟩ 8 (by kernel_rfl) (by kernel_rfl) (by kernel_rfl) (by kernel_rfl)) ?_
 intro W base args ds gs before hval hW _ _
 exact contract H enc W base args ds gs before hval hW
theorem proved:Rows.StateBackSaid:=
 OpenClaim.holds_of_wide 4 Tryz.f4 rfl rfl rfl rfl rfl rfl rfl ⟨rfl,rfl,rfl,rfl,rfl⟩ rfl rfl rfl rfl rfl (by kernel_rfl) Tryz.func4 (by kernel_rfl)
  (of_decide_eq_true (by kernel_rfl)) (by unfold Func.isWrapper;first|(rw [if_pos (by decide+kernel)];kernel_rfl)|(rw [if_neg (by decide+kernel)];exact⟨rfl,rfl⟩))
  (fun os started H enc _=>lifted os started H enc)
end Go.Proofs.YtalmjkcapecpiaaGreat.StateBack
