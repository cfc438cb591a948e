/- Any headers as ommers are judged as the document says: 'quarrylaw21.HeadOmmers' answers true. No condition. -/
import Derived.Test.YtjfagifjajielaaGreatX1
import Derived.Test.YtjfagifjajielaaGreatRows
import Derived.Test.YtjfagifjajielaaGreatX36
set_option linter.unusedSimpArgs false
set_option linter.unusedVariables false
namespace Go.Proofs.YtjfagifjajielaaGreat.HeadOmmers
open Go Go.ChangeShapes Go.WideShapes Go.ChangeAt Go.RowKit
theorem own:ownKnob Tryz.prog.godebug=none:=by kernel_rfl
theorem laidOut:laidOutB Tryz.prog=true:=by kernel_rfl
set_option maxRecDepth 100000 in
theorem contract (H:Type) (enc:TypeId×Value→H) (W:World) (base:Nat) (args:Array Value) (ds gs:List (DataW H)) (before:List MemPlace)
 (hval: ∀(j:Nat) t v,Tryz.f5.params[j]? =some t→args[j]? =some v→Value.okWide Tryz.prog W .any base t v)
 (hW:DataW.Whole enc Tryz.prog Tryz.f5.params.toList Rows.headOmmersSpec.vars false W args.toList ds gs before):
 Calls Tryz.prog 5 args W fun e W'=> ∃v,e=.returned v∧Rows.headOmmersSpec.post enc Tryz.prog Tryz.f5 false true false false W args v W':=by
 have hW':=hW
 obtain⟨p,q,hA0,hV,hpq,hfz,hnd⟩:=hW
 have hA:DataW.TrodAll enc Tryz.prog W 0 (fun _=>true) true Tryz.f5.params.toList args.toList ds p:=hA0
 rw [Tryz.params5]at hA hval
 obtain⟨v0,vs0,d0,ds0,p0,q0,hargs,rfl,_,h0,r0⟩:=trodAll_cons hA
 obtain⟨rfl,rfl,_⟩:=trodAll_nil r0
 obtain rfl:args= #[v0]:=by cases args;simp_all
 obtain⟨rfl,_⟩:=trodVars_none hV
 obtain⟨q0,h0',xs0,ks0,cs0,rfl,i0⟩:=open_family (hval 0 77 v0 rfl rfl) h0
 refine(HeadOmmers_f i0 W W (whole W) (Hp.whole W) (fun N hN=>by first|(have e:N=whole W:=List.mem_singleton.1 hN;rw [e];exact Heaplet.le_refl _)|exact absurd hN List.not_mem_nil|(have e:N=whole W:=(by simpa using hN);rw [e];exact Heaplet.le_refl _))).mono fun e W' hd=>?_
 obtain⟨v,L1,rfl,⟨rfl,rfl⟩,hp⟩:=hd
 exact⟨_,rfl,law_post hW' rfl rfl (by rfl) rfl (fun _ _ _=>shut_bool Tryz.underlying4 _) (okWide_bool_mk Tryz.underlying4 _) laidOut (by rw [Tryz.params5];decide+kernel) hp.below⟩
set_option maxRecDepth 100000 in
theorem lifted (os:Os) (started:os.Started) (H:Type) (enc:TypeId×Value→H):
 ReturnsInHanded {} Tryz.checked os 5 .any (Rows.headOmmersSpec.pre6 enc Tryz.prog Tryz.f5 Rows.headOmmersRow.domain false) (Rows.headOmmersSpec.post enc Tryz.prog Tryz.f5 false true false false):=by
 refine returnsInHanded_of_change (C:=Tryz.checked) own started (by kernel_rfl) Tryz.func5
  (ChangeSpec.witness6 (enc:=enc) (C:=Tryz.checked) false ⟨#[], #[.agg (List.replicate 18 (Value.int .u64 0)++ [Value.slice none 0 0]++List.replicate 20 (Value.int .u8 0)++ [Value.int .i64 0]++List.replicate 436 (Value.int .u8 0)++List.replicate 8 (Value.int .u64 0)++ [Value.slice none 0 0]++List.replicate 40 (Value.int .u8 0)++List.replicate 4 (Value.int .u64 0)++List.replicate 32 (Value.int .u8 0)++ [Value.int .u64 0,Value.int .u64 0]++List.replicate 32 (Value.int .u8 0)++ [Value.slice none 0 0,Value.slice none 0 0]).toArray],[]⟩ 8 (by kernel_rfl) (by kernel_rfl) (by kernel_rfl) (by kernel_rfl)) ?_
 intro W base args ds gs before hval hW _ _
 exact contract H enc W base args ds gs before hval hW
theorem proved:Rows.HeadOmmersSaid:=
 OpenClaim.holds_of_wide 5 Tryz.f5 rfl rfl rfl rfl rfl rfl rfl ⟨rfl,rfl,rfl,rfl,rfl⟩ rfl rfl rfl rfl rfl (by kernel_rfl) Tryz.func5 (by kernel_rfl)
  (of_decide_eq_true (by kernel_rfl)) (by unfold Func.isWrapper;first|(rw [if_pos (by decide+kernel)];kernel_rfl)|(rw [if_neg (by decide+kernel)];exact⟨rfl,rfl⟩))
  (fun os started H enc _=>lifted os started H enc)
end Go.Proofs.YtjfagifjajielaaGreat.HeadOmmers
