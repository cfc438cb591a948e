/- 'quarrylaw13.ForkRises' answers true. No condition beyond the row's own list of tables, which the card ties. -/
import Derived.Test.YtoabimaidpbkiaaDoorR2
import Derived.Test.YtoabimaidpbkiaaDoorFKz
import Derived.Test.YtoabimaidpbkiaaDoorR3
import Derived.Deep.DeepHandedRow
import Derived.Deep.DeepWitnessRowRef
namespace Go.Proofs.YtoabimaidpbkiaaDoor.ForkRises
set_option linter.unusedVariables false
set_option linter.unusedSimpArgs false
open Go Go.ChangeShapes Go.WideShapes Go.ChangeAt Go.RowKit
theorem table {W : World} (h : laidMetH Tryd.prog Rows.forkRisesRow.laid W) : Lib.TabIs Tryd.prog W "strings.asciiSpace" .u8 Lib.asciiSpaceTab := tab_of h
theorem own : ownKnob Tryd.prog.godebug = none := by kernel_rfl
theorem laidOut : laidOutB Tryd.prog = true := by kernel_rfl
set_option maxRecDepth 100000 in
theorem contract (H : Type) (enc : TypeId × Value → H) (W : World) (base : Nat) (args : Array Value) (ds gs : List (DataW H)) (before : List MemPlace)
    (hval : ∀ (j : Nat) t v, Tryd.f6.params[j]? = some t → args[j]? = some v → Value.okWide Tryd.prog W .any base t v)
    (hW : DataW.Whole enc Tryd.prog Tryd.f6.params.toList Rows.forkRisesSpec.vars false W args.toList ds gs before) (hL : laidMetH Tryd.prog Rows.forkRisesRow.laid W) :
    Calls Tryd.prog 6 args W fun e W' => ∃ v, e = .returned v ∧ Rows.forkRisesSpec.post enc Tryd.prog Tryd.f6 false true false false W args v W' := by
  have hT := tabH_whole (table hL)
  have hW' := hW
  obtain ⟨p, q, hA0, hV, hpq, hfz, hnd⟩ := hW
  have hA : DataW.TrodAll enc Tryd.prog W 0 (fun _ => true) true Tryd.f6.params.toList args.toList ds p := hA0
  rw [Tryd.params6] at hA hval
  obtain ⟨v0, vs0, d0, ds0, p0, q0, hargs, rfl, _, h0, r0⟩ := trodAll_cons hA
  obtain ⟨rfl, rfl, _⟩ := trodAll_nil r0
  obtain rfl : args = #[v0] := by cases args; simp_all
  obtain ⟨rfl, _⟩ := trodVars_none hV
  obtain ⟨ch0, dao0, bl0, ti0, ao0, n0, cap0, tw0, fr0, x0, y0, z0, u0, o0, rfl, hb0, ht0, ho0, kA0, hl0, h200⟩ := open_rise (hval 0 52 v0 rfl rfl) h0
  refine (ForkRises_f hT hb0 ht0 ho0 kA0 hl0 h200 x0 y0 z0 u0 o0 W W (whole W) (Hp.whole W) (fun N hN => by first | (have e : N = whole W := List.mem_singleton.1 hN; rw [e]; exact Heaplet.le_refl _) | exact absurd hN List.not_mem_nil | (have e : N = whole W := (by simpa using hN); rw [e]; exact Heaplet.le_refl _))).mono fun e W' hd => ?_
  obtain ⟨v, L1, rfl, ⟨rfl, rfl⟩, hp⟩ := hd
  exact ⟨_, rfl, law_post hW' rfl rfl (by rfl) rfl (fun _ _ _ => shut_bool Tryd.underlying4 _) (okWide_bool_mk Tryd.underlying4 _) laidOut (by rw [Tryd.params6]; decide +kernel) hp.below⟩
theorem door_met (os : Os) (args : Array Value) : laidMetH Tryd.prog Rows.forkRisesRow.laid ((World.doorLaid Tryd.prog 43 os).forCall (fun _ _ => 0) ⟨#[], args, []⟩).memory :=
  laidMetH_of_parts3 (fuel := 8) (laidMet_of_run3 8 (by kernel_rfl) (by kernel_rfl) (by kernel_rfl)) (by kernel_rfl) (by kernel_rfl)
theorem reads (os : Os) {H : Type} (enc : TypeId × Value → H) : ∃ ds places, DataW.whole enc Tryd.prog ((World.doorLaid Tryd.prog 43 os).forCall (fun _ _ => 0) ⟨#[], #[.agg (List.replicate 18 (Value.int .u64 0) ++ Value.slice none 0 0 :: (List.replicate 20 (Value.int .u8 0) ++ List.replicate 4 (Value.int .u64 0) ++ [Value.int .i64 0])).toArray], []⟩).memory Tryd.f6.params.toList Rows.forkRisesSpec.vars false #[.agg (List.replicate 18 (Value.int .u64 0) ++ Value.slice none 0 0 :: (List.replicate 20 (Value.int .u8 0) ++ List.replicate 4 (Value.int .u64 0) ++ [Value.int .i64 0])).toArray].toList 8 = some (ds, [], places) :=
  ⟨[.agg [.agg [.lit (.int .u64 0), .agg (List.replicate 14 (.lit (.int .u64 0))), .agg (List.replicate 2 (.lit (.int .u64 0))), .lit (.int .u64 0), .nil, .agg (List.replicate 20 (.lit (.int .u8 0)))], .agg (List.replicate 2 (.lit (.int .u64 0))), .agg (List.replicate 2 (.lit (.int .u64 0))), .lit (.int .i64 0)]], [], by kernel_rfl⟩
set_option maxRecDepth 100000 in
theorem lifted (os : Os) (started : os.Started) (H : Type) (enc : TypeId × Value → H) (F : Stop.Interp) :
    ReturnsInHanded {} Tryd.checked os 6 .any ((OpenSpec.ofChange Rows.forkRisesSpec).preRow enc Tryd.prog Tryd.f6 Rows.forkRisesRow.domain false Rows.forkRisesRow.laid) (((OpenSpec.ofChange Rows.forkRisesSpec).at F).post enc Tryd.prog Tryd.f6 false true false false) := by
  obtain ⟨ds0, places, hx⟩ := reads os enc
  refine returnsInHanded_of_row (C := Tryd.checked) (s := OpenSpec.ofChange Rows.forkRisesSpec) own started (by kernel_rfl) Tryd.func6
    (witness_row_atRef (enc := enc) (C := Tryd.checked) false (World.doorLaid Tryd.prog 43 os) #[.agg (List.replicate 18 (Value.int .u64 0) ++ Value.slice none 0 0 :: (List.replicate 20 (Value.int .u8 0) ++ List.replicate 4 (Value.int .u64 0) ++ [Value.int .i64 0])).toArray] rfl (by kernel_rfl) (by kernel_rfl) (by kernel_rfl)
      (OpenSpec.preRow_of_cond 8 hx (by kernel_rfl) (fun k hk => by cases hk) (by kernel_rfl) (door_met os _))) ?_
  intro W base args ds gs before hval hW _ _ _ hL _ _
  exact contract H enc W base args ds gs before hval hW hL
theorem said : Rows.ForkRisesSaid :=
  OpenClaim.holds_of_cond 6 Tryd.f6 rfl rfl rfl rfl rfl rfl rfl ⟨rfl, rfl, rfl, rfl, rfl⟩ rfl rfl rfl rfl rfl (by kernel_rfl) Tryd.func6 (by kernel_rfl)
    (of_decide_eq_true (by kernel_rfl)) (by unfold Func.isWrapper; first | (rw [if_pos (by decide +kernel)]; kernel_rfl) | (rw [if_neg (by decide +kernel)]; exact ⟨rfl, rfl⟩))
    (fun os started H enc _ F => by rw [OpenClaim.pre_eq_preRow]; exact lifted os started H enc F)
theorem plain (f : FuncId) (fn : Func) (hf : Tryd.pinned.checked.prog.funcNamed "quarry/quarrylaw13.ForkRises" = some f) (hfn : Tryd.pinned.checked.prog.funcs[f]? = some fn) :
    false = Tryd.pinned.checked.prog.looks [] ∧ ∀ (j : Nat) t, fn.params[j]? = some t → Tryd.pinned.checked.prog.wantsStandIn t = false := by
  obtain rfl : f = 6 := Option.some.inj ((show Tryd.prog.funcNamed "quarry/quarrylaw13.ForkRises" = some 6 by kernel_rfl).symm.trans hf) |>.symm
  obtain rfl : fn = Tryd.f6 := (Option.some.inj (Tryd.func6.symm.trans hfn)).symm
  refine ⟨by kernel_rfl, fun j t ht => ?_⟩
  rw [Tryd.params6] at ht
  have hm := Array.mem_of_getElem? ht
  simp only [List.mem_toArray, List.mem_cons, List.not_mem_nil, or_false] at hm
  rcases hm with rfl
  · exact (show Tryd.prog.wantsStandIn 52 = false by kernel_rfl)
theorem proved : Rows.ForkRisesCardSaid :=
  Claim7.holds_tied_plain_at .later [] _ _ _ _ said (fun _ h => by cases h) (by kernel_rfl) (fun _ h => by cases h) forkRises_row_tie rfl ⟨rfl, rfl⟩ (by kernel_rfl) rfl plain (by kernel_rfl)
end Go.Proofs.YtoabimaidpbkiaaDoor.ForkRises
