/- 'quarrylaw04.HexaWrites' answers true. No condition beyond the row's own list of tables, which the card ties. -/
import Derived.Test.YtnpcaplgkmlmoaaGreatDoorRHS3
import Derived.Test.YtnpcaplgkmlmoaaGreatDoorR15
import Derived.Test.YtnpcaplgkmlmoaaGreatDoorCards
import Derived.Test.YtnpcaplgkmlmoaaGreatDoorTie
import Derived.LaidMore
import Derived.Lib.LaidTab
import Derived.Stop.LaidErr
import Derived.Deep.DeepLaidRun
import Derived.ChangeMaps5
import Derived.PinnedBridge
import Derived.Lay
import Derived.Lib.LaidU8
import Derived.Deep.DeepHandedRow
import Derived.Deep.DeepWitnessRowRef
namespace Go.Proofs.YtnpcaplgkmlmoaaGreatDoor.HexaWrites
set_option linter.unusedVariables false
set_option linter.unusedSimpArgs false
open Go Go.ChangeShapes Go.WideShapes Go.ChangeAt Go.RowKit Go.Lib
theorem bytes_of_list (s : ByteArray) : ∃ l : List UInt8, s = ⟨l.toArray⟩ := ⟨s.data.toList, rfl⟩
theorem HexaWrites_w {N : Heaplet} {ao : Option Addr} {n cap : Nat} {l a : List UInt8} (h : RSl N 1 ao n cap (u8s l)) (wa wb wc wd : UInt64) (ha : a.length = 20) : Fn Tryz.prog 3 #[.slice ao n cap, .agg #[.int .u64 (wa.toNat : Int), .int .u64 (wb.toNat : Int), .int .u64 (wc.toNat : Int), .int .u64 (wd.toNat : Int)], .agg (u8s a).toArray] [] [N] (fun v L => v = .bool true ∧ L = []) := by
  have := HexaWrites_f h (x := v64 [wa, wb, wc, wd]) (v64_lt4 rfl) ha
  rw [← wo_list rfl] at this
  exact this
theorem own : ownKnob Tryz.prog.godebug = none := by kernel_rfl
theorem laidOut : laidOutB Tryz.prog = true := by kernel_rfl
set_option maxRecDepth 100000 in
theorem contract (H : Type) (enc : TypeId × Value → H) (W : World) (base : Nat) (args : Array Value) (ds gs : List (DataW H)) (before : List MemPlace)
    (hval : ∀ (j : Nat) t v, Tryz.f3.params[j]? = some t → args[j]? = some v → Value.okWide Tryz.prog W .any base t v)
    (hW : DataW.Whole enc Tryz.prog Tryz.f3.params.toList Rows.hexaWritesSpec.vars false W args.toList ds gs before) (hL : laidMetH Tryz.prog Rows.hexaWritesRow.laid W) :
    Calls Tryz.prog 3 args W fun e W' => ∃ v, e = .returned v ∧ Rows.hexaWritesSpec.post enc Tryz.prog Tryz.f3 false true false false W args v W' := by
  skip
  have hW' := hW
  obtain ⟨p, q, hA0, hV, hpq, hfz, hnd⟩ := hW
  have hA : DataW.TrodAll enc Tryz.prog W 0 (fun _ => true) true Tryz.f3.params.toList args.toList ds p := hA0
  rw [Tryz.params3] at hA hval
  obtain ⟨v0, vs0, d0, ds0, p0, q0, hargs, rfl, _, h0, r0⟩ := trodAll_cons hA
  obtain ⟨v1, vs1, d1, ds1, p1, q1, rfl, rfl, _, h1, r1⟩ := trodAll_cons r0
  obtain ⟨v2, vs2, d2, ds2, p2, q2, rfl, rfl, _, h2, r2⟩ := trodAll_cons r1
  obtain ⟨rfl, rfl, _⟩ := trodAll_nil r2
  obtain rfl : args = #[v0, v1, v2] := by cases args; simp_all
  obtain ⟨rfl, _⟩ := trodVars_none hV
  obtain ⟨ao0, n0, c0, l0, rfl, i0⟩ := open_bytes (hval 0 22 v0 rfl rfl) h0
  obtain ⟨wa1, wb1, wc1, wd1, rfl⟩ := open_word (hval 1 25 v1 rfl rfl) h1
  obtain ⟨a2, rfl, i2⟩ := open_addr (hval 2 27 v2 rfl rfl) h2
  refine (HexaWrites_w i0 wa1 wb1 wc1 wd1 i2 W W (whole W) (Hp.whole W) (fun N hN => by first | (have e : N = whole W := List.mem_singleton.1 hN; rw [e]; exact Heaplet.le_refl _) | exact absurd hN List.not_mem_nil | (have e : N = whole W := (by simpa using hN); rw [e]; exact Heaplet.le_refl _))).mono fun e W' hd => ?_
  obtain ⟨v, L1, rfl, ⟨rfl, rfl⟩, hp⟩ := hd
  exact ⟨_, rfl, law_post hW' rfl rfl (by rfl) rfl (fun _ _ _ => shut_bool Tryz.underlying4 _) (okWide_bool_mk Tryz.underlying4 _) laidOut (by rw [Tryz.params3]; decide +kernel) hp.below⟩
theorem door_met (os : Os) (args : Array Value) : laidMetH Tryz.prog Rows.hexaWritesRow.laid ((World.laidAll Tryz.prog os Rows.hexaWritesRow.laid).forCall (fun _ _ => 0) ⟨#[], args, []⟩).memory :=
  laidMet_laidAll args (by kernel_rfl) (by kernel_rfl)
theorem reads (os : Os) {H : Type} (enc : TypeId × Value → H) : ∃ places, DataW.whole enc Tryz.prog ((World.laidAll Tryz.prog os Rows.hexaWritesRow.laid).forCall (fun _ _ => 0) ⟨#[], #[.slice none 0 0, .agg #[.int .u64 0, .int .u64 0, .int .u64 0, .int .u64 0], .agg #[.int .u8 0, .int .u8 0, .int .u8 0, .int .u8 0, .int .u8 0, .int .u8 0, .int .u8 0, .int .u8 0, .int .u8 0, .int .u8 0, .int .u8 0, .int .u8 0, .int .u8 0, .int .u8 0, .int .u8 0, .int .u8 0, .int .u8 0, .int .u8 0, .int .u8 0, .int .u8 0]], []⟩).memory Tryz.f3.params.toList Rows.hexaWritesSpec.vars false #[.slice none 0 0, .agg #[.int .u64 0, .int .u64 0, .int .u64 0, .int .u64 0], .agg #[.int .u8 0, .int .u8 0, .int .u8 0, .int .u8 0, .int .u8 0, .int .u8 0, .int .u8 0, .int .u8 0, .int .u8 0, .int .u8 0, .int .u8 0, .int .u8 0, .int .u8 0, .int .u8 0, .int .u8 0, .int .u8 0, .int .u8 0, .int .u8 0, .int .u8 0, .int .u8 0]].toList 8 = some (([.nil, .agg (List.replicate 4 (.lit (.int .u64 0))), .agg (List.replicate 20 (.lit (.int .u8 0)))] : List (DataW H)), [], places) :=
  ⟨[], by kernel_rfl⟩
set_option maxRecDepth 100000 in
theorem lifted (os : Os) (started : os.Started) (H : Type) (enc : TypeId × Value → H) (F : Stop.Interp) :
    ReturnsInHanded {} Tryz.checked os 3 .any ((OpenSpec.ofChange Rows.hexaWritesSpec).preRow enc Tryz.prog Tryz.f3 Rows.hexaWritesRow.domain false Rows.hexaWritesRow.laid) (((OpenSpec.ofChange Rows.hexaWritesSpec).at F).post enc Tryz.prog Tryz.f3 false true false false) := by
  obtain ⟨places, hx⟩ := reads os enc
  refine returnsInHanded_of_row (C := Tryz.checked) (s := OpenSpec.ofChange Rows.hexaWritesSpec) own started (by kernel_rfl) Tryz.func3
    (witness_row_atRef (enc := enc) (C := Tryz.checked) false (World.laidAll Tryz.prog os Rows.hexaWritesRow.laid) #[.slice none 0 0, .agg #[.int .u64 0, .int .u64 0, .int .u64 0, .int .u64 0], .agg #[.int .u8 0, .int .u8 0, .int .u8 0, .int .u8 0, .int .u8 0, .int .u8 0, .int .u8 0, .int .u8 0, .int .u8 0, .int .u8 0, .int .u8 0, .int .u8 0, .int .u8 0, .int .u8 0, .int .u8 0, .int .u8 0, .int .u8 0, .int .u8 0, .int .u8 0, .int .u8 0]] (World.laidAll_os _ _ _) (by kernel_rfl) (by kernel_rfl) (by kernel_rfl)
      (OpenSpec.preRow_of_cond 8 hx (by kernel_rfl) (fun k hk => by cases hk) (by kernel_rfl) (door_met os _))) ?_
  intro W base args ds gs before hval hW _ _ _ hL _ _
  exact contract H enc W base args ds gs before hval hW hL
theorem said : Rows.HexaWritesSaid :=
  OpenClaim.holds_of_cond 3 Tryz.f3 rfl rfl rfl rfl rfl rfl rfl ⟨rfl, rfl, rfl, rfl, rfl⟩ rfl rfl rfl rfl rfl (by kernel_rfl) Tryz.func3 (by kernel_rfl)
    (of_decide_eq_true (by kernel_rfl)) (by unfold Func.isWrapper; first | (rw [if_pos (by decide +kernel)]; kernel_rfl) | (rw [if_neg (by decide +kernel)]; exact ⟨rfl, rfl⟩))
    (fun os started H enc _ F => by rw [OpenClaim.pre_eq_preRow]; exact lifted os started H enc F)
theorem plain (f : FuncId) (fn : Func) (hf : Tryz.pinned.checked.prog.funcNamed "quarry/quarrylaw04.HexaWrites" = some f) (hfn : Tryz.pinned.checked.prog.funcs[f]? = some fn) :
    false = Tryz.pinned.checked.prog.looks [] ∧ ∀ (j : Nat) t, fn.params[j]? = some t → Tryz.pinned.checked.prog.wantsStandIn t = false := by
  obtain rfl : f = 3 := Option.some.inj ((show Tryz.prog.funcNamed "quarry/quarrylaw04.HexaWrites" = some 3 by kernel_rfl).symm.trans hf) |>.symm
  obtain rfl : fn = Tryz.f3 := (Option.some.inj (Tryz.func3.symm.trans hfn)).symm
  refine ⟨by kernel_rfl, fun j t ht => ?_⟩
  rw [Tryz.params3] at ht
  have hm := Array.mem_of_getElem? ht
  simp only [List.mem_toArray, List.mem_cons, List.not_mem_nil, or_false] at hm
  rcases hm with rfl | rfl | rfl
  · exact (show Tryz.prog.wantsStandIn 22 = false by kernel_rfl)
  · exact (show Tryz.prog.wantsStandIn 25 = false by kernel_rfl)
  · exact (show Tryz.prog.wantsStandIn 27 = false by kernel_rfl)
theorem proved : Rows.HexaWritesCardSaid :=
  Claim7.holds_tied_plain_at .later [] _ _ _ _ said (fun _ h => by cases h) (by kernel_rfl) (fun _ h => by cases h) hexaWrites_row_tie rfl ⟨rfl, rfl⟩ (by kernel_rfl) rfl plain (by kernel_rfl)
end Go.Proofs.YtnpcaplgkmlmoaaGreatDoor.HexaWrites
