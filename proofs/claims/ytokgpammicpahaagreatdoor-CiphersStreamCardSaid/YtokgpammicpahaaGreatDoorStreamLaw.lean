/- CiphersStream holds: of any key, any first number and any bytes Stream is the chapter's, in new memory; nothing handed in is changed. No conditions. -/
import Derived.Test.YtokgpammicpahaaGreatDoorA8
import Derived.Test.YtokgpammicpahaaGreatDoorA4
import Derived.Test.YtokgpammicpahaaGreatDoorRows
import Derived.ShutString
import Derived.ChangeOld
import Derived.SizedLaws
import Derived.ProofKit
import Derived.LaidMore
import Derived.Stop.Joined
import Derived.Test.YtokgpammicpahaaGreatDoorTie
import Derived.Test.YtokgpammicpahaaGreatDoorCards
set_option linter.unusedVariables false
set_option linter.unusedSimpArgs false
namespace Go.Proofs.YtokgpammicpahaaGreatDoor.ciphersStream
open Go Go.Bx Go.Proofs Go.Proofs.X Go.Proofs.YtokgpammicpahaaGreatDoor
open Go.ChangeShapes Go.WideShapes Go.ChangeAt Go.RowKit
theorem own : ownKnob Tryz.prog.godebug = none := by kernel_rfl
theorem laidOut : laidOutB Tryz.prog = true := by kernel_rfl
theorem door_met (os : Os) (args : Array Value) : laidMetH Tryz.prog Rows.ciphersStreamRow.laid ((World.doorLaid Tryz.prog 400 os).forCall (fun _ _ => 0) ⟨#[], args, []⟩).memory :=
  laidMetH_of_parts3 (fuel := 8) (laidMet_of_run' 8 (by kernel_rfl) (by kernel_rfl)) (by kernel_rfl) (by kernel_rfl)
set_option maxRecDepth 100000 in
theorem lifted (os : Os) (started : os.Started) (H : Type) (enc : TypeId × Value → H) :
    ReturnsInHanded {} Tryz.checked os 3 .any (fun w args => (Rows.ciphersStreamSpec.pre enc Tryz.prog Tryz.f3 [] false w args ∧ laidMetH Tryz.prog Rows.ciphersStreamRow.laid w) ∧ sizedMet enc Tryz.prog Tryz.f3 (OpenSpec.ofChange Rows.ciphersStreamSpec) false w args) (Rows.ciphersStreamSpec.post enc Tryz.prog Tryz.f3 false true false false) := by
  refine returnsInHanded_of_change_and (C := Tryz.checked) (X := fun w _ => laidMetH Tryz.prog Rows.ciphersStreamRow.laid w) (fun _ _ _ hh h => h.of_heap hh) own started (by kernel_rfl) Tryz.func3
    (ChangeSpec.witness_shaped (enc := enc) (C := Tryz.checked) (os := os) (X := fun w _ => laidMetH Tryz.prog Rows.ciphersStreamRow.laid w) false (World.doorLaid Tryz.prog 400 os) #[.agg (List.replicate 16 (.int .u8 0) : List Value).toArray, .agg (List.replicate 16 (.int .u8 0) : List Value).toArray, .slice none 0 0] 64 rfl (World.shaped_of_RefB (by kernel_rfl) (by kernel_rfl)) (by kernel_rfl) (by kernel_rfl) (by kernel_rfl) (door_met os _)) ?_
  intro W base args ds gs before hval0 hW hcnd hsz0 hL _
  have hval : ∀ (j : Nat) t v, Tryz.f3.params[j]? = some t → args[j]? = some v → Value.okWide Tryz.prog W .any base t v := hval0
  have hW' := hW
  obtain ⟨p, q, hA0, hV, rfl, hfz, hnd⟩ := hW
  have hA : DataW.TrodAll enc Tryz.prog W 0 (fun _ => true) true Tryz.f3.params.toList args.toList ds p := hA0
  rw [Tryz.params3] at hA hval
  obtain ⟨v0, vs0, d0, ds0, p0, q0, hargs, rfl, rfl, h0, r0⟩ := trodAll_cons hA
  obtain ⟨v1, vs1, d1, ds1, p1, q1, rfl, rfl, rfl, h1, r1⟩ := trodAll_cons r0
  obtain ⟨v2, vs2, d2, ds2, p2, q2, rfl, rfl, rfl, h2, r2⟩ := trodAll_cons r1
  obtain ⟨rfl, rfl, rfl⟩ := trodAll_nil r2
  obtain rfl : args = #[v0, v1, v2] := by cases args; simp_all
  obtain ⟨rfl, rfl⟩ := trodVars_none hV
  have lt0 : ∀ x ∈ p0, x.block < W.heap.size := by obtain ⟨m, hm⟩ := h0; exact DataW.trod_lt m _ _ _ hm
  have lt1 : ∀ x ∈ p1, x.block < W.heap.size := by obtain ⟨m, hm⟩ := h1; exact DataW.trod_lt m _ _ _ hm
  have lt2 : ∀ x ∈ p2, x.block < W.heap.size := by obtain ⟨m, hm⟩ := h2; exact DataW.trod_lt m _ _ _ hm
  obtain ⟨segs0, o0, a0⟩ := arg_agg (op_arr Tryz.underlying22 Tryz.underlying5 (by kernel_rfl) (by kernel_rfl)) (.inr ⟨_, _, Tryz.underlying22⟩) (hval 0 22 v0 rfl rfl) h0
  obtain ⟨segs1, o1, a1⟩ := arg_agg (op_arr Tryz.underlying22 Tryz.underlying5 (by kernel_rfl) (by kernel_rfl)) (.inr ⟨_, _, Tryz.underlying22⟩) (hval 1 22 v1 rfl rfl) h1
  obtain ⟨x2, o2, a2⟩ := arg_one (op_ints Tryz.underlying23 Tryz.underlying5 (by kernel_rfl) (by kernel_rfl)) (cells_slice Tryz.underlying23 (hval 2 23 v2 rfl rfl)) one_ints h2
  have m2 := open_size Tryz.underlying23 (by rw [show Tryz.prog.bytesOf 5 = 1 from by kernel_rfl]; omega) hsz0 (j := 2) rfl rfl h2
  clear hA0 hval0 hsz0
  obtain ⟨K, hK, wK, rfl⟩ := o0
  obtain ⟨F, hF, wF, rfl⟩ := o1
  obtain ⟨B, hB, wB, e2⟩ := o2
  obtain rfl := Seg.one.inj (List.cons.inj e2).1
  refine (calls_con (law9_c K F B hK (fun i => wf_u8 (wf_getD wK i)) hF (fun i => wf_u8 (wf_getD wF i))) (args_cons a0 (args_cons a1 (args_cons a2 (args_nil))))).mono fun e W' ⟨he, bel⟩ => ?_
  subst he
  exact ⟨_, rfl, _, _, _, [], _, [], hW', trodAll_mk1 (shut_bool Tryz.underlying4 _), (trodAll_cons_mk (Below.trod laidOut (by kernel_rfl) (of_decide_eq_true (by kernel_rfl)) h0 bel lt0) (trodAll_cons_mk (Below.trod laidOut (by kernel_rfl) (of_decide_eq_true (by kernel_rfl)) h1 bel lt1) (trodAll_cons_mk (Below.trod laidOut (by kernel_rfl) (of_decide_eq_true (by kernel_rfl)) h2 bel lt2) trodAll_mk0))), rfl, bel.frame _, fun h => by cases h⟩
theorem over : Rows.ciphersStreamRow.holds Tryz.pinned (OpenSpec.ofChange Rows.ciphersStreamSpec) :=
  OpenClaim.holds_of_wide 3 Tryz.f3 rfl rfl rfl rfl rfl rfl rfl ⟨rfl, rfl, rfl, rfl, rfl⟩ rfl rfl rfl rfl rfl (by kernel_rfl) Tryz.func3 (by kernel_rfl)
    (of_decide_eq_true (by kernel_rfl)) (by unfold Func.isWrapper; first | (rw [if_pos (by decide +kernel)]; kernel_rfl) | (rw [if_neg (by decide +kernel)]; exact ⟨rfl, rfl⟩))
    (fun os started H enc _ => lifted os started H enc)
theorem proved : Rows.CiphersStreamSaid := over
end Go.Proofs.YtokgpammicpahaaGreatDoor.ciphersStream
namespace Go.Proofs.YtokgpammicpahaaGreatDoor
open Go.Proofs.X in
/-- The row, under a short name, for the claim. -/
theorem ciphersStream_holds : Rows.CiphersStreamSaid := ciphersStream.proved
/-- The tied card: the row, and what it lists tied to the program's text by the given tie. -/
theorem ciphersStream_card_holds : Rows.CiphersStreamCardSaid :=
  Claim7.holds_tied_plain_at .later [] [.data, .data, .data] true (true, "f4455375d3a473d53b01549b96f5a1b98acbbf75c31e7aa4731a42647a2420b5") false
    ciphersStream_holds (fun _ h => by cases h) (by kernel_rfl) (fun _ h => by cases h) ciphersStream_row_tie rfl ⟨rfl, rfl⟩ (by kernel_rfl) rfl
    (fun f fn hf hfn => by
      obtain rfl : f = 3 := Option.some.inj ((show Tryz.prog.funcNamed "burrow/burrowlaw09.CiphersStream" = some 3 by kernel_rfl).symm.trans hf) |>.symm
      obtain rfl : fn = Tryz.f3 := (Option.some.inj (Tryz.func3.symm.trans hfn)).symm
      exact ⟨by kernel_rfl, fun j t ht => by
        rw [Tryz.params3] at ht
        have hm : t ∈ [22, 23] := by simpa using Array.mem_of_getElem? ht
        have hall : ([22, 23].all fun u => !Tryz.prog.wantsStandIn u) = true := by kernel_rfl
        exact (show Tryz.prog.wantsStandIn t = false by simpa using List.all_eq_true.1 hall t hm)⟩)
    (by kernel_rfl)
end Go.Proofs.YtokgpammicpahaaGreatDoor
#print axioms Go.Proofs.YtokgpammicpahaaGreatDoor.ciphersStream_card_holds
