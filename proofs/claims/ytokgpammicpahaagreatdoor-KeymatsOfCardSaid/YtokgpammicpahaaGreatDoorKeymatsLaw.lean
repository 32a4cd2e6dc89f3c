/- KeymatsOf holds: of any number, session and how many, bytes and the keys among them are the chapter's, or refused; nothing handed in is changed. No conditions. -/
import Derived.Test.YtokgpammicpahaaGreatDoorK9
import Derived.Test.YtokgpammicpahaaGreatDoorK4
import Derived.Test.YtokgpammicpahaaGreatDoorRows
import Derived.ShutString
import Derived.ChangeOld
import Derived.SizedLaws
import Derived.ProofKit
import Derived.LaidMore
import Derived.Stop.Joined
import Derived.Test.YtokgpammicpahaaGreatDoorTie
import Derived.Test.YtokgpammicpahaaGreatDoorCards
set_option linter.unusedVariables false
set_option linter.unusedSimpArgs false
namespace Go.Proofs.YtokgpammicpahaaGreatDoor.keymatsOf
open Go Go.Bx Go.Proofs Go.Proofs.X Go.Proofs.YtokgpammicpahaaGreatDoor
open Go.ChangeShapes Go.WideShapes Go.ChangeAt Go.RowKit
theorem own : ownKnob Tryz.prog.godebug = none := by kernel_rfl
theorem laidOut : laidOutB Tryz.prog = true := by kernel_rfl
theorem door_met (os : Os) (args : Array Value) : laidMetH Tryz.prog Rows.keymatsOfRow.laid ((World.doorLaid Tryz.prog 400 os).forCall (fun _ _ => 0) ⟨#[], args, []⟩).memory :=
  laidMetH_of_parts3 (fuel := 8) (laidMet_of_run' 8 (by kernel_rfl) (by kernel_rfl)) (by kernel_rfl) (by kernel_rfl)
set_option maxRecDepth 100000 in
theorem lifted (os : Os) (started : os.Started) (H : Type) (enc : TypeId × Value → H) :
    ReturnsInHanded {} Tryz.checked os 4 .any (fun w args => (Rows.keymatsOfSpec.pre enc Tryz.prog Tryz.f4 [] false w args ∧ laidMetH Tryz.prog Rows.keymatsOfRow.laid w) ∧ sizedMet enc Tryz.prog Tryz.f4 (OpenSpec.ofChange Rows.keymatsOfSpec) false w args) (Rows.keymatsOfSpec.post enc Tryz.prog Tryz.f4 false true false false) := by
  refine returnsInHanded_of_change_and (C := Tryz.checked) (X := fun w _ => laidMetH Tryz.prog Rows.keymatsOfRow.laid w) (fun _ _ _ hh h => h.of_heap hh) own started (by kernel_rfl) Tryz.func4
    (ChangeSpec.witness_shaped (enc := enc) (C := Tryz.checked) (os := os) (X := fun w _ => laidMetH Tryz.prog Rows.keymatsOfRow.laid w) false (World.doorLaid Tryz.prog 400 os) #[.agg (List.replicate 4 (.int .u64 0) ++ List.replicate 32 (.int .u8 0) ++ List.replicate 2 (.int .i64 0) ++ [.slice none 0 0] : List Value).toArray] 64 rfl (World.shaped_of_RefB (by kernel_rfl) (by kernel_rfl)) (by kernel_rfl) (by kernel_rfl) (by kernel_rfl) (door_met os _)) ?_
  intro W base args ds gs before hval0 hW hcnd hsz0 hL _
  have hval : ∀ (j : Nat) t v, Tryz.f4.params[j]? = some t → args[j]? = some v → Value.okWide Tryz.prog W .any base t v := hval0
  have hW' := hW
  obtain ⟨p, q, hA0, hV, rfl, hfz, hnd⟩ := hW
  have hA : DataW.TrodAll enc Tryz.prog W 0 (fun _ => true) true Tryz.f4.params.toList args.toList ds p := hA0
  rw [Tryz.params4] at hA hval
  obtain ⟨v0, vs0, d0, ds0, p0, q0, hargs, rfl, rfl, h0, r0⟩ := trodAll_cons hA
  obtain ⟨rfl, rfl, rfl⟩ := trodAll_nil r0
  obtain rfl : args = #[v0] := by cases args; simp_all
  obtain ⟨rfl, rfl⟩ := trodVars_none hV
  have lt0 : ∀ x ∈ p0, x.block < W.heap.size := by obtain ⟨m, hm⟩ := h0; exact DataW.trod_lt m _ _ _ hm
  obtain ⟨segs0, o0, a0⟩ := arg_agg (op_struct [(4, (shArr .u64 4)), (32, (shArr .u8 32)), (1, (shInt .i64)), (1, (shInt .i64)), (1, (shInts .u8))] Tryz.underlying53 (by kernel_rfl) rfl (fun i f n S hf hS => match i, hf, hS with | 0, hf, hS => (by obtain rfl := Option.some.inj hf; obtain ⟨rfl, rfl⟩ := Prod.mk.inj (Option.some.inj hS); exact ⟨rfl, (op_arr Tryz.underlying49 Tryz.underlying47 (by kernel_rfl) (by kernel_rfl))⟩) | 1, hf, hS => (by obtain rfl := Option.some.inj hf; obtain ⟨rfl, rfl⟩ := Prod.mk.inj (Option.some.inj hS); exact ⟨rfl, (op_arr Tryz.underlying51 Tryz.underlying5 (by kernel_rfl) (by kernel_rfl))⟩) | 2, hf, hS => (by obtain rfl := Option.some.inj hf; obtain ⟨rfl, rfl⟩ := Prod.mk.inj (Option.some.inj hS); exact ⟨rfl, (op_int Tryz.underlying3 (by kernel_rfl))⟩) | 3, hf, hS => (by obtain rfl := Option.some.inj hf; obtain ⟨rfl, rfl⟩ := Prod.mk.inj (Option.some.inj hS); exact ⟨rfl, (op_int Tryz.underlying3 (by kernel_rfl))⟩) | 4, hf, hS => (by obtain rfl := Option.some.inj hf; obtain ⟨rfl, rfl⟩ := Prod.mk.inj (Option.some.inj hS); exact ⟨rfl, (op_ints Tryz.underlying23 Tryz.underlying5 (by kernel_rfl) (by kernel_rfl))⟩) | i + 5, hf, _ => (by simp at hf))) (.inl ⟨_, Tryz.underlying53⟩) (hval 0 53 v0 rfl rfl) h0
  clear hA0 hval0 hsz0
  obtain ⟨_, _, ⟨N, hN, wN, rfl⟩, _, ⟨_, _, ⟨ID, hI, wI, rfl⟩, _, ⟨_, _, ⟨q, wq, rfl⟩, _, ⟨_, _, ⟨p, wp, rfl⟩, _, ⟨_, _, ⟨B, hB, wB, rfl⟩, _, rfl, rfl⟩, rfl⟩, rfl⟩, rfl⟩, rfl⟩ := o0
  obtain ⟨v, hv, rfl⟩ := num_of hN wN
  refine (calls_con (law10_c v ID B q p hI) (args_cons a0 (args_nil))).mono fun e W' ⟨he, bel⟩ => ?_
  subst he
  exact ⟨_, rfl, _, _, _, [], _, [], hW', trodAll_mk1 (shut_bool Tryz.underlying4 _), (trodAll_cons_mk (Below.trod laidOut (by kernel_rfl) (of_decide_eq_true (by kernel_rfl)) h0 bel lt0) trodAll_mk0), rfl, bel.frame _, fun h => by cases h⟩
theorem over : Rows.keymatsOfRow.holds Tryz.pinned (OpenSpec.ofChange Rows.keymatsOfSpec) :=
  OpenClaim.holds_of_wide 4 Tryz.f4 rfl rfl rfl rfl rfl rfl rfl ⟨rfl, rfl, rfl, rfl, rfl⟩ rfl rfl rfl rfl rfl (by kernel_rfl) Tryz.func4 (by kernel_rfl)
    (of_decide_eq_true (by kernel_rfl)) (by unfold Func.isWrapper; first | (rw [if_pos (by decide +kernel)]; kernel_rfl) | (rw [if_neg (by decide +kernel)]; exact ⟨rfl, rfl⟩))
    (fun os started H enc _ => lifted os started H enc)
theorem proved : Rows.KeymatsOfSaid := over
end Go.Proofs.YtokgpammicpahaaGreatDoor.keymatsOf
namespace Go.Proofs.YtokgpammicpahaaGreatDoor
open Go.Proofs.X in
/-- The row, under a short name, for the claim. -/
theorem keymatsOf_holds : Rows.KeymatsOfSaid := keymatsOf.proved
/-- The tied card: the row, and what it lists tied to the program's text by the given tie. -/
theorem keymatsOf_card_holds : Rows.KeymatsOfCardSaid :=
  Claim7.holds_tied_plain_at .later [] [.data, .data, .data] true (true, "f4455375d3a473d53b01549b96f5a1b98acbbf75c31e7aa4731a42647a2420b5") false
    keymatsOf_holds (fun _ h => by cases h) (by kernel_rfl) (fun _ h => by cases h) keymatsOf_row_tie rfl ⟨rfl, rfl⟩ (by kernel_rfl) rfl
    (fun f fn hf hfn => by
      obtain rfl : f = 4 := Option.some.inj ((show Tryz.prog.funcNamed "burrow/burrowlaw10.KeymatsOf" = some 4 by kernel_rfl).symm.trans hf) |>.symm
      obtain rfl : fn = Tryz.f4 := (Option.some.inj (Tryz.func4.symm.trans hfn)).symm
      exact ⟨by kernel_rfl, fun j t ht => by
        rw [Tryz.params4] at ht
        have hm : t ∈ [53] := by simpa using Array.mem_of_getElem? ht
        have hall : ([53].all fun u => !Tryz.prog.wantsStandIn u) = true := by kernel_rfl
        exact (show Tryz.prog.wantsStandIn t = false by simpa using List.all_eq_true.1 hall t hm)⟩)
    (by kernel_rfl)
end Go.Proofs.YtokgpammicpahaaGreatDoor
#print axioms Go.Proofs.YtokgpammicpahaaGreatDoor.keymatsOf_card_holds
