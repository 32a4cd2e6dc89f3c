/- SealsOf holds: any bytes, sealed, are exactly as documented, or refused; so is what any bytes are, opened, and of which lane. No conditions. -/
import Derived.Test.YtokgpammicpahaaGreatDoorS11
import Derived.Test.YtokgpammicpahaaGreatDoorS6
import Derived.Test.YtokgpammicpahaaGreatDoorRows
import Derived.ShutString
import Derived.ChangeOld
import Derived.SizedLaws
import Derived.ProofKit
import Derived.LaidMore
import Derived.Stop.Joined
import Derived.Test.YtokgpammicpahaaGreatDoorTie
import Derived.Test.YtokgpammicpahaaGreatDoorCards
set_option linter.unusedVariables false
set_option linter.unusedSimpArgs false
namespace Go.Proofs.YtokgpammicpahaaGreatDoor.sealsOf
open Go Go.Bx Go.Proofs Go.Proofs.X Go.Proofs.YtokgpammicpahaaGreatDoor
open Go.ChangeShapes Go.WideShapes Go.ChangeAt Go.RowKit
theorem own : ownKnob Tryz.prog.godebug = none := by kernel_rfl
theorem laidOut : laidOutB Tryz.prog = true := by kernel_rfl
theorem door_met (os : Os) (args : Array Value) : laidMetH Tryz.prog Rows.sealsOfRow.laid ((World.doorLaid Tryz.prog 400 os).forCall (fun _ _ => 0) ⟨#[], args, []⟩).memory :=
  laidMetH_of_parts3 (fuel := 8) (laidMet_of_run' 8 (by kernel_rfl) (by kernel_rfl)) (by kernel_rfl) (by kernel_rfl)
set_option maxRecDepth 100000 in
theorem lifted (os : Os) (started : os.Started) (H : Type) (enc : TypeId × Value → H) :
    ReturnsInHanded {} Tryz.checked os 5 .any (fun w args => (Rows.sealsOfSpec.pre enc Tryz.prog Tryz.f5 [] false w args ∧ laidMetH Tryz.prog Rows.sealsOfRow.laid w) ∧ sizedMet enc Tryz.prog Tryz.f5 (OpenSpec.ofChange Rows.sealsOfSpec) false w args) (Rows.sealsOfSpec.post enc Tryz.prog Tryz.f5 false true false false) := by
  refine returnsInHanded_of_change_and (C := Tryz.checked) (X := fun w _ => laidMetH Tryz.prog Rows.sealsOfRow.laid w) (fun _ _ _ hh h => h.of_heap hh) own started (by kernel_rfl) Tryz.func5
    (ChangeSpec.witness_shaped (enc := enc) (C := Tryz.checked) (os := os) (X := fun w _ => laidMetH Tryz.prog Rows.sealsOfRow.laid w) false (World.doorLaid Tryz.prog 400 os) #[.agg (List.replicate 48 (.int .u8 0) ++ [.int .u32 0] ++ [.int .u64 0] : List Value).toArray, .slice none 0 0, .slice none 0 0] 64 rfl (World.shaped_of_RefB (by kernel_rfl) (by kernel_rfl)) (by kernel_rfl) (by kernel_rfl) (by kernel_rfl) (door_met os _)) ?_
  intro W base args ds gs before hval0 hW hcnd hsz0 hL _
  have hval : ∀ (j : Nat) t v, Tryz.f5.params[j]? = some t → args[j]? = some v → Value.okWide Tryz.prog W .any base t v := hval0
  have hW' := hW
  obtain ⟨p, q, hA0, hV, rfl, hfz, hnd⟩ := hW
  have hA : DataW.TrodAll enc Tryz.prog W 0 (fun _ => true) true Tryz.f5.params.toList args.toList ds p := hA0
  rw [Tryz.params5] at hA hval
  obtain ⟨v0, vs0, d0, ds0, p0, q0, hargs, rfl, rfl, h0, r0⟩ := trodAll_cons hA
  obtain ⟨v1, vs1, d1, ds1, p1, q1, rfl, rfl, rfl, h1, r1⟩ := trodAll_cons r0
  obtain ⟨v2, vs2, d2, ds2, p2, q2, rfl, rfl, rfl, h2, r2⟩ := trodAll_cons r1
  obtain ⟨rfl, rfl, rfl⟩ := trodAll_nil r2
  obtain rfl : args = #[v0, v1, v2] := by cases args; simp_all
  obtain ⟨rfl, rfl⟩ := trodVars_none hV
  have lt0 : ∀ x ∈ p0, x.block < W.heap.size := by obtain ⟨m, hm⟩ := h0; exact DataW.trod_lt m _ _ _ hm
  have lt1 : ∀ x ∈ p1, x.block < W.heap.size := by obtain ⟨m, hm⟩ := h1; exact DataW.trod_lt m _ _ _ hm
  have lt2 : ∀ x ∈ p2, x.block < W.heap.size := by obtain ⟨m, hm⟩ := h2; exact DataW.trod_lt m _ _ _ hm
  obtain ⟨segs0, o0, a0⟩ := arg_agg (op_struct [(48, (shCat [(32, (shArr .u8 32)), (16, (shArr .u8 16))])), (1, (shInt .u32)), (1, (shInt .u64))] Tryz.underlying64 (by kernel_rfl) rfl (fun i f n S hf hS => match i, hf, hS with | 0, hf, hS => (by obtain rfl := Option.some.inj hf; obtain ⟨rfl, rfl⟩ := Prod.mk.inj (Option.some.inj hS); exact ⟨rfl, (op_struct [(32, (shArr .u8 32)), (16, (shArr .u8 16))] Tryz.underlying58 (by kernel_rfl) rfl (fun i f n S hf hS => match i, hf, hS with | 0, hf, hS => (by obtain rfl := Option.some.inj hf; obtain ⟨rfl, rfl⟩ := Prod.mk.inj (Option.some.inj hS); exact ⟨rfl, (op_arr Tryz.underlying51 Tryz.underlying5 (by kernel_rfl) (by kernel_rfl))⟩) | 1, hf, hS => (by obtain rfl := Option.some.inj hf; obtain ⟨rfl, rfl⟩ := Prod.mk.inj (Option.some.inj hS); exact ⟨rfl, (op_arr Tryz.underlying22 Tryz.underlying5 (by kernel_rfl) (by kernel_rfl))⟩) | i + 2, hf, _ => (by simp at hf)))⟩) | 1, hf, hS => (by obtain rfl := Option.some.inj hf; obtain ⟨rfl, rfl⟩ := Prod.mk.inj (Option.some.inj hS); exact ⟨rfl, (op_int Tryz.underlying62 (by kernel_rfl))⟩) | 2, hf, hS => (by obtain rfl := Option.some.inj hf; obtain ⟨rfl, rfl⟩ := Prod.mk.inj (Option.some.inj hS); exact ⟨rfl, (op_int Tryz.underlying47 (by kernel_rfl))⟩) | i + 3, hf, _ => (by simp at hf))) (.inl ⟨_, Tryz.underlying64⟩) (hval 0 64 v0 rfl rfl) h0
  obtain ⟨x1, o1, a1⟩ := arg_one (op_ints Tryz.underlying23 Tryz.underlying5 (by kernel_rfl) (by kernel_rfl)) (cells_slice Tryz.underlying23 (hval 1 23 v1 rfl rfl)) one_ints h1
  have m1 := open_size Tryz.underlying23 (by rw [show Tryz.prog.bytesOf 5 = 1 from by kernel_rfl]; omega) hsz0 (j := 1) rfl rfl h1
  obtain ⟨x2, o2, a2⟩ := arg_one (op_ints Tryz.underlying23 Tryz.underlying5 (by kernel_rfl) (by kernel_rfl)) (cells_slice Tryz.underlying23 (hval 2 23 v2 rfl rfl)) one_ints h2
  have m2 := open_size Tryz.underlying23 (by rw [show Tryz.prog.bytesOf 5 = 1 from by kernel_rfl]; omega) hsz0 (j := 2) rfl rfl h2
  clear hA0 hval0 hsz0
  obtain ⟨_, _, ⟨_, _, ⟨M, hM, wM, rfl⟩, _, ⟨_, _, ⟨C, hC, wC, rfl⟩, _, rfl, rfl⟩, rfl⟩, _, ⟨_, _, ⟨l0, wl, rfl⟩, _, ⟨_, _, ⟨n0, wn, rfl⟩, _, rfl, rfl⟩, rfl⟩, rfl⟩ := o0
  obtain ⟨l, rfl, hl⟩ := wf_u32s wl
  obtain ⟨n, rfl, hn64⟩ := wf_u64s wn
  obtain ⟨B, hB, wB, e1⟩ := o1
  obtain rfl := Seg.one.inj (List.cons.inj e1).1
  obtain ⟨D, hD, wD, e2⟩ := o2
  obtain rfl := Seg.one.inj (List.cons.inj e2).1
  refine (calls_con (law19_c M C B D l n hM hC (fun i => wf_u8 (wf_getD wC i)) hl hn64 (fun i => wf_u8 (wf_getD wD i))) (args_cons a0 (args_cons a1 (args_cons a2 (args_nil))))).mono fun e W' ⟨he, bel⟩ => ?_
  subst he
  exact ⟨_, rfl, _, _, _, [], _, [], hW', trodAll_mk1 (shut_bool Tryz.underlying4 _), (trodAll_cons_mk (Below.trod laidOut (by kernel_rfl) (of_decide_eq_true (by kernel_rfl)) h0 bel lt0) (trodAll_cons_mk (Below.trod laidOut (by kernel_rfl) (of_decide_eq_true (by kernel_rfl)) h1 bel lt1) (trodAll_cons_mk (Below.trod laidOut (by kernel_rfl) (of_decide_eq_true (by kernel_rfl)) h2 bel lt2) trodAll_mk0))), rfl, bel.frame _, fun h => by cases h⟩
theorem over : Rows.sealsOfRow.holds Tryz.pinned (OpenSpec.ofChange Rows.sealsOfSpec) :=
  OpenClaim.holds_of_wide 5 Tryz.f5 rfl rfl rfl rfl rfl rfl rfl ⟨rfl, rfl, rfl, rfl, rfl⟩ rfl rfl rfl rfl rfl (by kernel_rfl) Tryz.func5 (by kernel_rfl)
    (of_decide_eq_true (by kernel_rfl)) (by unfold Func.isWrapper; first | (rw [if_pos (by decide +kernel)]; kernel_rfl) | (rw [if_neg (by decide +kernel)]; exact ⟨rfl, rfl⟩))
    (fun os started H enc _ => lifted os started H enc)
theorem proved : Rows.SealsOfSaid := over
end Go.Proofs.YtokgpammicpahaaGreatDoor.sealsOf
namespace Go.Proofs.YtokgpammicpahaaGreatDoor
open Go.Proofs.X in
/-- The row, under a short name, for the claim. -/
theorem sealsOf_holds : Rows.SealsOfSaid := sealsOf.proved
/-- The tied card: the row, and what it lists tied to the program's text by the given tie. -/
theorem sealsOf_card_holds : Rows.SealsOfCardSaid :=
  Claim7.holds_tied_plain_at .later [] [.data, .data, .data] true (true, "f4455375d3a473d53b01549b96f5a1b98acbbf75c31e7aa4731a42647a2420b5") false
    sealsOf_holds (fun _ h => by cases h) (by kernel_rfl) (fun _ h => by cases h) sealsOf_row_tie rfl ⟨rfl, rfl⟩ (by kernel_rfl) rfl
    (fun f fn hf hfn => by
      obtain rfl : f = 5 := Option.some.inj ((show Tryz.prog.funcNamed "burrow/burrowlaw19.SealsOf" = some 5 by kernel_rfl).symm.trans hf) |>.symm
      obtain rfl : fn = Tryz.f5 := (Option.some.inj (Tryz.func5.symm.trans hfn)).symm
      exact ⟨by kernel_rfl, fun j t ht => by
        rw [Tryz.params5] at ht
        have hm : t ∈ [64, 23] := by simpa using Array.mem_of_getElem? ht
        have hall : ([64, 23].all fun u => !Tryz.prog.wantsStandIn u) = true := by kernel_rfl
        exact (show Tryz.prog.wantsStandIn t = false by simpa using List.all_eq_true.1 hall t hm)⟩)
    (by kernel_rfl)
end Go.Proofs.YtokgpammicpahaaGreatDoor
#print axioms Go.Proofs.YtokgpammicpahaaGreatDoor.sealsOf_card_holds
