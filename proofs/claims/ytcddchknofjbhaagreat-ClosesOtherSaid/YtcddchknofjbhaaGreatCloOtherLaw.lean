/- ClosesOther holds: what answers one sum does not end what asked another one; what asks is no answer, what answers asks nothing. No conditions. -/
import Derived.Test.YtcddchknofjbhaaGreatD1
import Derived.Test.YtcddchknofjbhaaGreatA5
import Derived.Test.YtcddchknofjbhaaGreatRows
import Derived.ShutString
import Derived.ChangeOld
import Derived.SizedLaws
import Derived.ProofKit
set_option linter.unusedVariables false
set_option linter.unusedSimpArgs false
namespace Go.Proofs.YtcddchknofjbhaaGreat.closesOther
open Go Go.Bx Go.Proofs Go.Proofs.X Go.Proofs.YtcddchknofjbhaaGreat
open Go.ChangeShapes Go.WideShapes Go.ChangeAt Go.RowKit
theorem own : ownKnob Tryz.prog.godebug = none := by kernel_rfl
theorem laidOut : laidOutB Tryz.prog = true := by kernel_rfl
set_option maxRecDepth 100000 in
theorem lifted (os : Os) (started : os.Started) (H : Type) (enc : TypeId × Value → H) :
    ReturnsInHanded {} Tryz.checked os 5 .any (Rows.closesOtherSpec.pre6 enc Tryz.prog Tryz.f5 Rows.closesOtherRow.domain false) (Rows.closesOtherSpec.post enc Tryz.prog Tryz.f5 false true false false) := by
  refine returnsInHanded_of_change_sized (C := Tryz.checked) own started (by kernel_rfl) Tryz.func5
    (ChangeSpec.witness6 (enc := enc) (C := Tryz.checked) false ⟨#[], #[.agg (List.replicate 16 (.int .u64 0) ++ List.replicate 32 (.int .u8 0) ++ List.replicate 16 (.int .u64 0) ++ List.replicate 32 (.int .u8 0) ++ List.replicate 8 (.int .u64 0) ++ List.replicate 32 (.int .u8 0) : List Value).toArray, .agg (List.replicate 64 (.int .u8 0) : List Value).toArray], []⟩ 64 (by kernel_rfl) (by kernel_rfl) (by kernel_rfl) (by kernel_rfl)) ?_
  intro W base args ds gs before hval0 hW hcnd hsz0 _
  have hval : ∀ (j : Nat) t v, Tryz.f5.params[j]? = some t → args[j]? = some v → Value.okWide Tryz.prog W .any base t v := hval0
  have hW' := hW
  obtain ⟨p, q, hA0, hV, rfl, hfz, hnd⟩ := hW
  have hA : DataW.TrodAll enc Tryz.prog W 0 (fun _ => true) true Tryz.f5.params.toList args.toList ds p := hA0
  rw [Tryz.params5] at hA hval
  obtain ⟨v0, vs0, d0, ds0, p0, q0, hargs, rfl, rfl, h0, r0⟩ := trodAll_cons hA
  obtain ⟨v1, vs1, d1, ds1, p1, q1, rfl, rfl, rfl, h1, r1⟩ := trodAll_cons r0
  obtain ⟨rfl, rfl, rfl⟩ := trodAll_nil r1
  obtain rfl : args = #[v0, v1] := by cases args; simp_all
  obtain ⟨rfl, rfl⟩ := trodVars_none hV
  have lt0 : ∀ x ∈ p0, x.block < W.heap.size := by obtain ⟨m, hm⟩ := h0; exact DataW.trod_lt m _ _ _ hm
  have lt1 : ∀ x ∈ p1, x.block < W.heap.size := by obtain ⟨m, hm⟩ := h1; exact DataW.trod_lt m _ _ _ hm
  obtain ⟨segs0, o0, a0⟩ := arg_agg (op_struct [(48, (shCat [(12, (shCat [(4, (shArr .u64 4)), (4, (shArr .u64 4)), (4, (shArr .u64 4))])), (4, (shArr .u64 4)), (32, (shArr .u8 32))])), (48, (shCat [(12, (shCat [(4, (shArr .u64 4)), (4, (shArr .u64 4)), (4, (shArr .u64 4))])), (4, (shArr .u64 4)), (32, (shArr .u8 32))])), (8, (shCat (List.replicate 2 (4, (shArr .u64 4))))), (32, (shArr .u8 32))] Tryz.underlying33 (by kernel_rfl) rfl (fun i f n S hf hS => match i, hf, hS with | 0, hf, hS => (by obtain rfl := Option.some.inj hf; obtain ⟨rfl, rfl⟩ := Prod.mk.inj (Option.some.inj hS); exact ⟨rfl, (op_struct [(12, (shCat [(4, (shArr .u64 4)), (4, (shArr .u64 4)), (4, (shArr .u64 4))])), (4, (shArr .u64 4)), (32, (shArr .u8 32))] Tryz.underlying30 (by kernel_rfl) rfl (fun i f n S hf hS => match i, hf, hS with | 0, hf, hS => (by obtain rfl := Option.some.inj hf; obtain ⟨rfl, rfl⟩ := Prod.mk.inj (Option.some.inj hS); exact ⟨rfl, (op_struct [(4, (shArr .u64 4)), (4, (shArr .u64 4)), (4, (shArr .u64 4))] Tryz.underlying26 (by kernel_rfl) rfl (fun i f n S hf hS => match i, hf, hS with | 0, hf, hS => (by obtain rfl := Option.some.inj hf; obtain ⟨rfl, rfl⟩ := Prod.mk.inj (Option.some.inj hS); exact ⟨rfl, (op_arr Tryz.underlying24 Tryz.underlying22 (by kernel_rfl) (by kernel_rfl))⟩) | 1, hf, hS => (by obtain rfl := Option.some.inj hf; obtain ⟨rfl, rfl⟩ := Prod.mk.inj (Option.some.inj hS); exact ⟨rfl, (op_arr Tryz.underlying24 Tryz.underlying22 (by kernel_rfl) (by kernel_rfl))⟩) | 2, hf, hS => (by obtain rfl := Option.some.inj hf; obtain ⟨rfl, rfl⟩ := Prod.mk.inj (Option.some.inj hS); exact ⟨rfl, (op_arr Tryz.underlying24 Tryz.underlying22 (by kernel_rfl) (by kernel_rfl))⟩) | i + 3, hf, _ => (by simp at hf)))⟩) | 1, hf, hS => (by obtain rfl := Option.some.inj hf; obtain ⟨rfl, rfl⟩ := Prod.mk.inj (Option.some.inj hS); exact ⟨rfl, (op_arr Tryz.underlying24 Tryz.underlying22 (by kernel_rfl) (by kernel_rfl))⟩) | 2, hf, hS => (by obtain rfl := Option.some.inj hf; obtain ⟨rfl, rfl⟩ := Prod.mk.inj (Option.some.inj hS); exact ⟨rfl, (op_arr Tryz.underlying28 Tryz.underlying5 (by kernel_rfl) (by kernel_rfl))⟩) | i + 3, hf, _ => (by simp at hf)))⟩) | 1, hf, hS => (by obtain rfl := Option.some.inj hf; obtain ⟨rfl, rfl⟩ := Prod.mk.inj (Option.some.inj hS); exact ⟨rfl, (op_struct [(12, (shCat [(4, (shArr .u64 4)), (4, (shArr .u64 4)), (4, (shArr .u64 4))])), (4, (shArr .u64 4)), (32, (shArr .u8 32))] Tryz.underlying30 (by kernel_rfl) rfl (fun i f n S hf hS => match i, hf, hS with | 0, hf, hS => (by obtain rfl := Option.some.inj hf; obtain ⟨rfl, rfl⟩ := Prod.mk.inj (Option.some.inj hS); exact ⟨rfl, (op_struct [(4, (shArr .u64 4)), (4, (shArr .u64 4)), (4, (shArr .u64 4))] Tryz.underlying26 (by kernel_rfl) rfl (fun i f n S hf hS => match i, hf, hS with | 0, hf, hS => (by obtain rfl := Option.some.inj hf; obtain ⟨rfl, rfl⟩ := Prod.mk.inj (Option.some.inj hS); exact ⟨rfl, (op_arr Tryz.underlying24 Tryz.underlying22 (by kernel_rfl) (by kernel_rfl))⟩) | 1, hf, hS => (by obtain rfl := Option.some.inj hf; obtain ⟨rfl, rfl⟩ := Prod.mk.inj (Option.some.inj hS); exact ⟨rfl, (op_arr Tryz.underlying24 Tryz.underlying22 (by kernel_rfl) (by kernel_rfl))⟩) | 2, hf, hS => (by obtain rfl := Option.some.inj hf; obtain ⟨rfl, rfl⟩ := Prod.mk.inj (Option.some.inj hS); exact ⟨rfl, (op_arr Tryz.underlying24 Tryz.underlying22 (by kernel_rfl) (by kernel_rfl))⟩) | i + 3, hf, _ => (by simp at hf)))⟩) | 1, hf, hS => (by obtain rfl := Option.some.inj hf; obtain ⟨rfl, rfl⟩ := Prod.mk.inj (Option.some.inj hS); exact ⟨rfl, (op_arr Tryz.underlying24 Tryz.underlying22 (by kernel_rfl) (by kernel_rfl))⟩) | 2, hf, hS => (by obtain rfl := Option.some.inj hf; obtain ⟨rfl, rfl⟩ := Prod.mk.inj (Option.some.inj hS); exact ⟨rfl, (op_arr Tryz.underlying28 Tryz.underlying5 (by kernel_rfl) (by kernel_rfl))⟩) | i + 3, hf, _ => (by simp at hf)))⟩) | 2, hf, hS => (by obtain rfl := Option.some.inj hf; obtain ⟨rfl, rfl⟩ := Prod.mk.inj (Option.some.inj hS); exact ⟨rfl, (op_array Tryz.underlying31 (by kernel_rfl) (op_arr Tryz.underlying24 Tryz.underlying22 (by kernel_rfl) (by kernel_rfl)))⟩) | 3, hf, hS => (by obtain rfl := Option.some.inj hf; obtain ⟨rfl, rfl⟩ := Prod.mk.inj (Option.some.inj hS); exact ⟨rfl, (op_arr Tryz.underlying28 Tryz.underlying5 (by kernel_rfl) (by kernel_rfl))⟩) | i + 4, hf, _ => (by simp at hf))) (.inl ⟨_, Tryz.underlying33⟩) (hval 0 33 v0 rfl rfl) h0
  obtain ⟨segs1, o1, a1⟩ := arg_agg (op_array Tryz.underlying69 (by kernel_rfl) (op_arr Tryz.underlying28 Tryz.underlying5 (by kernel_rfl) (by kernel_rfl))) (.inr ⟨_, _, Tryz.underlying69⟩) (hval 1 69 v1 rfl rfl) h1
  clear hA0 hval0 hsz0
  obtain ⟨p, q, g, a, SA, p2, q2, g2, b, SB, s0, s1, ID, hp, hq, hg, ha, hp2, hq2, hg2, hb, h0_, h1_, hID, rfl⟩ := pair_open o0
  obtain ⟨SS, S2, hS, hS2, uS, uS2, rfl⟩ := sums_open o1
  refine (calls_con (other_all p q g a SA p2 q2 g2 b SB s0 s1 ID hp hq hg ha hp2 hq2 hg2 hb h0_ h1_ hID SS S2 hS hS2 uS2 uS) (args_cons a0 (args_cons a1 (args_nil)))).mono fun e W' ⟨he, bel⟩ => ?_
  subst he
  exact ⟨_, rfl, _, _, _, [], _, [], hW', trodAll_mk1 (shut_bool Tryz.underlying4 _), (trodAll_cons_mk (Below.trod laidOut (by kernel_rfl) (of_decide_eq_true (by kernel_rfl)) h0 bel lt0) (trodAll_cons_mk (Below.trod laidOut (by kernel_rfl) (of_decide_eq_true (by kernel_rfl)) h1 bel lt1) trodAll_mk0)), rfl, bel.frame _, fun h => by cases h⟩
theorem over : Rows.closesOtherRow.holds Tryz.pinned (OpenSpec.ofChange Rows.closesOtherSpec) :=
  OpenClaim.holds_of_wide 5 Tryz.f5 rfl rfl rfl rfl rfl rfl rfl ⟨rfl, rfl, rfl, rfl, rfl⟩ rfl rfl rfl rfl rfl (by kernel_rfl) Tryz.func5 (by kernel_rfl)
    (of_decide_eq_true (by kernel_rfl)) (by unfold Func.isWrapper; first | (rw [if_pos (by decide +kernel)]; kernel_rfl) | (rw [if_neg (by decide +kernel)]; exact ⟨rfl, rfl⟩))
    (fun os started H enc _ => lifted os started H enc)
theorem proved : Rows.ClosesOtherSaid := over
end Go.Proofs.YtcddchknofjbhaaGreat.closesOther
namespace Go.Proofs.YtcddchknofjbhaaGreat
open Go.Proofs.X in
/-- The row, under a short name, for the claim. -/
theorem closesOther_holds : Rows.ClosesOtherSaid := closesOther.proved
end Go.Proofs.YtcddchknofjbhaaGreat
#print axioms Go.Proofs.YtcddchknofjbhaaGreat.closesOther_holds
