/- CoversContent holds: what a signature covers is equal for two packets just where they are equal but for what is not covered, and it is read back as it was. No conditions. -/
import Derived.Test.YthgaljeppjdonaaGreatC13
import Derived.Test.YthgaljeppjdonaaGreatC5
import Derived.Test.YthgaljeppjdonaaGreatRows
import Derived.ShutString
import Derived.ChangeOld
import Derived.SizedLaws
import Derived.ProofKit
set_option linter.unusedVariables false
set_option linter.unusedSimpArgs false
namespace Go.Proofs.YthgaljeppjdonaaGreat.coversContent
open Go Go.Bx Go.Proofs Go.Proofs.X Go.Proofs.YthgaljeppjdonaaGreat
open Go.ChangeShapes Go.WideShapes Go.ChangeAt Go.RowKit
theorem own : ownKnob Tryz.prog.godebug = none := by kernel_rfl
theorem laidOut : laidOutB Tryz.prog = true := by kernel_rfl
set_option maxRecDepth 100000 in
theorem lifted (os : Os) (started : os.Started) (H : Type) (enc : TypeId × Value → H) :
    ReturnsInHanded {} Tryz.checked os 4 .any (Rows.coversContentSpec.pre6 enc Tryz.prog Tryz.f4 Rows.coversContentRow.domain false) (Rows.coversContentSpec.post enc Tryz.prog Tryz.f4 false true false false) := by
  refine returnsInHanded_of_change_sized (C := Tryz.checked) own started (by kernel_rfl) Tryz.func4
    (ChangeSpec.witness6 (enc := enc) (C := Tryz.checked) false ⟨#[], #[.agg (List.replicate 33 (.int .u8 0) ++ [.slice none 0 0] : List Value).toArray, .agg (List.replicate 33 (.int .u8 0) ++ [.slice none 0 0] : List Value).toArray], []⟩ 64 (by kernel_rfl) (by kernel_rfl) (by kernel_rfl) (by kernel_rfl)) ?_
  intro W base args ds gs before hval0 hW hcnd hsz0 _
  have hval : ∀ (j : Nat) t v, Tryz.f4.params[j]? = some t → args[j]? = some v → Value.okWide Tryz.prog W .any base t v := hval0
  have hW' := hW
  obtain ⟨p, q, hA0, hV, rfl, hfz, hnd⟩ := hW
  have hA : DataW.TrodAll enc Tryz.prog W 0 (fun _ => true) true Tryz.f4.params.toList args.toList ds p := hA0
  rw [Tryz.params4] at hA hval
  obtain ⟨v0, vs0, d0, ds0, p0, q0, hargs, rfl, rfl, h0, r0⟩ := trodAll_cons hA
  obtain ⟨v1, vs1, d1, ds1, p1, q1, rfl, rfl, rfl, h1, r1⟩ := trodAll_cons r0
  obtain ⟨rfl, rfl, rfl⟩ := trodAll_nil r1
  obtain rfl : args = #[v0, v1] := by cases args; simp_all
  obtain ⟨rfl, rfl⟩ := trodVars_none hV
  have lt0 : ∀ x ∈ p0, x.block < W.heap.size := by obtain ⟨m, hm⟩ := h0; exact DataW.trod_lt m _ _ _ hm
  have lt1 : ∀ x ∈ p1, x.block < W.heap.size := by obtain ⟨m, hm⟩ := h1; exact DataW.trod_lt m _ _ _ hm
  obtain ⟨segs0, o0, a0⟩ := arg_aggZ (szd hsz0 (j := 0) rfl rfl) (opZ_struct [(1, (shInt .u8)), (16, (shArr .u8 16)), (16, (shArr .u8 16)), (1, (shRowsZ 2 (shCat [(1, (shInt .u16)), (1, (shIntsZ .u8))])))] Tryz.underlying27 (by kernel_rfl) rfl (fun i f n S hf hS => match i, hf, hS with | 0, hf, hS => (by obtain rfl := Option.some.inj hf; obtain ⟨rfl, rfl⟩ := Prod.mk.inj (Option.some.inj hS); exact ⟨rfl, (op_int Tryz.underlying22 (by kernel_rfl)).z⟩) | 1, hf, hS => (by obtain rfl := Option.some.inj hf; obtain ⟨rfl, rfl⟩ := Prod.mk.inj (Option.some.inj hS); exact ⟨rfl, (op_arr Tryz.underlying24 Tryz.underlying5 (by kernel_rfl) (by kernel_rfl)).z⟩) | 2, hf, hS => (by obtain rfl := Option.some.inj hf; obtain ⟨rfl, rfl⟩ := Prod.mk.inj (Option.some.inj hS); exact ⟨rfl, (op_arr Tryz.underlying24 Tryz.underlying5 (by kernel_rfl) (by kernel_rfl)).z⟩) | 3, hf, hS => (by obtain rfl := Option.some.inj hf; obtain ⟨rfl, rfl⟩ := Prod.mk.inj (Option.some.inj hS); exact ⟨rfl, (opZ_rows Tryz.underlying25 (by kernel_rfl) (Nat.le_of_ble_eq_true rfl) (Nat.le_of_ble_eq_true (by kernel_rfl)) (opZ_struct [(1, (shInt .u16)), (1, (shIntsZ .u8))] Tryz.underlying40 (by kernel_rfl) rfl (fun i f n S hf hS => match i, hf, hS with | 0, hf, hS => (by obtain rfl := Option.some.inj hf; obtain ⟨rfl, rfl⟩ := Prod.mk.inj (Option.some.inj hS); exact ⟨rfl, (op_int Tryz.underlying37 (by kernel_rfl)).z⟩) | 1, hf, hS => (by obtain rfl := Option.some.inj hf; obtain ⟨rfl, rfl⟩ := Prod.mk.inj (Option.some.inj hS); exact ⟨rfl, (opZ_ints Tryz.underlying38 Tryz.underlying5 (by kernel_rfl) (by kernel_rfl) (Nat.le_of_ble_eq_true (by kernel_rfl)))⟩) | i + 2, hf, _ => (by simp at hf))))⟩) | i + 4, hf, _ => (by simp at hf))) (.inl ⟨_, Tryz.underlying27⟩) (hval 0 27 v0 rfl rfl) h0
  obtain ⟨segs1, o1, a1⟩ := arg_aggZ (szd hsz0 (j := 1) rfl rfl) (opZ_struct [(1, (shInt .u8)), (16, (shArr .u8 16)), (16, (shArr .u8 16)), (1, (shRowsZ 2 (shCat [(1, (shInt .u16)), (1, (shIntsZ .u8))])))] Tryz.underlying27 (by kernel_rfl) rfl (fun i f n S hf hS => match i, hf, hS with | 0, hf, hS => (by obtain rfl := Option.some.inj hf; obtain ⟨rfl, rfl⟩ := Prod.mk.inj (Option.some.inj hS); exact ⟨rfl, (op_int Tryz.underlying22 (by kernel_rfl)).z⟩) | 1, hf, hS => (by obtain rfl := Option.some.inj hf; obtain ⟨rfl, rfl⟩ := Prod.mk.inj (Option.some.inj hS); exact ⟨rfl, (op_arr Tryz.underlying24 Tryz.underlying5 (by kernel_rfl) (by kernel_rfl)).z⟩) | 2, hf, hS => (by obtain rfl := Option.some.inj hf; obtain ⟨rfl, rfl⟩ := Prod.mk.inj (Option.some.inj hS); exact ⟨rfl, (op_arr Tryz.underlying24 Tryz.underlying5 (by kernel_rfl) (by kernel_rfl)).z⟩) | 3, hf, hS => (by obtain rfl := Option.some.inj hf; obtain ⟨rfl, rfl⟩ := Prod.mk.inj (Option.some.inj hS); exact ⟨rfl, (opZ_rows Tryz.underlying25 (by kernel_rfl) (Nat.le_of_ble_eq_true rfl) (Nat.le_of_ble_eq_true (by kernel_rfl)) (opZ_struct [(1, (shInt .u16)), (1, (shIntsZ .u8))] Tryz.underlying40 (by kernel_rfl) rfl (fun i f n S hf hS => match i, hf, hS with | 0, hf, hS => (by obtain rfl := Option.some.inj hf; obtain ⟨rfl, rfl⟩ := Prod.mk.inj (Option.some.inj hS); exact ⟨rfl, (op_int Tryz.underlying37 (by kernel_rfl)).z⟩) | 1, hf, hS => (by obtain rfl := Option.some.inj hf; obtain ⟨rfl, rfl⟩ := Prod.mk.inj (Option.some.inj hS); exact ⟨rfl, (opZ_ints Tryz.underlying38 Tryz.underlying5 (by kernel_rfl) (by kernel_rfl) (Nat.le_of_ble_eq_true (by kernel_rfl)))⟩) | i + 2, hf, _ => (by simp at hf))))⟩) | i + 4, hf, _ => (by simp at hf))) (.inl ⟨_, Tryz.underlying27⟩) (hval 1 27 v1 rfl rfl) h1
  clear hA0 hval0 hsz0
  obtain ⟨k, A, B, L, hk, hA, hB, hUA, hUB, hLm, hLp, hr⟩ := pkt_open o0
  replace a0 := hr W v0 a0
  obtain ⟨l, D, C, R, hl, hD, hC, hUD, hUC, hRm, hRp, hr2⟩ := pkt_open o1
  replace a1 := hr2 W v1 a1
  refine (calls_con (content_c k A B L l D C R hk hA hB hUA hUB hLm hLp hl hD hC hUD hUC hRm hRp) (args_cons a0 (args_cons a1 (args_nil)))).mono fun e W' ⟨he, bel⟩ => ?_
  subst he
  exact ⟨_, rfl, _, _, _, [], _, [], hW', trodAll_mk1 (shut_bool Tryz.underlying4 _), (trodAll_cons_mk (Below.trod laidOut (by kernel_rfl) (of_decide_eq_true (by kernel_rfl)) h0 bel lt0) (trodAll_cons_mk (Below.trod laidOut (by kernel_rfl) (of_decide_eq_true (by kernel_rfl)) h1 bel lt1) trodAll_mk0)), rfl, bel.frame _, fun h => by cases h⟩
theorem over : Rows.coversContentRow.holds Tryz.pinned (OpenSpec.ofChange Rows.coversContentSpec) :=
  OpenClaim.holds_of_wide 4 Tryz.f4 rfl rfl rfl rfl rfl rfl rfl ⟨rfl, rfl, rfl, rfl, rfl⟩ rfl rfl rfl rfl rfl (by kernel_rfl) Tryz.func4 (by kernel_rfl)
    (of_decide_eq_true (by kernel_rfl)) (by unfold Func.isWrapper; first | (rw [if_pos (by decide +kernel)]; kernel_rfl) | (rw [if_neg (by decide +kernel)]; exact ⟨rfl, rfl⟩))
    (fun os started H enc _ => lifted os started H enc)
theorem proved : Rows.CoversContentSaid := over
end Go.Proofs.YthgaljeppjdonaaGreat.coversContent
namespace Go.Proofs.YthgaljeppjdonaaGreat
open Go.Proofs.X in
/-- The row, under a short name, for the claim. -/
theorem coversContent_holds : Rows.CoversContentSaid := coversContent.proved
end Go.Proofs.YthgaljeppjdonaaGreat
#print axioms Go.Proofs.YthgaljeppjdonaaGreat.coversContent_holds
