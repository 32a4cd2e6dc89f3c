/- CoversThere holds: a sum, or a signature, is put once, nothing that stands at its place or behind it goes ahead, and a piece below it that is put, or taken away, later is one that it does not cover. No conditions. -/
import Derived.Test.YthgaljeppjdonaaGreatA13
import Derived.Test.YthgaljeppjdonaaGreatA5
import Derived.Test.YthgaljeppjdonaaGreatRows
import Derived.ShutString
import Derived.ChangeOld
import Derived.SizedLaws
import Derived.ProofKit
set_option linter.unusedVariables false
set_option linter.unusedSimpArgs false
namespace Go.Proofs.YthgaljeppjdonaaGreat.coversThere
open Go Go.Bx Go.Proofs Go.Proofs.X Go.Proofs.YthgaljeppjdonaaGreat
open Go.ChangeShapes Go.WideShapes Go.ChangeAt Go.RowKit
theorem own : ownKnob Tryz.prog.godebug = none := by kernel_rfl
theorem laidOut : laidOutB Tryz.prog = true := by kernel_rfl
set_option maxRecDepth 100000 in
theorem lifted (os : Os) (started : os.Started) (H : Type) (enc : TypeId × Value → H) :
    ReturnsInHanded {} Tryz.checked os 3 .any (Rows.coversThereSpec.pre6 enc Tryz.prog Tryz.f3 Rows.coversThereRow.domain false) (Rows.coversThereSpec.post enc Tryz.prog Tryz.f3 false true false false) := by
  refine returnsInHanded_of_change_sized (C := Tryz.checked) own started (by kernel_rfl) Tryz.func3
    (ChangeSpec.witness6 (enc := enc) (C := Tryz.checked) false ⟨#[], #[.agg (List.replicate 33 (.int .u8 0) ++ [.slice none 0 0] : List Value).toArray, .agg (List.replicate 16 (.int .u64 0) ++ List.replicate 32 (.int .u8 0) ++ List.replicate 4 (.int .u64 0) : List Value).toArray, .agg (List.replicate 48 (.int .u8 0) ++ [.int .u16 0] ++ [.slice none 0 0] : List Value).toArray], []⟩ 64 (by kernel_rfl) (by kernel_rfl) (by kernel_rfl) (by kernel_rfl)) ?_
  intro W base args ds gs before hval0 hW hcnd hsz0 _
  have hval : ∀ (j : Nat) t v, Tryz.f3.params[j]? = some t → args[j]? = some v → Value.okWide Tryz.prog W .any base t v := hval0
  have hW' := hW
  obtain ⟨p, q, hA0, hV, rfl, hfz, hnd⟩ := hW
  have hA : DataW.TrodAll enc Tryz.prog W 0 (fun _ => true) true Tryz.f3.params.toList args.toList ds p := hA0
  rw [Tryz.params3] at hA hval
  obtain ⟨v0, vs0, d0, ds0, p0, q0, hargs, rfl, rfl, h0, r0⟩ := trodAll_cons hA
  obtain ⟨v1, vs1, d1, ds1, p1, q1, rfl, rfl, rfl, h1, r1⟩ := trodAll_cons r0
  obtain ⟨v2, vs2, d2, ds2, p2, q2, rfl, rfl, rfl, h2, r2⟩ := trodAll_cons r1
  obtain ⟨rfl, rfl, rfl⟩ := trodAll_nil r2
  obtain rfl : args = #[v0, v1, v2] := by cases args; simp_all
  obtain ⟨rfl, rfl⟩ := trodVars_none hV
  have lt0 : ∀ x ∈ p0, x.block < W.heap.size := by obtain ⟨m, hm⟩ := h0; exact DataW.trod_lt m _ _ _ hm
  have lt1 : ∀ x ∈ p1, x.block < W.heap.size := by obtain ⟨m, hm⟩ := h1; exact DataW.trod_lt m _ _ _ hm
  have lt2 : ∀ x ∈ p2, x.block < W.heap.size := by obtain ⟨m, hm⟩ := h2; exact DataW.trod_lt m _ _ _ hm
  obtain ⟨segs0, o0, a0⟩ := arg_aggZ (szd hsz0 (j := 0) rfl rfl) (opZ_struct [(1, (shInt .u8)), (16, (shArr .u8 16)), (16, (shArr .u8 16)), (1, (shRowsZ 2 (shCat [(1, (shInt .u16)), (1, (shIntsZ .u8))])))] Tryz.underlying27 (by kernel_rfl) rfl (fun i f n S hf hS => match i, hf, hS with | 0, hf, hS => (by obtain rfl := Option.some.inj hf; obtain ⟨rfl, rfl⟩ := Prod.mk.inj (Option.some.inj hS); exact ⟨rfl, (op_int Tryz.underlying22 (by kernel_rfl)).z⟩) | 1, hf, hS => (by obtain rfl := Option.some.inj hf; obtain ⟨rfl, rfl⟩ := Prod.mk.inj (Option.some.inj hS); exact ⟨rfl, (op_arr Tryz.underlying24 Tryz.underlying5 (by kernel_rfl) (by kernel_rfl)).z⟩) | 2, hf, hS => (by obtain rfl := Option.some.inj hf; obtain ⟨rfl, rfl⟩ := Prod.mk.inj (Option.some.inj hS); exact ⟨rfl, (op_arr Tryz.underlying24 Tryz.underlying5 (by kernel_rfl) (by kernel_rfl)).z⟩) | 3, hf, hS => (by obtain rfl := Option.some.inj hf; obtain ⟨rfl, rfl⟩ := Prod.mk.inj (Option.some.inj hS); exact ⟨rfl, (opZ_rows Tryz.underlying25 (by kernel_rfl) (Nat.le_of_ble_eq_true rfl) (Nat.le_of_ble_eq_true (by kernel_rfl)) (opZ_struct [(1, (shInt .u16)), (1, (shIntsZ .u8))] Tryz.underlying40 (by kernel_rfl) rfl (fun i f n S hf hS => match i, hf, hS with | 0, hf, hS => (by obtain rfl := Option.some.inj hf; obtain ⟨rfl, rfl⟩ := Prod.mk.inj (Option.some.inj hS); exact ⟨rfl, (op_int Tryz.underlying37 (by kernel_rfl)).z⟩) | 1, hf, hS => (by obtain rfl := Option.some.inj hf; obtain ⟨rfl, rfl⟩ := Prod.mk.inj (Option.some.inj hS); exact ⟨rfl, (opZ_ints Tryz.underlying38 Tryz.underlying5 (by kernel_rfl) (by kernel_rfl) (Nat.le_of_ble_eq_true (by kernel_rfl)))⟩) | i + 2, hf, _ => (by simp at hf))))⟩) | i + 4, hf, _ => (by simp at hf))) (.inl ⟨_, Tryz.underlying27⟩) (hval 0 27 v0 rfl rfl) h0
  obtain ⟨segs1, o1, a1⟩ := arg_aggZ (szd hsz0 (j := 1) rfl rfl) (opZ_struct [(12, (shCat [(4, (shArr .u64 4)), (4, (shArr .u64 4)), (4, (shArr .u64 4))])), (4, (shArr .u64 4)), (32, (shArr .u8 32)), (4, (shArr .u64 4))] Tryz.underlying36 (by kernel_rfl) rfl (fun i f n S hf hS => match i, hf, hS with | 0, hf, hS => (by obtain rfl := Option.some.inj hf; obtain ⟨rfl, rfl⟩ := Prod.mk.inj (Option.some.inj hS); exact ⟨rfl, (opZ_struct [(4, (shArr .u64 4)), (4, (shArr .u64 4)), (4, (shArr .u64 4))] Tryz.underlying32 (by kernel_rfl) rfl (fun i f n S hf hS => match i, hf, hS with | 0, hf, hS => (by obtain rfl := Option.some.inj hf; obtain ⟨rfl, rfl⟩ := Prod.mk.inj (Option.some.inj hS); exact ⟨rfl, (op_arr Tryz.underlying30 Tryz.underlying28 (by kernel_rfl) (by kernel_rfl)).z⟩) | 1, hf, hS => (by obtain rfl := Option.some.inj hf; obtain ⟨rfl, rfl⟩ := Prod.mk.inj (Option.some.inj hS); exact ⟨rfl, (op_arr Tryz.underlying30 Tryz.underlying28 (by kernel_rfl) (by kernel_rfl)).z⟩) | 2, hf, hS => (by obtain rfl := Option.some.inj hf; obtain ⟨rfl, rfl⟩ := Prod.mk.inj (Option.some.inj hS); exact ⟨rfl, (op_arr Tryz.underlying30 Tryz.underlying28 (by kernel_rfl) (by kernel_rfl)).z⟩) | i + 3, hf, _ => (by simp at hf)))⟩) | 1, hf, hS => (by obtain rfl := Option.some.inj hf; obtain ⟨rfl, rfl⟩ := Prod.mk.inj (Option.some.inj hS); exact ⟨rfl, (op_arr Tryz.underlying30 Tryz.underlying28 (by kernel_rfl) (by kernel_rfl)).z⟩) | 2, hf, hS => (by obtain rfl := Option.some.inj hf; obtain ⟨rfl, rfl⟩ := Prod.mk.inj (Option.some.inj hS); exact ⟨rfl, (op_arr Tryz.underlying34 Tryz.underlying5 (by kernel_rfl) (by kernel_rfl)).z⟩) | 3, hf, hS => (by obtain rfl := Option.some.inj hf; obtain ⟨rfl, rfl⟩ := Prod.mk.inj (Option.some.inj hS); exact ⟨rfl, (op_arr Tryz.underlying30 Tryz.underlying28 (by kernel_rfl) (by kernel_rfl)).z⟩) | i + 4, hf, _ => (by simp at hf))) (.inl ⟨_, Tryz.underlying36⟩) (hval 1 36 v1 rfl rfl) h1
  obtain ⟨segs2, o2, a2⟩ := arg_aggZ (szd hsz0 (j := 2) rfl rfl) (opZ_struct [(16, (shArr .u8 16)), (32, (shArr .u8 32)), (2, (shCat [(1, (shInt .u16)), (1, (shIntsZ .u8))]))] Tryz.underlying42 (by kernel_rfl) rfl (fun i f n S hf hS => match i, hf, hS with | 0, hf, hS => (by obtain rfl := Option.some.inj hf; obtain ⟨rfl, rfl⟩ := Prod.mk.inj (Option.some.inj hS); exact ⟨rfl, (op_arr Tryz.underlying24 Tryz.underlying5 (by kernel_rfl) (by kernel_rfl)).z⟩) | 1, hf, hS => (by obtain rfl := Option.some.inj hf; obtain ⟨rfl, rfl⟩ := Prod.mk.inj (Option.some.inj hS); exact ⟨rfl, (op_arr Tryz.underlying34 Tryz.underlying5 (by kernel_rfl) (by kernel_rfl)).z⟩) | 2, hf, hS => (by obtain rfl := Option.some.inj hf; obtain ⟨rfl, rfl⟩ := Prod.mk.inj (Option.some.inj hS); exact ⟨rfl, (opZ_struct [(1, (shInt .u16)), (1, (shIntsZ .u8))] Tryz.underlying40 (by kernel_rfl) rfl (fun i f n S hf hS => match i, hf, hS with | 0, hf, hS => (by obtain rfl := Option.some.inj hf; obtain ⟨rfl, rfl⟩ := Prod.mk.inj (Option.some.inj hS); exact ⟨rfl, (op_int Tryz.underlying37 (by kernel_rfl)).z⟩) | 1, hf, hS => (by obtain rfl := Option.some.inj hf; obtain ⟨rfl, rfl⟩ := Prod.mk.inj (Option.some.inj hS); exact ⟨rfl, (opZ_ints Tryz.underlying38 Tryz.underlying5 (by kernel_rfl) (by kernel_rfl) (Nat.le_of_ble_eq_true (by kernel_rfl)))⟩) | i + 2, hf, _ => (by simp at hf)))⟩) | i + 3, hf, _ => (by simp at hf))) (.inl ⟨_, Tryz.underlying42⟩) (hval 2 42 v2 rfl rfl) h2
  clear hA0 hval0 hsz0
  obtain ⟨k, A, B, L, hk, hA, hB, hUA, hUB, hLm, hLp, hr⟩ := pkt_open o0
  replace a0 := hr W v0 a0
  obtain ⟨p, q, g, a, K, XK, hp, hq, hg, ha, hK, rfl⟩ := giv_open o1
  obtain ⟨T1, I1, t, Bx, ht, hUx, hBx, rfl⟩ := oth_open o2
  refine (calls_con (there_c k A B L p q g a K XK T1 I1 t Bx hp hq hg ha hk hA hB hUA hUB hLm hLp hK ht hUx) (args_cons a0 (args_cons a1 (args_cons a2 (args_nil))))).mono fun e W' ⟨he, bel⟩ => ?_
  subst he
  exact ⟨_, rfl, _, _, _, [], _, [], hW', trodAll_mk1 (shut_bool Tryz.underlying4 _), (trodAll_cons_mk (Below.trod laidOut (by kernel_rfl) (of_decide_eq_true (by kernel_rfl)) h0 bel lt0) (trodAll_cons_mk (Below.trod laidOut (by kernel_rfl) (of_decide_eq_true (by kernel_rfl)) h1 bel lt1) (trodAll_cons_mk (Below.trod laidOut (by kernel_rfl) (of_decide_eq_true (by kernel_rfl)) h2 bel lt2) trodAll_mk0))), rfl, bel.frame _, fun h => by cases h⟩
theorem over : Rows.coversThereRow.holds Tryz.pinned (OpenSpec.ofChange Rows.coversThereSpec) :=
  OpenClaim.holds_of_wide 3 Tryz.f3 rfl rfl rfl rfl rfl rfl rfl ⟨rfl, rfl, rfl, rfl, rfl⟩ rfl rfl rfl rfl rfl (by kernel_rfl) Tryz.func3 (by kernel_rfl)
    (of_decide_eq_true (by kernel_rfl)) (by unfold Func.isWrapper; first | (rw [if_pos (by decide +kernel)]; kernel_rfl) | (rw [if_neg (by decide +kernel)]; exact ⟨rfl, rfl⟩))
    (fun os started H enc _ => lifted os started H enc)
theorem proved : Rows.CoversThereSaid := over
end Go.Proofs.YthgaljeppjdonaaGreat.coversThere
namespace Go.Proofs.YthgaljeppjdonaaGreat
open Go.Proofs.X in
/-- The row, under a short name, for the claim. -/
theorem coversThere_holds : Rows.CoversThereSaid := coversThere.proved
end Go.Proofs.YthgaljeppjdonaaGreat
#print axioms Go.Proofs.YthgaljeppjdonaaGreat.coversThere_holds
