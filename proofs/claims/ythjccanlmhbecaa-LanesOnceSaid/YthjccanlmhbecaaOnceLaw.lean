/- LanesOnce holds: all that is put comes, once, in whatever order, with its number; the numbers are 1, 2, .., as many as there is room for. No conditions. -/
import Derived.Test.YthjccanlmhbecaaBL20b
import Derived.Test.YthjccanlmhbecaaBxE
import Derived.Test.YthjccanlmhbecaaRows
import Derived.ShutString
import Derived.ChangeOld
import Derived.SizedLaws
import Derived.ProofKit
set_option linter.unusedVariables false
set_option linter.unusedSimpArgs false
namespace Go.Proofs.Ythjccanlmhbecaa.lanesOnce
open Go Go.Bx Go.Proofs Go.Proofs.X Go.Proofs.Ythjccanlmhbecaa
open Go.ChangeShapes Go.WideShapes Go.ChangeAt Go.RowKit
theorem own : ownKnob Try.prog.godebug = none := by kernel_rfl
theorem laidOut : laidOutB Try.prog = true := by kernel_rfl
set_option maxRecDepth 100000 in
theorem lifted (os : Os) (started : os.Started) (H : Type) (enc : TypeId × Value → H) :
    ReturnsInHanded {} Try.checked os 3 .any (Rows.lanesOnceSpec.pre6 enc Try.prog Try.f3 Rows.lanesOnceRow.domain false) (Rows.lanesOnceSpec.post enc Try.prog Try.f3 false true false false) := by
  refine returnsInHanded_of_change_sized (C := Try.checked) own started (by kernel_rfl) Try.func3
    (ChangeSpec.witness6 (enc := enc) (C := Try.checked) false ⟨#[], #[.agg (List.replicate 48 (.int .u8 0) : List Value).toArray, .slice none 0 0, .slice none 0 0], []⟩ 64 (by kernel_rfl) (by kernel_rfl) (by kernel_rfl) (by kernel_rfl)) ?_
  intro W base args ds gs before hval0 hW hcnd hsz0 _
  have hval : ∀ (j : Nat) t v, Try.f3.params[j]? = some t → args[j]? = some v → Value.okWide Try.prog W .any base t v := hval0
  have hW' := hW
  obtain ⟨p, q, hA0, hV, rfl, hfz, hnd⟩ := hW
  have hA : DataW.TrodAll enc Try.prog W 0 (fun _ => true) true Try.f3.params.toList args.toList ds p := hA0
  rw [Try.params3] at hA hval
  obtain ⟨v0, vs0, d0, ds0, p0, q0, hargs, rfl, rfl, h0, r0⟩ := trodAll_cons hA
  obtain ⟨v1, vs1, d1, ds1, p1, q1, rfl, rfl, rfl, h1, r1⟩ := trodAll_cons r0
  obtain ⟨v2, vs2, d2, ds2, p2, q2, rfl, rfl, rfl, h2, r2⟩ := trodAll_cons r1
  obtain ⟨rfl, rfl, rfl⟩ := trodAll_nil r2
  obtain rfl : args = #[v0, v1, v2] := by cases args; simp_all
  obtain ⟨rfl, rfl⟩ := trodVars_none hV
  have lt0 : ∀ x ∈ p0, x.block < W.heap.size := by obtain ⟨m, hm⟩ := h0; exact DataW.trod_lt m _ _ _ hm
  have lt1 : ∀ x ∈ p1, x.block < W.heap.size := by obtain ⟨m, hm⟩ := h1; exact DataW.trod_lt m _ _ _ hm
  have lt2 : ∀ x ∈ p2, x.block < W.heap.size := by obtain ⟨m, hm⟩ := h2; exact DataW.trod_lt m _ _ _ hm
  obtain ⟨segs0, o0, a0⟩ := arg_agg (op_struct [(32, (shArr .u8 32)), (16, (shArr .u8 16))] Try.underlying26 (by kernel_rfl) rfl (fun i f n S hf hS => match i, hf, hS with | 0, hf, hS => (by obtain rfl := Option.some.inj hf; obtain ⟨rfl, rfl⟩ := Prod.mk.inj (Option.some.inj hS); exact ⟨rfl, (op_arr Try.underlying23 Try.underlying5 (by kernel_rfl) (by kernel_rfl))⟩) | 1, hf, hS => (by obtain rfl := Option.some.inj hf; obtain ⟨rfl, rfl⟩ := Prod.mk.inj (Option.some.inj hS); exact ⟨rfl, (op_arr Try.underlying24 Try.underlying5 (by kernel_rfl) (by kernel_rfl))⟩) | i + 2, hf, _ => (by simp at hf))) (.inl ⟨_, Try.underlying26⟩) (hval 0 26 v0 rfl rfl) h0
  obtain ⟨x1, o1, a1⟩ := arg_one (op_rows Try.underlying27 (by kernel_rfl) (Nat.le_of_ble_eq_true rfl) (op_ints Try.underlying28 Try.underlying5 (by kernel_rfl) (by kernel_rfl))) (cells_slice Try.underlying27 (hval 1 27 v1 rfl rfl)) one_rows h1
  have m1 := open_size Try.underlying27 (by rw [show Try.prog.bytesOf 28 = 24 from by kernel_rfl]; omega) hsz0 (j := 1) rfl rfl h1
  obtain ⟨x2, o2, a2⟩ := arg_one (op_ints Try.underlying28 Try.underlying5 (by kernel_rfl) (by kernel_rfl)) (cells_slice Try.underlying28 (hval 2 28 v2 rfl rfl)) one_ints h2
  have m2 := open_size Try.underlying28 (by rw [show Try.prog.bytesOf 5 = 1 from by kernel_rfl]; omega) hsz0 (j := 2) rfl rfl h2
  clear hA0 hval0 hsz0
  obtain ⟨_, _, ⟨M, hM, wM, rfl⟩, _, ⟨_, _, ⟨C, hC, wC, rfl⟩, _, rfl, rfl⟩, rfl⟩ := o0
  obtain ⟨n1, rows1, hn1, hrows1, e1⟩ := o1
  obtain rfl := Seg.one.inj (List.cons.inj e1).1
  obtain ⟨LL, hLn, hLw, hLr⟩ := rows_lists hrows1
  have b1 := len_rows a1 m1
  replace a1 : (AV.s (ROWS LL)).rep (rhoW W) v1 := hLr _ _ a1
  obtain ⟨O', hO', wO, e2⟩ := o2
  obtain rfl := Seg.one.inj (List.cons.inj e2).1
  have b2 := len_ints a2 m2
  obtain ⟨O, rfl, hOz⟩ := nats_of (fun i => (wf_u8 (wf_getD wO i)).1)
  rw [zs_len] at b2
  refine (calls_con (once_c M C LL O hM hC (fun i => wf_u8 (wf_getD wC i)) (fun k i => wf_u8 (wf_getD (hLw k).2 i)) (fun k => by have := (wf_u8 (wf_getD wO k)).2; rw [← hOz] at this; omega) (by omega) (by omega)) (args_cons a0 (args_cons a1 (args_cons a2 (args_nil))))).mono fun e W' ⟨he, bel⟩ => ?_
  subst he
  exact ⟨_, rfl, _, _, _, [], _, [], hW', trodAll_mk1 (shut_bool Try.underlying4 _), (trodAll_cons_mk (Below.trod laidOut (by kernel_rfl) (of_decide_eq_true (by kernel_rfl)) h0 bel lt0) (trodAll_cons_mk (Below.trod laidOut (by kernel_rfl) (of_decide_eq_true (by kernel_rfl)) h1 bel lt1) (trodAll_cons_mk (Below.trod laidOut (by kernel_rfl) (of_decide_eq_true (by kernel_rfl)) h2 bel lt2) trodAll_mk0))), rfl, bel.frame _, fun h => by cases h⟩
theorem over : Rows.lanesOnceRow.holds Try.pinned (OpenSpec.ofChange Rows.lanesOnceSpec) :=
  OpenClaim.holds_of_wide 3 Try.f3 rfl rfl rfl rfl rfl rfl rfl ⟨rfl, rfl, rfl, rfl, rfl⟩ rfl rfl rfl rfl rfl (by kernel_rfl) Try.func3 (by kernel_rfl)
    (of_decide_eq_true (by kernel_rfl)) (by unfold Func.isWrapper; first | (rw [if_pos (by decide +kernel)]; kernel_rfl) | (rw [if_neg (by decide +kernel)]; exact ⟨rfl, rfl⟩))
    (fun os started H enc _ => lifted os started H enc)
theorem proved : Rows.LanesOnceSaid := over
end Go.Proofs.Ythjccanlmhbecaa.lanesOnce
namespace Go.Proofs.Ythjccanlmhbecaa
open Go.Proofs.X in
/-- The row, under a short name, for the claim. -/
theorem lanesOnce_holds : Rows.LanesOnceSaid := lanesOnce.proved
end Go.Proofs.Ythjccanlmhbecaa
#print axioms Go.Proofs.Ythjccanlmhbecaa.lanesOnce_holds
