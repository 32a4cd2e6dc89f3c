/- SealsHead holds: what stands ahead tells the lane, and the number; the last sixteen bytes are the first ones of the sum, by the key, of all ahead; between them are the bytes, against the cipher's stream. No conditions. -/
import Derived.Test.YtffflnpidipheaaSealL5
import Derived.Test.YtffflnpidipheaaLift9
import Derived.Test.YtffflnpidipheaaAbD
set_option linter.unusedVariables false
set_option linter.unusedSimpArgs false
namespace Go.Proofs.Ytffflnpidipheaa.sealsHead
open Go Go.Ab Go.Proofs Go.Proofs.X Go.Proofs.X.lift Go.Proofs.Ytffflnpidipheaa
open Go.ChangeShapes Go.WideShapes Go.ChangeAt Go.RowKit
theorem nat_u32 {z : Int} (h : (Lit.int .u32 z).wf = true) : ∃ n : Nat, n < 4294967296 ∧ z = (n : Int) := by
  simp [Lit.wf, IntKind.min, IntKind.max, IntKind.signed, IntKind.bits] at h
  exact ⟨z.toNat, by omega, by omega⟩
theorem nat_u64 {z : Int} (h : (Lit.int .u64 z).wf = true) : ∃ n : Nat, n < 18446744073709551616 ∧ z = (n : Int) := by
  simp [Lit.wf, IntKind.min, IntKind.max, IntKind.signed, IntKind.bits] at h
  exact ⟨z.toNat, by omega, by omega⟩
abbrev rhoL (L : List ((Nat × Nat) × Blk)) : Rho := fun i => (L[i]?).map (·.1)
theorem body13 : ∃ c, Try.f13.body = some c := ⟨_, rfl⟩
theorem walk {w : World} {v0 c0 : Value} {M C : List Int} {l n : Nat} (hM : M.length = 32) (hC : C.length = 16) (hC8 : U8 C) (hl : l < 4294967296) (hn : n < 18446744073709551616) (r0 : ∀ ρ, (AV.agg [.ints .u8 32 M, .ints .u8 16 C, .one (.int .u32 ((l : Nat) : Int)), .one (.int .u64 ((n : Nat) : Int))]).rep ρ v0) (s0 : Sl .u8 w c0) :
    Calls Try.prog 13 #[v0, c0] w fun e w' => e = .returned (.bool true) ∧ Below w.heap.size w w' := by
  obtain ⟨a0, n0, p0, e0⟩ : ∃ a n c, c0 = .slice a n c := by
    rcases s0 with ⟨a, c, h⟩ | ⟨b, o, len, cap, zs, h⟩
    · exact ⟨_, _, _, h⟩
    · exact ⟨_, _, _, h.eq⟩
  obtain ⟨c, hc⟩ := body13
  by_cases hl0 : 2019 < n0
  · subst e0
    exact calls_below (head_big [] M C l n a0 n0 p0 hl0) (args2 (r0 _) (show (AV.s (.val (.slice a0 n0 p0))).rep (fun _ => none) (.slice a0 n0 p0) from ⟨rfl, rfl⟩))
  rcases s0 with ⟨a, cc, h0⟩ | ⟨b, o, len, cap, zs, h0⟩
  · subst h0
    exact calls_walk (args := [AV.agg [.ints .u8 32 M, .ints .u8 16 C, .one (.int .u32 ((l : Nat) : Int)), .one (.int .u64 ((n : Nat) : Int))], .s (.val (.slice a 0 cc))]) (ρ0 := rhoL []) (H0 := []) Try.func13 hc Try.ntmps13 (hrep_list [] (by simp)) (fun _ _ => rfl) (args2 (r0 _) ⟨rfl, rfl⟩) (by simp) (fun W w ρ0 hW hdom => head_v M C l n hM hC hC8 hl hn a cc c hc W w ρ0 hW hdom)
  · have q0 := h0.eq
    have t0 := h0.pos
    have : n0 = len := by rw [q0] at e0; cases e0; rfl
    subst this
    subst q0
    exact calls_walk (args := [AV.agg [.ints .u8 32 M, .ints .u8 16 C, .one (.int .u32 ((l : Nat) : Int)), .one (.int .u64 ((n : Nat) : Int))], .s (.slice 0 0 0 n0 cap)]) (ρ0 := rho1 b o n0 zs) (H0 := [some ⟨false, [.ints .u8 n0 zs]⟩]) Try.func13 hc Try.ntmps13 (hrep1 h0) (fun id h => hdom1 id h) (args2 (r0 _) (cellS rfl).1) (by simp)
      (fun W w ρ0 hW hdom => head_s M C l n hM hC hC8 hl hn n0 cap zs h0.size h0.le t0 (by omega) c hc W w ρ0 hW hdom)
set_option maxRecDepth 100000 in
theorem lifted (os : Os) (started : os.Started) (H : Type) (enc : TypeId × Value → H) :
    ReturnsInHanded {} Try.checked os 13 .any (Rows.sealsHeadSpec.pre6 enc Try.prog Try.f13 Rows.sealsHeadRow.domain false) (Rows.sealsHeadSpec.post enc Try.prog Try.f13 false true false false) := by
  refine returnsInHanded_of_change_sized (C := Try.checked) own started (by kernel_rfl) Try.func13
    (ChangeSpec.witness6 (enc := enc) (C := Try.checked) false ⟨#[], #[.agg ((Array.replicate 48 (.int .u8 0)).push (.int .u32 0) |>.push (.int .u64 0)), .slice none 0 0], []⟩ 64 (by kernel_rfl) (by kernel_rfl) (by kernel_rfl) (by kernel_rfl)) ?_
  intro W base args ds gs before hval0 hW hcnd hsz0 _
  have hval : ∀ (j : Nat) t v, Try.f13.params[j]? = some t → args[j]? = some v → Value.okWide Try.prog W .any base t v := hval0
  have hW' := hW
  obtain ⟨p, q, hA0, hV, rfl, hfz, hnd⟩ := hW
  have hA : DataW.TrodAll enc Try.prog W 0 (fun _ => true) true Try.f13.params.toList args.toList ds p := hA0
  rw [Try.params13] at hA hval
  obtain ⟨v0, vs0, d0, ds0, p0, q0, hargs, rfl, rfl, h0, r0⟩ := trodAll_cons hA
  obtain ⟨v1, vs1, d1, ds1, p1, q1, rfl, rfl, rfl, h1, r1⟩ := trodAll_cons r0
  obtain ⟨rfl, rfl, rfl⟩ := trodAll_nil r1
  obtain rfl : args = #[v0, v1] := by cases args; simp_all
  obtain ⟨rfl, rfl⟩ := trodVars_none hV
  have lt0 : ∀ x ∈ p0, x.block < W.heap.size := by obtain ⟨m, hm⟩ := h0; exact DataW.trod_lt m _ _ _ hm
  have lt1 : ∀ x ∈ p1, x.block < W.heap.size := by obtain ⟨m, hm⟩ := h1; exact DataW.trod_lt m _ _ _ hm
  obtain ⟨M, C, l, n, lM, lC, wM, wC, hwl, hwn, rG⟩ := open_given Try.underlying63 rfl rfl rfl rfl rfl rfl Try.underlying61 Try.underlying40 (by kernel_rfl) (by kernel_rfl) (by kernel_rfl) Try.underlying56 Try.underlying44 Try.underlying22 Try.underlying5 (by kernel_rfl) (by kernel_rfl) (by kernel_rfl) rfl rfl (by kernel_rfl) (hval 0 63 v0 rfl rfl) h0
  obtain ⟨l, hl, rfl⟩ := nat_u32 hwl
  obtain ⟨n, hn, rfl⟩ := nat_u64 hwn
  have s1 := open_sl1 Try.underlying29 Try.underlying5 (by kernel_rfl) (hval 1 29 v1 rfl rfl) h1
  clear hA0 hval0 hsz0
  refine (walk lM lC (U8_of_wf wC) hl hn rG s1).mono fun e W' ⟨he, bel⟩ => ?_
  subst he
  exact ⟨_, rfl, _, _, _, [], _, [], hW', trodAll_mk1 (shut_bool Try.underlying4 _), (trodAll_cons_mk (Below.trod laidOut (by kernel_rfl) (of_decide_eq_true (by kernel_rfl)) h0 bel lt0) (trodAll_cons_mk (Below.trod laidOut (by kernel_rfl) (of_decide_eq_true (by kernel_rfl)) h1 bel lt1) trodAll_mk0)), rfl, bel.frame _, fun h => by cases h⟩
theorem over : Rows.sealsHeadRow.holds Try.pinned (OpenSpec.ofChange Rows.sealsHeadSpec) :=
  OpenClaim.holds_of_wide 13 Try.f13 rfl rfl rfl rfl rfl rfl rfl ⟨rfl, rfl, rfl, rfl, rfl⟩ rfl rfl rfl rfl rfl (by kernel_rfl) Try.func13 (by kernel_rfl)
    (of_decide_eq_true (by kernel_rfl)) (by unfold Func.isWrapper; first | (rw [if_pos (by decide +kernel)]; kernel_rfl) | (rw [if_neg (by decide +kernel)]; exact ⟨rfl, rfl⟩))
    (fun os started H enc _ => lifted os started H enc)
theorem proved : Rows.SealsHeadSaid := over
end Go.Proofs.Ytffflnpidipheaa.sealsHead
namespace Go.Proofs.Ytffflnpidipheaa
/-- The row, under a short name, for the claim. -/
theorem sealsHead_holds : Rows.SealsHeadSaid := sealsHead.proved
end Go.Proofs.Ytffflnpidipheaa
#print axioms Go.Proofs.Ytffflnpidipheaa.sealsHead_holds
