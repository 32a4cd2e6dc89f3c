/- LanesFull holds: of a lane as many numbers are used as may be, and no more; what is refused uses none. No conditions. -/
import Derived.Test.YtffflnpidipheaaLaneL2
import Derived.Test.YtffflnpidipheaaLift9
import Derived.Test.YtffflnpidipheaaAbD
set_option linter.unusedVariables false
set_option linter.unusedSimpArgs false
namespace Go.Proofs.Ytffflnpidipheaa.lanesFull
open Go Go.Ab Go.Proofs Go.Proofs.X Go.Proofs.X.lift Go.Proofs.Ytffflnpidipheaa
open Go.ChangeShapes Go.WideShapes Go.ChangeAt Go.RowKit
theorem nat_u8 {z : Int} (h : (Lit.int .u8 z).wf = true) : ∃ n : Nat, n < 256 ∧ z = (n : Int) := by
  simp [Lit.wf, IntKind.min, IntKind.max, IntKind.signed, IntKind.bits] at h
  exact ⟨z.toNat, by omega, by omega⟩
abbrev rhoL (L : List ((Nat × Nat) × Blk)) : Rho := fun i => (L[i]?).map (·.1)
theorem body18 : ∃ c, Try.f18.body = some c := ⟨_, rfl⟩
theorem walk {w : World} {v0 c0 : Value} {M C : List Int} {mm : Nat} (hM : M.length = 32) (hC : C.length = 16) (hC8 : U8 C) (hmm : mm < 256) (r0 : ∀ ρ, (AV.agg [.ints .u8 32 M, .ints .u8 16 C]).rep ρ v0) (s0 : Sl .u8 w c0) :
    Calls Try.prog 18 #[v0, c0, .int .u8 ((mm : Nat) : Int)] w fun e w' => e = .returned (.bool true) ∧ Below w.heap.size w w' := by
  obtain ⟨a0, n0, p0, e0⟩ : ∃ a n c, c0 = .slice a n c := by
    rcases s0 with ⟨a, c, h⟩ | ⟨b, o, len, cap, zs, h⟩
    · exact ⟨_, _, _, h⟩
    · exact ⟨_, _, _, h.eq⟩
  obtain ⟨c, hc⟩ := body18
  by_cases hl0 : 3000 < n0
  · subst e0
    exact calls_walk (args := [AV.agg [.ints .u8 32 M, .ints .u8 16 C], .s (.val (.slice a0 n0 p0)), .s (.int .u8 ((mm : Nat) : Int))]) (ρ0 := rhoL []) (H0 := []) Try.func18 hc Try.ntmps18 (hrep_list [] (by simp)) (fun _ _ => rfl) (args3 (r0 _) ⟨rfl, rfl⟩ rfl) (by simp) (fun W w ρ0 hW hdom => full_h M C hM hC hC8 mm (mm % 100) hmm rfl a0 n0 p0 hl0 c hc W w ρ0 hW hdom)
  by_cases hl1 : 2019 < n0
  · subst e0
    exact calls_walk (args := [AV.agg [.ints .u8 32 M, .ints .u8 16 C], .s (.val (.slice a0 n0 p0)), .s (.int .u8 ((mm : Nat) : Int))]) (ρ0 := rhoL []) (H0 := []) Try.func18 hc Try.ntmps18 (hrep_list [] (by simp)) (fun _ _ => rfl) (args3 (r0 _) ⟨rfl, rfl⟩ rfl) (by simp) (fun W w ρ0 hW hdom => full_b M C hM hC hC8 mm (mm % 100) hmm rfl a0 n0 p0 hl1 (by omega) c hc W w ρ0 hW hdom)
  rcases s0 with ⟨a, cc, h0⟩ | ⟨b, o, len, cap, zs, h0⟩
  · subst h0
    exact calls_walk (args := [AV.agg [.ints .u8 32 M, .ints .u8 16 C], .s (.val (.slice a 0 cc)), .s (.int .u8 ((mm : Nat) : Int))]) (ρ0 := rhoL []) (H0 := []) Try.func18 hc Try.ntmps18 (hrep_list [] (by simp)) (fun _ _ => rfl) (args3 (r0 _) ⟨rfl, rfl⟩ rfl) (by simp) (fun W w ρ0 hW hdom => full_v M C hM hC hC8 mm (mm % 100) hmm rfl a cc c hc W w ρ0 hW hdom)
  · have q0 := h0.eq
    have t0 := h0.pos
    have : n0 = len := by rw [q0] at e0; cases e0; rfl
    subst this
    subst q0
    exact calls_walk (args := [AV.agg [.ints .u8 32 M, .ints .u8 16 C], .s (.slice 0 0 0 n0 cap), .s (.int .u8 ((mm : Nat) : Int))]) (ρ0 := rho1 b o n0 zs) (H0 := [some ⟨false, [.ints .u8 n0 zs]⟩]) Try.func18 hc Try.ntmps18 (hrep1 h0) (fun id h => hdom1 id h) (args3 (r0 _) (cellS rfl).1 rfl) (by simp) (fun W w ρ0 hW hdom => full_s M C hM hC hC8 mm (mm % 100) hmm rfl n0 cap zs (U8_of_wf h0.wf) h0.size h0.le t0 (by omega) c hc W w ρ0 hW hdom)
set_option maxRecDepth 100000 in
theorem lifted (os : Os) (started : os.Started) (H : Type) (enc : TypeId × Value → H) :
    ReturnsInHanded {} Try.checked os 18 .any (Rows.lanesFullSpec.pre6 enc Try.prog Try.f18 Rows.lanesFullRow.domain false) (Rows.lanesFullSpec.post enc Try.prog Try.f18 false true false false) := by
  refine returnsInHanded_of_change_sized (C := Try.checked) own started (by kernel_rfl) Try.func18
    (ChangeSpec.witness6 (enc := enc) (C := Try.checked) false ⟨#[], #[.agg (Array.replicate 48 (.int .u8 0)), .slice none 0 0, .int .u8 0], []⟩ 64 (by kernel_rfl) (by kernel_rfl) (by kernel_rfl) (by kernel_rfl)) ?_
  intro W base args ds gs before hval0 hW hcnd hsz0 _
  have hval : ∀ (j : Nat) t v, Try.f18.params[j]? = some t → args[j]? = some v → Value.okWide Try.prog W .any base t v := hval0
  have hW' := hW
  obtain ⟨p, q, hA0, hV, rfl, hfz, hnd⟩ := hW
  have hA : DataW.TrodAll enc Try.prog W 0 (fun _ => true) true Try.f18.params.toList args.toList ds p := hA0
  rw [Try.params18] at hA hval
  obtain ⟨v0, vs0, d0, ds0, p0, q0, hargs, rfl, rfl, h0, r0⟩ := trodAll_cons hA
  obtain ⟨v1, vs1, d1, ds1, p1, q1, rfl, rfl, rfl, h1, r1⟩ := trodAll_cons r0
  obtain ⟨v2, vs2, d2, ds2, p2, q2, rfl, rfl, rfl, h2, r2⟩ := trodAll_cons r1
  obtain ⟨rfl, rfl, rfl⟩ := trodAll_nil r2
  obtain rfl : args = #[v0, v1, v2] := by cases args; simp_all
  obtain ⟨rfl, rfl⟩ := trodVars_none hV
  have lt0 : ∀ x ∈ p0, x.block < W.heap.size := by obtain ⟨m, hm⟩ := h0; exact DataW.trod_lt m _ _ _ hm
  have lt1 : ∀ x ∈ p1, x.block < W.heap.size := by obtain ⟨m, hm⟩ := h1; exact DataW.trod_lt m _ _ _ hm
  have lt2 : ∀ x ∈ p2, x.block < W.heap.size := by obtain ⟨m, hm⟩ := h2; exact DataW.trod_lt m _ _ _ hm
  obtain ⟨M, C, lM, lC, wM, wC, rK⟩ := open_keys Try.underlying56 Try.underlying44 Try.underlying22 Try.underlying5 (by kernel_rfl) (by kernel_rfl) (by kernel_rfl) rfl rfl (by kernel_rfl) (hval 0 56 v0 rfl rfl) h0
  have s1 := open_sl1 Try.underlying29 Try.underlying5 (by kernel_rfl) (hval 1 29 v1 rfl rfl) h1
  obtain ⟨z2, e2, w2⟩ := Ab.open_int Try.underlying5 (hval 2 5 v2 rfl rfl) h2
  obtain ⟨mm, hmm, rfl⟩ := nat_u8 w2
  subst e2
  clear hA0 hval0 hsz0
  refine (walk lM lC (U8_of_wf wC) hmm rK s1).mono fun e W' ⟨he, bel⟩ => ?_
  subst he
  exact ⟨_, rfl, _, _, _, [], _, [], hW', trodAll_mk1 (shut_bool Try.underlying4 _), (trodAll_cons_mk (Below.trod laidOut (by kernel_rfl) (of_decide_eq_true (by kernel_rfl)) h0 bel lt0) (trodAll_cons_mk (Below.trod laidOut (by kernel_rfl) (of_decide_eq_true (by kernel_rfl)) h1 bel lt1) (trodAll_cons_mk (Below.trod laidOut (by kernel_rfl) (of_decide_eq_true (by kernel_rfl)) h2 bel lt2) trodAll_mk0))), rfl, bel.frame _, fun h => by cases h⟩
theorem over : Rows.lanesFullRow.holds Try.pinned (OpenSpec.ofChange Rows.lanesFullSpec) :=
  OpenClaim.holds_of_wide 18 Try.f18 rfl rfl rfl rfl rfl rfl rfl ⟨rfl, rfl, rfl, rfl, rfl⟩ rfl rfl rfl rfl rfl (by kernel_rfl) Try.func18 (by kernel_rfl)
    (of_decide_eq_true (by kernel_rfl)) (by unfold Func.isWrapper; first | (rw [if_pos (by decide +kernel)]; kernel_rfl) | (rw [if_neg (by decide +kernel)]; exact ⟨rfl, rfl⟩))
    (fun os started H enc _ => lifted os started H enc)
theorem proved : Rows.LanesFullSaid := over
end Go.Proofs.Ytffflnpidipheaa.lanesFull
namespace Go.Proofs.Ytffflnpidipheaa
/-- The row, under a short name, for the claim. -/
theorem lanesFull_holds : Rows.LanesFullSaid := lanesFull.proved
end Go.Proofs.Ytffflnpidipheaa
#print axioms Go.Proofs.Ytffflnpidipheaa.lanesFull_holds
