/- SealsOpen holds: whatever is opened was sealed so: its lane, number and bytes, sealed by these keys, are it. No conditions. -/
import Derived.Test.YtffflnpidipheaaSealL3
import Derived.Test.YtffflnpidipheaaLift9
import Derived.Test.YtffflnpidipheaaAbD
set_option linter.unusedVariables false
set_option linter.unusedSimpArgs false
namespace Go.Proofs.Ytffflnpidipheaa.sealsOpen
open Go Go.Ab Go.Proofs Go.Proofs.X Go.Proofs.X.lift Go.Proofs.Ytffflnpidipheaa
open Go.ChangeShapes Go.WideShapes Go.ChangeAt Go.RowKit
theorem body14 : ∃ c, Try.f14.body = some c := ⟨_, rfl⟩
theorem repV (a : Option Addr) (n c : Nat) : (AV.s (.val (.slice a n c))).rep (fun _ => none) (.slice a n c) := ⟨rfl, rfl⟩
theorem walk {w : World} {v0 c0 : Value} {M C : List Int} (hM : M.length = 32) (hC : C.length = 16) (hC8 : U8 C) (r0 : ∀ ρ, (AV.agg [.ints .u8 32 M, .ints .u8 16 C]).rep ρ v0) (s0 : Sl .u8 w c0) :
    Calls Try.prog 14 #[v0, c0] w fun e w' => e = .returned (.bool true) ∧ Below w.heap.size w w' := by
  obtain ⟨a0, n0, p0, e0⟩ : ∃ a n c, c0 = .slice a n c := by
    rcases s0 with ⟨a, c, h⟩ | ⟨b, o, len, cap, zs, h⟩
    · exact ⟨_, _, _, h⟩
    · exact ⟨_, _, _, h.eq⟩
  obtain ⟨c, hc⟩ := body14
  by_cases hl0 : 5000 < n0
  · subst e0
    exact calls_below (op_huge [] M C a0 n0 p0 hl0) (args2 (r0 _) (repV ..))
  by_cases hl1 : 2048 < n0
  · subst e0
    exact calls_below (op_long [] M C a0 n0 p0 (by omega) hl1) (args2 (r0 _) (repV ..))
  by_cases hl2 : n0 < 29
  · subst e0
    exact calls_below (op_short [] M C a0 n0 p0 hl2) (args2 (r0 _) (repV ..))
  rcases s0 with ⟨a, cc, h0⟩ | ⟨b, o, len, cap, zs, h0⟩
  · rw [h0] at e0; cases e0; omega
  · have q0 := h0.eq
    have : n0 = len := by rw [q0] at e0; cases e0; rfl
    subst this
    subst q0
    obtain ⟨m, rfl⟩ : ∃ m, n0 = 29 + m := ⟨n0 - 29, by omega⟩
    have h8 := U8_of_wf h0.wf
    by_cases h9 : zs.getD 0 0 = 9
    · by_cases hm : mo (((sMac M zs (13 + m)).drop 0).take 16) ((zs.drop (13 + m)).take 16) 16 = 0
      · rcases Nat.eq_zero_or_pos m with hz | hz
        · exact calls_walk (args := [AV.agg [.ints .u8 32 M, .ints .u8 16 C], .s (.slice 0 0 0 (29 + m) cap)]) (ρ0 := rho1 b o (29 + m) zs) (H0 := [some ⟨false, [.ints .u8 (29 + m) zs]⟩]) Try.func14 hc Try.ntmps14 (hrep1 h0) (fun id h => hdom1 id h) (args2 (r0 _) (cellS rfl).1) (by simp) (fun W w ρ0 hW hdom => op_ok0 M C zs m cap hM hC hC8 h8 h0.size h0.le (by omega) h9 hm hz c hc W w ρ0 hW hdom)
        · exact calls_walk (args := [AV.agg [.ints .u8 32 M, .ints .u8 16 C], .s (.slice 0 0 0 (29 + m) cap)]) (ρ0 := rho1 b o (29 + m) zs) (H0 := [some ⟨false, [.ints .u8 (29 + m) zs]⟩]) Try.func14 hc Try.ntmps14 (hrep1 h0) (fun id h => hdom1 id h) (args2 (r0 _) (cellS rfl).1) (by simp) (fun W w ρ0 hW hdom => op_ok M C zs m cap hM hC hC8 h8 h0.size h0.le (by omega) h9 hm hz c hc W w ρ0 hW hdom)
      · exact calls_walk (args := [AV.agg [.ints .u8 32 M, .ints .u8 16 C], .s (.slice 0 0 0 (29 + m) cap)]) (ρ0 := rho1 b o (29 + m) zs) (H0 := [some ⟨false, [.ints .u8 (29 + m) zs]⟩]) Try.func14 hc Try.ntmps14 (hrep1 h0) (fun id h => hdom1 id h) (args2 (r0 _) (cellS rfl).1) (by simp) (fun W w ρ0 hW hdom => op_bad M C zs m cap hM hC hC8 h8 h0.size h0.le (by omega) h9 hm c hc W w ρ0 hW hdom)
    · exact calls_walk (args := [AV.agg [.ints .u8 32 M, .ints .u8 16 C], .s (.slice 0 0 0 (29 + m) cap)]) (ρ0 := rho1 b o (29 + m) zs) (H0 := [some ⟨false, [.ints .u8 (29 + m) zs]⟩]) Try.func14 hc Try.ntmps14 (hrep1 h0) (fun id h => hdom1 id h) (args2 (r0 _) (cellS rfl).1) (by simp) (fun W w ρ0 hW hdom => op_form M C zs m cap hM hC hC8 h8 h0.size h0.le (by omega) h9 c hc W w ρ0 hW hdom)
set_option maxRecDepth 100000 in
theorem lifted (os : Os) (started : os.Started) (H : Type) (enc : TypeId × Value → H) :
    ReturnsInHanded {} Try.checked os 14 .any (Rows.sealsOpenSpec.pre6 enc Try.prog Try.f14 Rows.sealsOpenRow.domain false) (Rows.sealsOpenSpec.post enc Try.prog Try.f14 false true false false) := by
  refine returnsInHanded_of_change_sized (C := Try.checked) own started (by kernel_rfl) Try.func14
    (ChangeSpec.witness6 (enc := enc) (C := Try.checked) false ⟨#[], #[.agg (Array.replicate 48 (.int .u8 0)), .slice none 0 0], []⟩ 64 (by kernel_rfl) (by kernel_rfl) (by kernel_rfl) (by kernel_rfl)) ?_
  intro W base args ds gs before hval0 hW hcnd hsz0 _
  have hval : ∀ (j : Nat) t v, Try.f14.params[j]? = some t → args[j]? = some v → Value.okWide Try.prog W .any base t v := hval0
  have hW' := hW
  obtain ⟨p, q, hA0, hV, rfl, hfz, hnd⟩ := hW
  have hA : DataW.TrodAll enc Try.prog W 0 (fun _ => true) true Try.f14.params.toList args.toList ds p := hA0
  rw [Try.params14] at hA hval
  obtain ⟨v0, vs0, d0, ds0, p0, q0, hargs, rfl, rfl, h0, r0⟩ := trodAll_cons hA
  obtain ⟨v1, vs1, d1, ds1, p1, q1, rfl, rfl, rfl, h1, r1⟩ := trodAll_cons r0
  obtain ⟨rfl, rfl, rfl⟩ := trodAll_nil r1
  obtain rfl : args = #[v0, v1] := by cases args; simp_all
  obtain ⟨rfl, rfl⟩ := trodVars_none hV
  have lt0 : ∀ x ∈ p0, x.block < W.heap.size := by obtain ⟨m, hm⟩ := h0; exact DataW.trod_lt m _ _ _ hm
  have lt1 : ∀ x ∈ p1, x.block < W.heap.size := by obtain ⟨m, hm⟩ := h1; exact DataW.trod_lt m _ _ _ hm
  obtain ⟨M, C, lM, lC, wM, wC, rK⟩ := open_keys Try.underlying56 Try.underlying44 Try.underlying22 Try.underlying5 (by kernel_rfl) (by kernel_rfl) (by kernel_rfl) rfl rfl (by kernel_rfl) (hval 0 56 v0 rfl rfl) h0
  have s1 := open_sl1 Try.underlying29 Try.underlying5 (by kernel_rfl) (hval 1 29 v1 rfl rfl) h1
  clear hA0 hval0 hsz0
  refine (walk lM lC (U8_of_wf wC) rK s1).mono fun e W' ⟨he, bel⟩ => ?_
  subst he
  exact ⟨_, rfl, _, _, _, [], _, [], hW', trodAll_mk1 (shut_bool Try.underlying4 _), (trodAll_cons_mk (Below.trod laidOut (by kernel_rfl) (of_decide_eq_true (by kernel_rfl)) h0 bel lt0) (trodAll_cons_mk (Below.trod laidOut (by kernel_rfl) (of_decide_eq_true (by kernel_rfl)) h1 bel lt1) trodAll_mk0)), rfl, bel.frame _, fun h => by cases h⟩
theorem over : Rows.sealsOpenRow.holds Try.pinned (OpenSpec.ofChange Rows.sealsOpenSpec) :=
  OpenClaim.holds_of_wide 14 Try.f14 rfl rfl rfl rfl rfl rfl rfl ⟨rfl, rfl, rfl, rfl, rfl⟩ rfl rfl rfl rfl rfl (by kernel_rfl) Try.func14 (by kernel_rfl)
    (of_decide_eq_true (by kernel_rfl)) (by unfold Func.isWrapper; first | (rw [if_pos (by decide +kernel)]; kernel_rfl) | (rw [if_neg (by decide +kernel)]; exact ⟨rfl, rfl⟩))
    (fun os started H enc _ => lifted os started H enc)
theorem proved : Rows.SealsOpenSaid := over
end Go.Proofs.Ytffflnpidipheaa.sealsOpen
namespace Go.Proofs.Ytffflnpidipheaa
/-- The row, under a short name, for the claim. -/
theorem sealsOpen_holds : Rows.SealsOpenSaid := sealsOpen.proved
end Go.Proofs.Ytffflnpidipheaa
#print axioms Go.Proofs.Ytffflnpidipheaa.sealsOpen_holds
