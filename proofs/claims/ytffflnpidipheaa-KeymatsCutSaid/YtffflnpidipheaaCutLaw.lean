/- KeymatsCut holds: keys are the bytes at their places, and no others: what stands elsewhere makes no difference. No conditions. -/
import Derived.Test.YtffflnpidipheaaKeyL4
import Derived.Test.YtffflnpidipheaaLift9
import Derived.Test.YtffflnpidipheaaAb27
namespace Go.Proofs.Ytffflnpidipheaa.keymatsCut
open Go Go.Ab Go.Proofs Go.Proofs.X Go.Proofs.X.lift Go.Proofs.Ytffflnpidipheaa
open Go.ChangeShapes Go.WideShapes Go.ChangeAt Go.RowKit
theorem nat_u8 {z : Int} (h : (Lit.int .u8 z).wf = true) : ∃ n : Nat, n < 256 ∧ z = (n : Int) := by
  simp [Lit.wf, IntKind.min, IntKind.max, IntKind.signed, IntKind.bits] at h
  exact ⟨z.toNat, by omega, by omega⟩
theorem rep_four {ρ : Rho} {a b c d : SV} {u v x y : Value} (h0 : a.cell ρ u) (h1 : b.cell ρ v) (h2 : c.cell ρ x) (h3 : d.cell ρ y) : (AV.agg [.one a, .one b, .one c, .one d]).rep ρ (.agg #[u, v, x, y]) :=
  rep_cons_one h0 (rep_cons_one h1 (rep_cons_one h2 (rep_cons_one h3 rep_nil_agg)))
theorem body10 : ∃ c, Try.f10.body = some c := ⟨_, rfl⟩
theorem walk {w : World} {c0 : Value} {pl at_ v : Nat} (hpl : pl < 256) (hat : at_ < 65536) (hv : v < 256) (s0 : Sl .u8 w c0) :
    Calls Try.prog 10 #[.agg #[c0, .int .u8 pl, .int .u16 at_, .int .u8 v]] w fun e w' => e = .returned (.bool true) ∧ Below w.heap.size w w' := by
  obtain ⟨a0, n0, p0, e0⟩ : ∃ a n c, c0 = .slice a n c := by
    rcases s0 with ⟨a, c, h⟩ | ⟨b, o, len, cap, zs, h⟩
    · exact ⟨_, _, _, h⟩
    · exact ⟨_, _, _, h.eq⟩
  obtain ⟨c, hc⟩ := body10
  by_cases hl0 : 2000 < n0
  · subst e0
    exact calls_below (cut_l [] a0 n0 p0 pl at_ v hpl hl0) (args1 (rep_four (cellV ..) (cellI ..) (cellI ..) (cellI ..)))
  by_cases hl1 : n0 < 48 * (pl % 8) + 48
  · subst e0
    exact calls_below (cut_x [] a0 n0 p0 pl at_ v hpl (by omega) hl1) (args1 (rep_four (cellV ..) (cellI ..) (cellI ..) (cellI ..)))
  rcases s0 with ⟨a, cc, h0⟩ | ⟨b, o, len, cap, zs, h0⟩
  · rw [h0] at e0; cases e0; omega
  · have q0 := h0.eq
    have : n0 = len := by rw [q0] at e0; cases e0; rfl
    subst this
    subst q0
    exact calls_walk (args := [.agg [.one (.slice 0 0 0 n0 cap), .one (.int .u8 ((pl : Nat) : Int)), .one (.int .u16 ((at_ : Nat) : Int)), .one (.int .u8 ((v : Nat) : Int))]]) (ρ0 := rho1 b o n0 zs) (H0 := [some ⟨false, [.ints .u8 n0 zs]⟩]) Try.func10 hc Try.ntmps10 (hrep1 h0) (fun id h => hdom1 id h) (args1 (rep_four (cellS rfl) (cellI ..) (cellI ..) (cellI ..))) (by simp)
      (fun W w ρ0 hW hdom => cut_s zs n0 cap pl at_ v (at_ % n0) (U8_of_wf h0.wf) h0.size h0.le hpl hat hv (by omega) (by omega) rfl c hc W w ρ0 hW hdom)
set_option maxRecDepth 100000 in
theorem lifted (os : Os) (started : os.Started) (H : Type) (enc : TypeId × Value → H) :
    ReturnsInHanded {} Try.checked os 10 .any (Rows.keymatsCutSpec.pre6 enc Try.prog Try.f10 Rows.keymatsCutRow.domain false) (Rows.keymatsCutSpec.post enc Try.prog Try.f10 false true false false) := by
  refine returnsInHanded_of_change_sized (C := Try.checked) own started (by kernel_rfl) Try.func10
    (ChangeSpec.witness6 (enc := enc) (C := Try.checked) false ⟨#[], #[.agg #[.slice none 0 0, .int .u8 0, .int .u16 0, .int .u8 0]], []⟩ 64 (by kernel_rfl) (by kernel_rfl) (by kernel_rfl) (by kernel_rfl)) ?_
  intro W base args ds gs before hval0 hW hcnd hsz0 _
  have hval : ∀ (j : Nat) t v, Try.f10.params[j]? = some t → args[j]? = some v → Value.okWide Try.prog W .any base t v := hval0
  have hW' := hW
  obtain ⟨p, q, hA0, hV, rfl, hfz, hnd⟩ := hW
  have hA : DataW.TrodAll enc Try.prog W 0 (fun _ => true) true Try.f10.params.toList args.toList ds p := hA0
  rw [Try.params10] at hA hval
  obtain ⟨v0, vs0, d0, ds0, p0, q0, hargs, rfl, rfl, h0, r0⟩ := trodAll_cons hA
  obtain ⟨rfl, rfl, rfl⟩ := trodAll_nil r0
  obtain rfl : args = #[v0] := by cases args; simp_all
  obtain ⟨rfl, rfl⟩ := trodVars_none hV
  have lt0 : ∀ x ∈ p0, x.block < W.heap.size := by obtain ⟨m, hm⟩ := h0; exact DataW.trod_lt m _ _ _ hm
  obtain ⟨c0, z1, z2, z3, e0, s0, w1, w2, w3⟩ := open_cuts Try.underlying54 rfl rfl rfl rfl rfl rfl rfl rfl Try.underlying29 Try.underlying5 Try.underlying5 Try.underlying30 Try.underlying5 (by kernel_rfl) (by kernel_rfl) (by kernel_rfl) (by kernel_rfl) (by kernel_rfl) (by kernel_rfl) (hval 0 54 v0 rfl rfl) h0
  obtain ⟨pl, hpl, rfl⟩ := nat_u8 w1
  obtain ⟨at_, hat, rfl⟩ := nat_u16 w2
  obtain ⟨v, hv, rfl⟩ := nat_u8 w3
  subst e0
  clear hA0 hval0 hsz0
  refine (walk hpl hat hv s0).mono fun e W' ⟨he, bel⟩ => ?_
  subst he
  exact ⟨_, rfl, _, _, _, [], _, [], hW', trodAll_mk1 (shut_bool Try.underlying4 _), (trodAll_cons_mk (Below.trod laidOut (by kernel_rfl) (of_decide_eq_true (by kernel_rfl)) h0 bel lt0) trodAll_mk0), rfl, bel.frame _, fun h => by cases h⟩
theorem over : Rows.keymatsCutRow.holds Try.pinned (OpenSpec.ofChange Rows.keymatsCutSpec) :=
  OpenClaim.holds_of_wide 10 Try.f10 rfl rfl rfl rfl rfl rfl rfl ⟨rfl, rfl, rfl, rfl, rfl⟩ rfl rfl rfl rfl rfl (by kernel_rfl) Try.func10 (by kernel_rfl)
    (of_decide_eq_true (by kernel_rfl)) (by unfold Func.isWrapper; first | (rw [if_pos (by decide +kernel)]; kernel_rfl) | (rw [if_neg (by decide +kernel)]; exact ⟨rfl, rfl⟩))
    (fun os started H enc _ => lifted os started H enc)
theorem proved : Rows.KeymatsCutSaid := over
end Go.Proofs.Ytffflnpidipheaa.keymatsCut
namespace Go.Proofs.Ytffflnpidipheaa
/-- The row, under a short name, for the claim. -/
theorem keymatsCut_holds : Rows.KeymatsCutSaid := keymatsCut.proved
end Go.Proofs.Ytffflnpidipheaa
#print axioms Go.Proofs.Ytffflnpidipheaa.keymatsCut_holds
