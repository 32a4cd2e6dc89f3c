/- CiphersOn holds: from the sixteenth byte on a stream goes on as from the next first number; its first sixteen bytes are against Block of the first one. No conditions. -/
import Derived.Test.YtffflnpidipheaaAesL6
import Derived.Test.YtffflnpidipheaaLift9
namespace Go.Proofs.Ytffflnpidipheaa.ciphersOn
open Go Go.Ab Go.Proofs Go.Proofs.X Go.Proofs.X.lift Go.Proofs.Ytffflnpidipheaa
open Go.ChangeShapes Go.WideShapes Go.ChangeAt Go.RowKit
theorem body6 : ∃ c, Try.f6.body = some c := ⟨_, rfl⟩
theorem walk {w : World} {v0 v1 c0 : Value} {key first : List Int} (hk : key.length = 16) (huk : U8 key) (hf : first.length = 16) (huf : U8 first) (r0 : ∀ ρ, (AV.agg [.ints .u8 16 key]).rep ρ v0) (r1 : ∀ ρ, (AV.agg [.ints .u8 16 first]).rep ρ v1) (s0 : Sl .u8 w c0) :
    Calls Try.prog 6 #[v0, v1, c0] w fun e w' => e = .returned (.bool true) ∧ Below w.heap.size w w' := by
  obtain ⟨a0, n0, p0, e0⟩ : ∃ a n c, c0 = .slice a n c := by
    rcases s0 with ⟨a, c, h⟩ | ⟨b, o, len, cap, zs, h⟩
    · exact ⟨_, _, _, h⟩
    · exact ⟨_, _, _, h.eq⟩
  obtain ⟨c, hc⟩ := body6
  by_cases hl0 : 3000 < n0
  · subst e0
    exact calls_below (on_l key first a0 n0 p0 hl0 []) (args3 (r0 _) (r1 _) (show (AV.s (.val (.slice a0 n0 p0))).rep (fun _ => none) (.slice a0 n0 p0) from ⟨rfl, rfl⟩))
  by_cases hl1 : n0 < 16
  · subst e0
    exact calls_below (on_x key first a0 n0 p0 hl1 []) (args3 (r0 _) (r1 _) (show (AV.s (.val (.slice a0 n0 p0))).rep (fun _ => none) (.slice a0 n0 p0) from ⟨rfl, rfl⟩))
  rcases s0 with ⟨a, cc, h0⟩ | ⟨b, o, len, cap, zs, h0⟩
  · rw [h0] at e0; cases e0; omega
  · have q0 := h0.eq
    have : n0 = len := by rw [q0] at e0; cases e0; rfl
    subst q0
    exact calls_walk (args := [.agg [.ints .u8 16 key], .agg [.ints .u8 16 first], .s (.slice 0 0 0 len cap)]) (ρ0 := rho1 b o len zs) (H0 := [some ⟨false, [.ints .u8 len zs]⟩]) Try.func6 hc Try.ntmps6 (hrep1 h0) (fun id h => hdom1 id h) (args3 (r0 _) (r1 _) (cellS rfl).1) (by simp)
      (fun W w ρ0 hW hdom => on_s key first zs _ _ hk huk hf huf len cap (by omega) (by omega) h0.le h0.size rfl rfl c hc W w ρ0 hW hdom)
set_option maxRecDepth 100000 in
theorem lifted (os : Os) (started : os.Started) (H : Type) (enc : TypeId × Value → H) :
    ReturnsInHanded {} Try.checked os 6 .any (Rows.ciphersOnSpec.pre6 enc Try.prog Try.f6 Rows.ciphersOnRow.domain false) (Rows.ciphersOnSpec.post enc Try.prog Try.f6 false true false false) := by
  refine returnsInHanded_of_change_sized (C := Try.checked) own started (by kernel_rfl) Try.func6
    (ChangeSpec.witness6 (enc := enc) (C := Try.checked) false ⟨#[], #[.agg (Array.replicate 16 (.int .u8 0)), .agg (Array.replicate 16 (.int .u8 0)), .slice none 0 0], []⟩ 64 (by kernel_rfl) (by kernel_rfl) (by kernel_rfl) (by kernel_rfl)) ?_
  intro W base args ds gs before hval0 hW hcnd hsz0 _
  have hval : ∀ (j : Nat) t v, Try.f6.params[j]? = some t → args[j]? = some v → Value.okWide Try.prog W .any base t v := hval0
  have hW' := hW
  obtain ⟨p, q, hA0, hV, rfl, hfz, hnd⟩ := hW
  have hA : DataW.TrodAll enc Try.prog W 0 (fun _ => true) true Try.f6.params.toList args.toList ds p := hA0
  rw [Try.params6] at hA hval
  obtain ⟨v0, vs0, d0, ds0, p0, q0, hargs, rfl, rfl, h0, r0⟩ := trodAll_cons hA
  obtain ⟨v1, vs1, d1, ds1, p1, q1, rfl, rfl, rfl, h1, r1⟩ := trodAll_cons r0
  obtain ⟨v2, vs2, d2, ds2, p2, q2, rfl, rfl, rfl, h2, r2⟩ := trodAll_cons r1
  obtain ⟨rfl, rfl, rfl⟩ := trodAll_nil r2
  obtain rfl : args = #[v0, v1, v2] := by cases args; simp_all
  obtain ⟨rfl, rfl⟩ := trodVars_none hV
  have lt0 : ∀ x ∈ p0, x.block < W.heap.size := by obtain ⟨m, hm⟩ := h0; exact DataW.trod_lt m _ _ _ hm
  have lt1 : ∀ x ∈ p1, x.block < W.heap.size := by obtain ⟨m, hm⟩ := h1; exact DataW.trod_lt m _ _ _ hm
  have lt2 : ∀ x ∈ p2, x.block < W.heap.size := by obtain ⟨m, hm⟩ := h2; exact DataW.trod_lt m _ _ _ hm
  obtain ⟨key, lkey, wkey, rkey⟩ := open_arr Try.underlying22 Try.underlying5 (by kernel_rfl) (by kernel_rfl) (hval 0 22 v0 rfl rfl) h0
  obtain ⟨first, lfirst, wfirst, rfirst⟩ := open_arr Try.underlying22 Try.underlying5 (by kernel_rfl) (by kernel_rfl) (hval 1 22 v1 rfl rfl) h1
  have s0 := open_sl1 Try.underlying29 Try.underlying5 (by kernel_rfl) (hval 2 29 v2 rfl rfl) h2
  clear hA0 hval0 hsz0
  refine (walk lkey (U8_of_wf wkey) lfirst (U8_of_wf wfirst) rkey rfirst s0).mono fun e W' ⟨he, bel⟩ => ?_
  subst he
  exact ⟨_, rfl, _, _, _, [], _, [], hW', trodAll_mk1 (shut_bool Try.underlying4 _), (trodAll_cons_mk (Below.trod laidOut (by kernel_rfl) (of_decide_eq_true (by kernel_rfl)) h0 bel lt0) (trodAll_cons_mk (Below.trod laidOut (by kernel_rfl) (of_decide_eq_true (by kernel_rfl)) h1 bel lt1) (trodAll_cons_mk (Below.trod laidOut (by kernel_rfl) (of_decide_eq_true (by kernel_rfl)) h2 bel lt2) trodAll_mk0))), rfl, bel.frame _, fun h => by cases h⟩
theorem over : Rows.ciphersOnRow.holds Try.pinned (OpenSpec.ofChange Rows.ciphersOnSpec) :=
  OpenClaim.holds_of_wide 6 Try.f6 rfl rfl rfl rfl rfl rfl rfl ⟨rfl, rfl, rfl, rfl, rfl⟩ rfl rfl rfl rfl rfl (by kernel_rfl) Try.func6 (by kernel_rfl)
    (of_decide_eq_true (by kernel_rfl)) (by unfold Func.isWrapper; first | (rw [if_pos (by decide +kernel)]; kernel_rfl) | (rw [if_neg (by decide +kernel)]; exact ⟨rfl, rfl⟩))
    (fun os started H enc _ => lifted os started H enc)
theorem proved : Rows.CiphersOnSaid := over
end Go.Proofs.Ytffflnpidipheaa.ciphersOn
namespace Go.Proofs.Ytffflnpidipheaa
/-- The row, under a short name, for the claim. -/
theorem ciphersOn_holds : Rows.CiphersOnSaid := ciphersOn.proved
end Go.Proofs.Ytffflnpidipheaa
#print axioms Go.Proofs.Ytffflnpidipheaa.ciphersOn_holds
