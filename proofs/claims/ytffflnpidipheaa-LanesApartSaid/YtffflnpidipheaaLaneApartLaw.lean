/- LanesApart holds: what is put on one lane comes on none of another number, by whatever keys; and what does not come leaves the far end as it is. No conditions. -/
import Derived.Test.YtffflnpidipheaaLaneL3
import Derived.Test.YtffflnpidipheaaLift9
import Derived.Test.YtffflnpidipheaaAb31
set_option linter.unusedVariables false
set_option linter.unusedSimpArgs false
namespace Go.Proofs.Ytffflnpidipheaa.lanesApart
open Go Go.Ab Go.Proofs Go.Proofs.X Go.Proofs.X.lift Go.Proofs.Ytffflnpidipheaa
open Go.ChangeShapes Go.WideShapes Go.ChangeAt Go.RowKit
theorem nat_u32 {z : Int} (h : (Lit.int .u32 z).wf = true) : ∃ n : Nat, n < 4294967296 ∧ z = (n : Int) := by
  simp [Lit.wf, IntKind.min, IntKind.max, IntKind.signed, IntKind.bits] at h
  exact ⟨z.toNat, by omega, by omega⟩
theorem two32 {l : List Int} (h : l.length = 2) (hw : ∀ y ∈ l, (Lit.int .u32 y).wf = true) : ∃ a b : Nat, a < 4294967296 ∧ b < 4294967296 ∧ l = [((a : Nat) : Int), ((b : Nat) : Int)] := by
  match l, h with
  | [x, y], _ =>
    obtain ⟨a, ha, rfl⟩ := nat_u32 (hw x (by simp))
    obtain ⟨b, hb, rfl⟩ := nat_u32 (hw y (by simp))
    exact ⟨a, b, ha, hb, rfl⟩
abbrev rhoL (L : List ((Nat × Nat) × Blk)) : Rho := fun i => (L[i]?).map (·.1)
theorem body19 : ∃ c, Try.f19.body = some c := ⟨_, rfl⟩
theorem walk {w : World} {v0 v1 c0 : Value} {M C M2 C2 : List Int} {n0 n1 : Nat} (hM : M.length = 32) (hC : C.length = 16) (hC8 : U8 C) (hM2 : M2.length = 32) (hC2 : C2.length = 16) (hn0 : n0 < 4294967296) (hn1 : n1 < 4294967296) (r0 : ∀ ρ, (AV.agg [.ints .u8 32 M, .ints .u8 16 C, .ints .u8 32 M2, .ints .u8 16 C2]).rep ρ v0) (r1 : ∀ ρ, (AV.agg [.ints .u32 2 [((n0 : Nat) : Int), ((n1 : Nat) : Int)]]).rep ρ v1) (s0 : Sl .u8 w c0) :
    Calls Try.prog 19 #[v0, v1, c0] w fun e w' => e = .returned (.bool true) ∧ Below w.heap.size w w' := by
  obtain ⟨a0, k0, p0, e0⟩ : ∃ a n c, c0 = .slice a n c := by
    rcases s0 with ⟨a, c, h⟩ | ⟨b, o, len, cap, zs, h⟩
    · exact ⟨_, _, _, h⟩
    · exact ⟨_, _, _, h.eq⟩
  obtain ⟨c, hc⟩ := body19
  by_cases hl0 : 2019 < k0
  · subst e0
    exact calls_walk (args := [AV.agg [.ints .u8 32 M, .ints .u8 16 C, .ints .u8 32 M2, .ints .u8 16 C2], AV.agg [.ints .u32 2 [((n0 : Nat) : Int), ((n1 : Nat) : Int)]], .s (.val (.slice a0 k0 p0))]) (ρ0 := rhoL []) (H0 := []) Try.func19 hc Try.ntmps19 (hrep_list [] (by simp)) (fun _ _ => rfl) (args3 (r0 _) (r1 _) ⟨rfl, rfl⟩) (by simp) (fun W w ρ0 hW hdom => apart_h M C M2 C2 n0 n1 hM hC hC8 hM2 hC2 hn0 hn1 a0 k0 p0 hl0 c hc W w ρ0 hW hdom)
  by_cases hl1 : n0 = n1
  · subst e0
    exact calls_walk (args := [AV.agg [.ints .u8 32 M, .ints .u8 16 C, .ints .u8 32 M2, .ints .u8 16 C2], AV.agg [.ints .u32 2 [((n0 : Nat) : Int), ((n1 : Nat) : Int)]], .s (.val (.slice a0 k0 p0))]) (ρ0 := rhoL []) (H0 := []) Try.func19 hc Try.ntmps19 (hrep_list [] (by simp)) (fun _ _ => rfl) (args3 (r0 _) (r1 _) ⟨rfl, rfl⟩) (by simp) (fun W w ρ0 hW hdom => apart_e M C M2 C2 n0 n1 hM hC hC8 hM2 hC2 hn0 hn1 a0 k0 p0 (by omega) hl1 c hc W w ρ0 hW hdom)
  rcases s0 with ⟨a, cc, h0⟩ | ⟨b, o, len, cap, zs, h0⟩
  · subst h0
    exact calls_walk (args := [AV.agg [.ints .u8 32 M, .ints .u8 16 C, .ints .u8 32 M2, .ints .u8 16 C2], AV.agg [.ints .u32 2 [((n0 : Nat) : Int), ((n1 : Nat) : Int)]], .s (.val (.slice a 0 cc))]) (ρ0 := rhoL []) (H0 := []) Try.func19 hc Try.ntmps19 (hrep_list [] (by simp)) (fun _ _ => rfl) (args3 (r0 _) (r1 _) ⟨rfl, rfl⟩) (by simp) (fun W w ρ0 hW hdom => apart_v M C M2 C2 n0 n1 hM hC hC8 hM2 hC2 hn0 hn1 a cc hl1 c hc W w ρ0 hW hdom)
  · have q0 := h0.eq
    have t0 := h0.pos
    have : k0 = len := by rw [q0] at e0; cases e0; rfl
    subst this
    subst q0
    exact calls_walk (args := [AV.agg [.ints .u8 32 M, .ints .u8 16 C, .ints .u8 32 M2, .ints .u8 16 C2], AV.agg [.ints .u32 2 [((n0 : Nat) : Int), ((n1 : Nat) : Int)]], .s (.slice 0 0 0 k0 cap)]) (ρ0 := rho1 b o k0 zs) (H0 := [some ⟨false, [.ints .u8 k0 zs]⟩]) Try.func19 hc Try.ntmps19 (hrep1 h0) (fun id h => hdom1 id h) (args3 (r0 _) (r1 _) (cellS rfl).1) (by simp) (fun W w ρ0 hW hdom => apart_s M C M2 C2 n0 n1 hM hC hC8 hM2 hC2 hn0 hn1 k0 cap zs (U8_of_wf h0.wf) h0.size h0.le t0 (by omega) hl1 c hc W w ρ0 hW hdom)
set_option maxRecDepth 100000 in
theorem lifted (os : Os) (started : os.Started) (H : Type) (enc : TypeId × Value → H) :
    ReturnsInHanded {} Try.checked os 19 .any (Rows.lanesApartSpec.pre6 enc Try.prog Try.f19 Rows.lanesApartRow.domain false) (Rows.lanesApartSpec.post enc Try.prog Try.f19 false true false false) := by
  refine returnsInHanded_of_change_sized (C := Try.checked) own started (by kernel_rfl) Try.func19
    (ChangeSpec.witness6 (enc := enc) (C := Try.checked) false ⟨#[], #[.agg (Array.replicate 96 (.int .u8 0)), .agg #[.int .u32 0, .int .u32 0], .slice none 0 0], []⟩ 64 (by kernel_rfl) (by kernel_rfl) (by kernel_rfl) (by kernel_rfl)) ?_
  intro W base args ds gs before hval0 hW hcnd hsz0 _
  have hval : ∀ (j : Nat) t v, Try.f19.params[j]? = some t → args[j]? = some v → Value.okWide Try.prog W .any base t v := hval0
  have hW' := hW
  obtain ⟨p, q, hA0, hV, rfl, hfz, hnd⟩ := hW
  have hA : DataW.TrodAll enc Try.prog W 0 (fun _ => true) true Try.f19.params.toList args.toList ds p := hA0
  rw [Try.params19] at hA hval
  obtain ⟨v0, vs0, d0, ds0, p0, q0, hargs, rfl, rfl, h0, r0⟩ := trodAll_cons hA
  obtain ⟨v1, vs1, d1, ds1, p1, q1, rfl, rfl, rfl, h1, r1⟩ := trodAll_cons r0
  obtain ⟨v2, vs2, d2, ds2, p2, q2, rfl, rfl, rfl, h2, r2⟩ := trodAll_cons r1
  obtain ⟨rfl, rfl, rfl⟩ := trodAll_nil r2
  obtain rfl : args = #[v0, v1, v2] := by cases args; simp_all
  obtain ⟨rfl, rfl⟩ := trodVars_none hV
  have lt0 : ∀ x ∈ p0, x.block < W.heap.size := by obtain ⟨m, hm⟩ := h0; exact DataW.trod_lt m _ _ _ hm
  have lt1 : ∀ x ∈ p1, x.block < W.heap.size := by obtain ⟨m, hm⟩ := h1; exact DataW.trod_lt m _ _ _ hm
  have lt2 : ∀ x ∈ p2, x.block < W.heap.size := by obtain ⟨m, hm⟩ := h2; exact DataW.trod_lt m _ _ _ hm
  obtain ⟨M, C, M2, C2, ⟨lM, lC, lM2, lC2⟩, wC, wC2, rK⟩ := open_keys2 Try.underlying99 (by kernel_rfl) Try.underlying56 Try.underlying44 Try.underlying22 Try.underlying5 (by kernel_rfl) (by kernel_rfl) (by kernel_rfl) rfl rfl (by kernel_rfl) (hval 0 99 v0 rfl rfl) h0
  obtain ⟨nn, lnn, wnn, rnn⟩ := open_arr Try.underlying100 Try.underlying61 (by kernel_rfl) (by kernel_rfl) (hval 1 100 v1 rfl rfl) h1
  obtain ⟨n0, n1, hn0, hn1, rfl⟩ := two32 lnn wnn
  have s2 := open_sl1 Try.underlying29 Try.underlying5 (by kernel_rfl) (hval 2 29 v2 rfl rfl) h2
  clear hA0 hval0 hsz0
  refine (walk lM lC (U8_of_wf wC) lM2 lC2 hn0 hn1 rK rnn s2).mono fun e W' ⟨he, bel⟩ => ?_
  subst he
  exact ⟨_, rfl, _, _, _, [], _, [], hW', trodAll_mk1 (shut_bool Try.underlying4 _), (trodAll_cons_mk (Below.trod laidOut (by kernel_rfl) (of_decide_eq_true (by kernel_rfl)) h0 bel lt0) (trodAll_cons_mk (Below.trod laidOut (by kernel_rfl) (of_decide_eq_true (by kernel_rfl)) h1 bel lt1) (trodAll_cons_mk (Below.trod laidOut (by kernel_rfl) (of_decide_eq_true (by kernel_rfl)) h2 bel lt2) trodAll_mk0))), rfl, bel.frame _, fun h => by cases h⟩
theorem over : Rows.lanesApartRow.holds Try.pinned (OpenSpec.ofChange Rows.lanesApartSpec) :=
  OpenClaim.holds_of_wide 19 Try.f19 rfl rfl rfl rfl rfl rfl rfl ⟨rfl, rfl, rfl, rfl, rfl⟩ rfl rfl rfl rfl rfl (by kernel_rfl) Try.func19 (by kernel_rfl)
    (of_decide_eq_true (by kernel_rfl)) (by unfold Func.isWrapper; first | (rw [if_pos (by decide +kernel)]; kernel_rfl) | (rw [if_neg (by decide +kernel)]; exact ⟨rfl, rfl⟩))
    (fun os started H enc _ => lifted os started H enc)
theorem proved : Rows.LanesApartSaid := over
end Go.Proofs.Ytffflnpidipheaa.lanesApart
namespace Go.Proofs.Ytffflnpidipheaa
/-- The row, under a short name, for the claim. -/
theorem lanesApart_holds : Rows.LanesApartSaid := lanesApart.proved
end Go.Proofs.Ytffflnpidipheaa
#print axioms Go.Proofs.Ytffflnpidipheaa.lanesApart_holds
