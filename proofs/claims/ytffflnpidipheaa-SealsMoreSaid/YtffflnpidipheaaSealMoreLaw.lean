/- SealsMore holds: sealed bytes that go on begin as those that they go on from, but for the sum at their end; how many there are hangs on how many are sealed alone. No conditions. -/
import Derived.Test.YtffflnpidipheaaSealL6
import Derived.Test.YtffflnpidipheaaLift9
import Derived.Test.YtffflnpidipheaaAbD
import Derived.Test.YtffflnpidipheaaAb35
set_option linter.unusedVariables false
set_option linter.unusedSimpArgs false
namespace Go.Proofs.Ytffflnpidipheaa.sealsMore
open Go Go.Ab Go.Proofs Go.Proofs.X Go.Proofs.X.lift Go.Proofs.Ytffflnpidipheaa
open Go.ChangeShapes Go.WideShapes Go.ChangeAt Go.RowKit
theorem nat_u32 {z : Int} (h : (Lit.int .u32 z).wf = true) : ∃ n : Nat, n < 4294967296 ∧ z = (n : Int) := by
  simp [Lit.wf, IntKind.min, IntKind.max, IntKind.signed, IntKind.bits] at h
  exact ⟨z.toNat, by omega, by omega⟩
theorem nat_u64 {z : Int} (h : (Lit.int .u64 z).wf = true) : ∃ n : Nat, n < 18446744073709551616 ∧ z = (n : Int) := by
  simp [Lit.wf, IntKind.min, IntKind.max, IntKind.signed, IntKind.bits] at h
  exact ⟨z.toNat, by omega, by omega⟩
abbrev rhoL (L : List ((Nat × Nat) × Blk)) : Rho := fun i => (L[i]?).map (·.1)
theorem body15 : ∃ c, Try.f15.body = some c := ⟨_, rfl⟩
theorem walk {w : World} {v0 c0 c1 : Value} {M C : List Int} {l n : Nat} (hM : M.length = 32) (hC : C.length = 16) (hC8 : U8 C) (hl : l < 4294967296) (hn : n < 18446744073709551616) (r0 : ∀ ρ, (AV.agg [.ints .u8 32 M, .ints .u8 16 C, .one (.int .u32 ((l : Nat) : Int)), .one (.int .u64 ((n : Nat) : Int))]).rep ρ v0) (s0 : Sl .u8 w c0) (s1 : Sl .u8 w c1) (m0 : ∀ a n c, c0 = .slice a n c → n < 140737488355328) (m1 : ∀ a n c, c1 = .slice a n c → n < 140737488355328) :
    Calls Try.prog 15 #[v0, c0, c1] w fun e w' => e = .returned (.bool true) ∧ Below w.heap.size w w' := by
  obtain ⟨c, hc⟩ := body15
  obtain ⟨a0, n0, p0, e0⟩ : ∃ a n c, c0 = .slice a n c := by
    rcases s0 with ⟨a, c, h⟩ | ⟨b, o, len, cap, zs, h⟩
    · exact ⟨_, _, _, h⟩
    · exact ⟨_, _, _, h.eq⟩
  obtain ⟨a1, n1, p1, e1⟩ : ∃ a n c, c1 = .slice a n c := by
    rcases s1 with ⟨a, c, h⟩ | ⟨b, o, len, cap, zs, h⟩
    · exact ⟨_, _, _, h⟩
    · exact ⟨_, _, _, h.eq⟩
  have b0 : n0 < 1152921504606846976 := Nat.lt_trans (m0 _ _ _ e0) (by omega)
  have b1 : n1 < 1152921504606846976 := Nat.lt_trans (m1 _ _ _ e1) (by omega)
  by_cases hbig : 2019 < n0 + n1
  · subst e0; subst e1
    exact calls_below (more_big [] M C l n a0 a1 n0 n1 p0 p1 hbig b0 b1) (args3 (r0 _) ⟨rfl, rfl⟩ ⟨rfl, rfl⟩)
  rcases s0 with ⟨a, cc, h0⟩ | ⟨b, o, len, cap, zs, h0⟩ <;> rcases s1 with ⟨a', cc', h1⟩ | ⟨b', o', len', cap', zs', h1⟩
  · subst h0
    subst h1
    exact calls_walk (args := [AV.agg [.ints .u8 32 M, .ints .u8 16 C, .one (.int .u32 ((l : Nat) : Int)), .one (.int .u64 ((n : Nat) : Int))], .s (.val (.slice a 0 cc)), .s (.val (.slice a' 0 cc'))]) (ρ0 := rhoL []) (H0 := []) Try.func15 hc Try.ntmps15 (hrep_list [] (by simp)) (fun _ _ => rfl) (args3 (r0 _) ⟨rfl, rfl⟩ ⟨rfl, rfl⟩) (by simp) (fun W w ρ0 hW hdom => more_vv M C l n hM hC hC8 hl hn a cc a' cc' c hc W w ρ0 hW hdom)
  · subst h0
    have q1 := h1.eq; have t1 := h1.pos
    have : n1 = len' := by rw [q1] at e1; cases e1; rfl
    subst this; subst q1
    exact calls_walk (args := [AV.agg [.ints .u8 32 M, .ints .u8 16 C, .one (.int .u32 ((l : Nat) : Int)), .one (.int .u64 ((n : Nat) : Int))], .s (.val (.slice a 0 cc)), .s (.slice 0 0 0 n1 cap')]) (ρ0 := rhoL [((b', o'), ⟨false, [.ints .u8 n1 zs']⟩)]) (H0 := [some ⟨false, [.ints .u8 n1 zs']⟩]) Try.func15 hc Try.ntmps15 (hrep_list [((b', o'), ⟨false, [.ints .u8 n1 zs']⟩)] (fun x hx => by simp at hx; subst hx; exact h1.brep)) (fun id h => by simp at h ⊢; omega) (args3 (r0 _) ⟨rfl, rfl⟩ (cellS rfl).1) (by simp) (fun W w ρ0 hW hdom => more_vs M C l n hM hC hC8 hl hn a cc n1 cap' zs' h1.size h1.le t1 (by omega) c hc W w ρ0 hW hdom)
  · have q0 := h0.eq; have t0 := h0.pos
    have : n0 = len := by rw [q0] at e0; cases e0; rfl
    subst this; subst q0
    subst h1
    exact calls_walk (args := [AV.agg [.ints .u8 32 M, .ints .u8 16 C, .one (.int .u32 ((l : Nat) : Int)), .one (.int .u64 ((n : Nat) : Int))], .s (.slice 0 0 0 n0 cap), .s (.val (.slice a' 0 cc'))]) (ρ0 := rhoL [((b, o), ⟨false, [.ints .u8 n0 zs]⟩)]) (H0 := [some ⟨false, [.ints .u8 n0 zs]⟩]) Try.func15 hc Try.ntmps15 (hrep_list [((b, o), ⟨false, [.ints .u8 n0 zs]⟩)] (fun x hx => by simp at hx; subst hx; exact h0.brep)) (fun id h => by simp at h ⊢; omega) (args3 (r0 _) (cellS rfl).1 ⟨rfl, rfl⟩) (by simp) (fun W w ρ0 hW hdom => more_sv M C l n hM hC hC8 hl hn n0 cap zs a' cc' h0.size h0.le t0 (by omega) c hc W w ρ0 hW hdom)
  · have q0 := h0.eq; have t0 := h0.pos
    have : n0 = len := by rw [q0] at e0; cases e0; rfl
    subst this; subst q0
    have q1 := h1.eq; have t1 := h1.pos
    have : n1 = len' := by rw [q1] at e1; cases e1; rfl
    subst this; subst q1
    exact calls_walk (args := [AV.agg [.ints .u8 32 M, .ints .u8 16 C, .one (.int .u32 ((l : Nat) : Int)), .one (.int .u64 ((n : Nat) : Int))], .s (.slice 0 0 0 n0 cap), .s (.slice 1 0 0 n1 cap')]) (ρ0 := rhoL [((b, o), ⟨false, [.ints .u8 n0 zs]⟩), ((b', o'), ⟨false, [.ints .u8 n1 zs']⟩)]) (H0 := [some ⟨false, [.ints .u8 n0 zs]⟩, some ⟨false, [.ints .u8 n1 zs']⟩]) Try.func15 hc Try.ntmps15 (hrep_list [((b, o), ⟨false, [.ints .u8 n0 zs]⟩), ((b', o'), ⟨false, [.ints .u8 n1 zs']⟩)] (fun x hx => by simp at hx; rcases hx with rfl | rfl; exact h0.brep; exact h1.brep)) (fun id h => by simp at h ⊢; omega) (args3 (r0 _) (cellS rfl).1 (cellS rfl).1) (by simp) (fun W w ρ0 hW hdom => more_ss M C l n hM hC hC8 hl hn n0 cap zs n1 cap' zs' h0.size h0.le t0 (by omega) h1.size h1.le t1 (by omega) (by omega) c hc W w ρ0 hW hdom)
set_option maxRecDepth 100000 in
theorem lifted (os : Os) (started : os.Started) (H : Type) (enc : TypeId × Value → H) :
    ReturnsInHanded {} Try.checked os 15 .any (Rows.sealsMoreSpec.pre6 enc Try.prog Try.f15 Rows.sealsMoreRow.domain false) (Rows.sealsMoreSpec.post enc Try.prog Try.f15 false true false false) := by
  refine returnsInHanded_of_change_sized (C := Try.checked) own started (by kernel_rfl) Try.func15
    (ChangeSpec.witness6 (enc := enc) (C := Try.checked) false ⟨#[], #[.agg ((Array.replicate 48 (.int .u8 0)).push (.int .u32 0) |>.push (.int .u64 0)), .slice none 0 0, .slice none 0 0], []⟩ 64 (by kernel_rfl) (by kernel_rfl) (by kernel_rfl) (by kernel_rfl)) ?_
  intro W base args ds gs before hval0 hW hcnd hsz0 _
  have hval : ∀ (j : Nat) t v, Try.f15.params[j]? = some t → args[j]? = some v → Value.okWide Try.prog W .any base t v := hval0
  have hW' := hW
  obtain ⟨p, q, hA0, hV, rfl, hfz, hnd⟩ := hW
  have hA : DataW.TrodAll enc Try.prog W 0 (fun _ => true) true Try.f15.params.toList args.toList ds p := hA0
  rw [Try.params15] at hA hval
  obtain ⟨v0, vs0, d0, ds0, p0, q0, hargs, rfl, rfl, h0, r0⟩ := trodAll_cons hA
  obtain ⟨v1, vs1, d1, ds1, p1, q1, rfl, rfl, rfl, h1, r1⟩ := trodAll_cons r0
  obtain ⟨v2, vs2, d2, ds2, p2, q2, rfl, rfl, rfl, h2, r2⟩ := trodAll_cons r1
  obtain ⟨rfl, rfl, rfl⟩ := trodAll_nil r2
  obtain rfl : args = #[v0, v1, v2] := by cases args; simp_all
  obtain ⟨rfl, rfl⟩ := trodVars_none hV
  have lt0 : ∀ x ∈ p0, x.block < W.heap.size := by obtain ⟨m, hm⟩ := h0; exact DataW.trod_lt m _ _ _ hm
  have lt1 : ∀ x ∈ p1, x.block < W.heap.size := by obtain ⟨m, hm⟩ := h1; exact DataW.trod_lt m _ _ _ hm
  have lt2 : ∀ x ∈ p2, x.block < W.heap.size := by obtain ⟨m, hm⟩ := h2; exact DataW.trod_lt m _ _ _ hm
  obtain ⟨M, C, l, n, lM, lC, wM, wC, hwl, hwn, rG⟩ := open_given Try.underlying63 rfl rfl rfl rfl rfl rfl Try.underlying61 Try.underlying40 (by kernel_rfl) (by kernel_rfl) (by kernel_rfl) Try.underlying56 Try.underlying44 Try.underlying22 Try.underlying5 (by kernel_rfl) (by kernel_rfl) (by kernel_rfl) rfl rfl (by kernel_rfl) (hval 0 63 v0 rfl rfl) h0
  obtain ⟨l, hl, rfl⟩ := nat_u32 hwl
  obtain ⟨n, hn, rfl⟩ := nat_u64 hwn
  have s1 := open_sl1 Try.underlying29 Try.underlying5 (by kernel_rfl) (hval 1 29 v1 rfl rfl) h1
  have s2 := open_sl1 Try.underlying29 Try.underlying5 (by kernel_rfl) (hval 2 29 v2 rfl rfl) h2
  have m1 := open_size Try.underlying29 (by rw [show Try.prog.bytesOf 5 = 1 from by kernel_rfl]; omega) hsz0 (j := 1) rfl rfl h1
  have m2 := open_size Try.underlying29 (by rw [show Try.prog.bytesOf 5 = 1 from by kernel_rfl]; omega) hsz0 (j := 2) rfl rfl h2
  clear hA0 hval0 hsz0
  refine (walk lM lC (U8_of_wf wC) hl hn rG s1 s2 m1 m2).mono fun e W' ⟨he, bel⟩ => ?_
  subst he
  exact ⟨_, rfl, _, _, _, [], _, [], hW', trodAll_mk1 (shut_bool Try.underlying4 _), (trodAll_cons_mk (Below.trod laidOut (by kernel_rfl) (of_decide_eq_true (by kernel_rfl)) h0 bel lt0) (trodAll_cons_mk (Below.trod laidOut (by kernel_rfl) (of_decide_eq_true (by kernel_rfl)) h1 bel lt1) (trodAll_cons_mk (Below.trod laidOut (by kernel_rfl) (of_decide_eq_true (by kernel_rfl)) h2 bel lt2) trodAll_mk0))), rfl, bel.frame _, fun h => by cases h⟩
theorem over : Rows.sealsMoreRow.holds Try.pinned (OpenSpec.ofChange Rows.sealsMoreSpec) :=
  OpenClaim.holds_of_wide 15 Try.f15 rfl rfl rfl rfl rfl rfl rfl ⟨rfl, rfl, rfl, rfl, rfl⟩ rfl rfl rfl rfl rfl (by kernel_rfl) Try.func15 (by kernel_rfl)
    (of_decide_eq_true (by kernel_rfl)) (by unfold Func.isWrapper; first | (rw [if_pos (by decide +kernel)]; kernel_rfl) | (rw [if_neg (by decide +kernel)]; exact ⟨rfl, rfl⟩))
    (fun os started H enc _ => lifted os started H enc)
theorem proved : Rows.SealsMoreSaid := over
end Go.Proofs.Ytffflnpidipheaa.sealsMore
namespace Go.Proofs.Ytffflnpidipheaa
/-- The row, under a short name, for the claim. -/
theorem sealsMore_holds : Rows.SealsMoreSaid := sealsMore.proved
end Go.Proofs.Ytffflnpidipheaa
#print axioms Go.Proofs.Ytffflnpidipheaa.sealsMore_holds
