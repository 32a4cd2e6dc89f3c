/- CiphersAgainst holds: what two texts become by one stream part just where the texts do. No conditions. -/
import Derived.Test.YtffflnpidipheaaAesL7
import Derived.Test.YtffflnpidipheaaAesP7
import Derived.Test.YtffflnpidipheaaAb13
import Derived.Test.YtffflnpidipheaaRows
import Derived.ShutString
import Derived.ChangeOld
import Derived.SizedLaws
import Derived.ProofKit
namespace Go.Proofs.Ytffflnpidipheaa.ciphersAgainst
open Go Go.Ab Go.Proofs Go.Proofs.X Go.Proofs.Ytffflnpidipheaa
open Go.ChangeShapes Go.WideShapes Go.ChangeAt Go.RowKit
theorem own : ownKnob Try.prog.godebug = none := by kernel_rfl
theorem laidOut : laidOutB Try.prog = true := by kernel_rfl
theorem calls_below {P : Program} {f : FuncId} {args : List AV} {r : Bool} {vals : Array Value} {w : World} (h : ACall P f [] args (.s (.bool r)) []) (ha : ArgsRep (fun _ => none) args vals) :
    Calls P f vals w fun e w' => e = .returned (.bool r) ∧ Below w.heap.size w w' := by
  refine (h (fun _ => True) (fun _ => none) vals w ⟨fun _ _ _ e => (by cases e), fun _ _ _ _ e => (by cases e), fun _ _ _ _ _ _ _ _ e => (by cases e)⟩ (fun _ _ => rfl) ha).mono ?_
  rintro e w' ⟨v', ρ', rfl, hn, hv⟩
  have hv : v' = .bool r := hv
  subst hv
  exact ⟨rfl, hn.ext.os, hn.ext.tape, hn.ext.output, hn.ext.size, hn.ext.block⟩
theorem U8_of_wf {l : List Int} (h : ∀ y ∈ l, (Lit.int .u8 y).wf = true) : U8 l := U8_mem fun x hx => by
  have := h x hx
  simp [Lit.wf, IntKind.min, IntKind.max, IntKind.signed, IntKind.bits] at this
  omega
theorem args3 {ρ : Rho} {a b c : AV} {u v x : Value} (h0 : a.rep ρ u) (h1 : b.rep ρ v) (h2 : c.rep ρ x) : ArgsRep ρ [a, b, c] #[u, v, x] :=
  ⟨rfl, fun i y hy => by
    match i, hy with
    | 0, hy => simp at hy; subst hy; exact h0
    | 1, hy => simp at hy; subst hy; exact h1
    | 2, hy => simp at hy; subst hy; exact h2
    | i + 3, hy => simp at hy⟩
theorem rep_two {ρ : Rho} {x y : SV} {u v : Value} (h0 : x.cell ρ u) (h1 : y.cell ρ v) : (AV.agg [.one x, .one y]).rep ρ (.agg #[u, v]) :=
  ⟨_, rfl, rfl, fun i z hz => by
    match i, hz with
    | 0, hz => simp [atS, Seg.size, Seg.at] at hz; subst hz; exact ⟨_, rfl, h0⟩
    | 1, hz => simp [atS, Seg.size, Seg.at] at hz; subst hz; exact ⟨_, rfl, h1⟩
    | i + 2, hz => simp [atS, Seg.size] at hz⟩
theorem cellV (ρ : Rho) (a : Option Addr) (n c : Nat) : (SV.val (.slice a n c)).cell ρ (.slice a n c) := ⟨⟨rfl, rfl⟩, rfl⟩
theorem cellS {ρ : Rho} {id b o len cap : Nat} (h : ρ id = some (b, o)) : (SV.slice id 0 0 len cap).cell ρ (.slice (some ⟨b, o, none⟩) len cap) := ⟨⟨b, o, h, rfl⟩, rfl⟩
theorem body7 : ∃ c, Try.f7.body = some c := ⟨_, rfl⟩
theorem walk {w : World} {v0 v1 c0 c1 : Value} {key first : List Int} (hk : key.length = 16) (huk : U8 key) (hf : first.length = 16) (huf : U8 first) (r0 : ∀ ρ, (AV.agg [.ints .u8 16 key]).rep ρ v0) (r1 : ∀ ρ, (AV.agg [.ints .u8 16 first]).rep ρ v1) (s0 : Sl .u8 w c0) (s1 : Sl .u8 w c1) :
    Calls Try.prog 7 #[v0, v1, .agg #[c0, c1]] w fun e w' => e = .returned (.bool true) ∧ Below w.heap.size w w' := by
  obtain ⟨a0, n0, p0, e0⟩ : ∃ a n c, c0 = .slice a n c := by
    rcases s0 with ⟨a, c, h⟩ | ⟨b, o, len, cap, zs, h⟩
    · exact ⟨_, _, _, h⟩
    · exact ⟨_, _, _, h.eq⟩
  obtain ⟨a1, n1, p1, e1⟩ : ∃ a n c, c1 = .slice a n c := by
    rcases s1 with ⟨a, c, h⟩ | ⟨b, o, len, cap, zs, h⟩
    · exact ⟨_, _, _, h⟩
    · exact ⟨_, _, _, h.eq⟩
  obtain ⟨c, hc⟩ := body7
  by_cases hl0 : 3000 < n0
  · subst e0; subst e1
    exact calls_below (against_long0 key first a0 a1 n0 p0 n1 p1 hl0 []) (args3 (r0 _) (r1 _) (rep_two (cellV ..) (cellV ..)))
  by_cases hl1 : 3000 < n1
  · subst e0; subst e1
    exact calls_below (against_long1 key first a0 a1 n0 p0 n1 p1 (by omega) hl1 []) (args3 (r0 _) (r1 _) (rep_two (cellV ..) (cellV ..)))
  rcases s0 with ⟨a, cc, h0⟩ | ⟨b, o, len, cap, zs, h0⟩ <;> rcases s1 with ⟨a', cc', h1⟩ | ⟨b', o', len', cap', zs', h1⟩
  · subst h0; subst h1
    exact calls_walk (ρ0 := fun i => (([] : List ((Nat × Nat) × Blk))[i]?).map (·.1)) (H0 := []) Try.func7 hc Try.ntmps7 (hrep_list [] (by simp)) (fun _ _ => rfl) (args3 (r0 _) (r1 _) (rep_two (cellV ..) (cellV ..))) (by simp)
      (fun W w ρ0 hW hdom => against_ee key first hk huk hf huf cc cc' a a' c hc W w ρ0 hW hdom)
  · have q1 := h1.eq
    have t1 := h1.pos
    have : n1 = len' := by rw [q1] at e1; cases e1; rfl
    subst h0; subst q1
    exact calls_walk (args := [.agg [.ints .u8 16 key], .agg [.ints .u8 16 first], .agg [.one (.val (.slice a 0 cc)), .one (.slice 0 0 0 len' cap')]]) (ρ0 := fun i => (([((b', o'), ⟨false, [.ints .u8 len' zs']⟩)] : List ((Nat × Nat) × Blk))[i]?).map (·.1)) (H0 := [some ⟨false, [.ints .u8 len' zs']⟩]) Try.func7 hc Try.ntmps7 (hrep_list [((b', o'), ⟨false, [.ints .u8 len' zs']⟩)] (fun x hx => by simp at hx; subst hx; exact h1.brep)) (fun id h => by simp at h ⊢; omega) (args3 (r0 _) (r1 _) (rep_two (cellV ..) (cellS rfl))) (by simp)
      (fun W w ρ0 hW hdom => against_es key first zs' _ hk huk hf huf cc len' cap' a t1 (by omega) h1.size rfl c hc W w ρ0 hW hdom)
  · have q0 := h0.eq
    have t0 := h0.pos
    have : n0 = len := by rw [q0] at e0; cases e0; rfl
    subst h1; subst q0
    exact calls_walk (args := [.agg [.ints .u8 16 key], .agg [.ints .u8 16 first], .agg [.one (.slice 0 0 0 len cap), .one (.val (.slice a' 0 cc'))]]) (ρ0 := fun i => (([((b, o), ⟨false, [.ints .u8 len zs]⟩)] : List ((Nat × Nat) × Blk))[i]?).map (·.1)) (H0 := [some ⟨false, [.ints .u8 len zs]⟩]) Try.func7 hc Try.ntmps7 (hrep_list [((b, o), ⟨false, [.ints .u8 len zs]⟩)] (fun x hx => by simp at hx; subst hx; exact h0.brep)) (fun id h => by simp at h ⊢; omega) (args3 (r0 _) (r1 _) (rep_two (cellS rfl) (cellV ..))) (by simp)
      (fun W w ρ0 hW hdom => against_se key first zs _ hk huk hf huf len cap cc' a' t0 (by omega) h0.size rfl c hc W w ρ0 hW hdom)
  · have q0 := h0.eq
    have t0 := h0.pos
    have q1 := h1.eq
    have t1 := h1.pos
    have : n0 = len := by rw [q0] at e0; cases e0; rfl
    have : n1 = len' := by rw [q1] at e1; cases e1; rfl
    subst q0; subst q1
    exact calls_walk (args := [.agg [.ints .u8 16 key], .agg [.ints .u8 16 first], .agg [.one (.slice 0 0 0 len cap), .one (.slice 1 0 0 len' cap')]]) (ρ0 := fun i => (([((b, o), ⟨false, [.ints .u8 len zs]⟩), ((b', o'), ⟨false, [.ints .u8 len' zs']⟩)] : List ((Nat × Nat) × Blk))[i]?).map (·.1)) (H0 := [some ⟨false, [.ints .u8 len zs]⟩, some ⟨false, [.ints .u8 len' zs']⟩]) Try.func7 hc Try.ntmps7
      (hrep_list [((b, o), ⟨false, [.ints .u8 len zs]⟩), ((b', o'), ⟨false, [.ints .u8 len' zs']⟩)] (fun x hx => by simp at hx; rcases hx with rfl | rfl; exact h0.brep; exact h1.brep)) (fun id h => by simp at h ⊢; omega) (args3 (r0 _) (r1 _) (rep_two (cellS rfl) (cellS rfl))) (by simp)
      (fun W w ρ0 hW hdom => against_ss key first zs _ zs' _ hk huk hf huf len cap len' cap' t0 (by omega) h0.size rfl t1 (by omega) h1.size rfl (fun k x y => stream_against _ _ _ _ _ _ _ x y) c hc W w ρ0 hW hdom)
set_option maxRecDepth 100000 in
theorem lifted (os : Os) (started : os.Started) (H : Type) (enc : TypeId × Value → H) :
    ReturnsInHanded {} Try.checked os 7 .any (Rows.ciphersAgainstSpec.pre6 enc Try.prog Try.f7 Rows.ciphersAgainstRow.domain false) (Rows.ciphersAgainstSpec.post enc Try.prog Try.f7 false true false false) := by
  refine returnsInHanded_of_change_sized (C := Try.checked) own started (by kernel_rfl) Try.func7
    (ChangeSpec.witness6 (enc := enc) (C := Try.checked) false ⟨#[], #[.agg (Array.replicate 16 (.int .u8 0)), .agg (Array.replicate 16 (.int .u8 0)), .agg #[.slice none 0 0, .slice none 0 0]], []⟩ 64 (by kernel_rfl) (by kernel_rfl) (by kernel_rfl) (by kernel_rfl)) ?_
  intro W base args ds gs before hval0 hW hcnd hsz0 _
  have hval : ∀ (j : Nat) t v, Try.f7.params[j]? = some t → args[j]? = some v → Value.okWide Try.prog W .any base t v := hval0
  have hW' := hW
  obtain ⟨p, q, hA0, hV, rfl, hfz, hnd⟩ := hW
  have hA : DataW.TrodAll enc Try.prog W 0 (fun _ => true) true Try.f7.params.toList args.toList ds p := hA0
  rw [Try.params7] at hA hval
  obtain ⟨v0, vs0, d0, ds0, p0, q0, hargs, rfl, rfl, h0, r0⟩ := trodAll_cons hA
  obtain ⟨v1, vs1, d1, ds1, p1, q1, rfl, rfl, rfl, h1, r1⟩ := trodAll_cons r0
  obtain ⟨v2, vs2, d2, ds2, p2, q2, rfl, rfl, rfl, h2, r2⟩ := trodAll_cons r1
  obtain ⟨rfl, rfl, rfl⟩ := trodAll_nil r2
  obtain rfl : args = #[v0, v1, v2] := by cases args; simp_all
  obtain ⟨rfl, rfl⟩ := trodVars_none hV
  have lt0 : ∀ x ∈ p0, x.block < W.heap.size := by obtain ⟨m, hm⟩ := h0; exact DataW.trod_lt m _ _ _ hm
  have lt1 : ∀ x ∈ p1, x.block < W.heap.size := by obtain ⟨m, hm⟩ := h1; exact DataW.trod_lt m _ _ _ hm
  have lt2 : ∀ x ∈ p2, x.block < W.heap.size := by obtain ⟨m, hm⟩ := h2; exact DataW.trod_lt m _ _ _ hm
  obtain ⟨key, hk, wk, rk⟩ := open_arr Try.underlying22 Try.underlying5 (by kernel_rfl) (by kernel_rfl) (hval 0 22 v0 rfl rfl) h0
  obtain ⟨first, hf, wf, rf⟩ := open_arr Try.underlying22 Try.underlying5 (by kernel_rfl) (by kernel_rfl) (hval 1 22 v1 rfl rfl) h1
  obtain ⟨c0, c1, e2, s0, s1⟩ := open_two Try.underlying38 Try.underlying29 Try.underlying5 (by kernel_rfl) (by kernel_rfl) (by kernel_rfl) (hval 2 38 v2 rfl rfl) h2
  subst e2
  clear hA0 hval0 hsz0
  refine (walk hk (U8_of_wf wk) hf (U8_of_wf wf) rk rf s0 s1).mono fun e W' ⟨he, bel⟩ => ?_
  subst he
  exact ⟨_, rfl, _, _, _, [], _, [], hW', trodAll_mk1 (shut_bool Try.underlying4 _), (trodAll_cons_mk (Below.trod laidOut (by kernel_rfl) (of_decide_eq_true (by kernel_rfl)) h0 bel lt0) (trodAll_cons_mk (Below.trod laidOut (by kernel_rfl) (of_decide_eq_true (by kernel_rfl)) h1 bel lt1) (trodAll_cons_mk (Below.trod laidOut (by kernel_rfl) (of_decide_eq_true (by kernel_rfl)) h2 bel lt2) trodAll_mk0))), rfl, bel.frame _, fun h => by cases h⟩
theorem over : Rows.ciphersAgainstRow.holds Try.pinned (OpenSpec.ofChange Rows.ciphersAgainstSpec) :=
  OpenClaim.holds_of_wide 7 Try.f7 rfl rfl rfl rfl rfl rfl rfl ⟨rfl, rfl, rfl, rfl, rfl⟩ rfl rfl rfl rfl rfl (by kernel_rfl) Try.func7 (by kernel_rfl)
    (of_decide_eq_true (by kernel_rfl)) (by unfold Func.isWrapper; first | (rw [if_pos (by decide +kernel)]; kernel_rfl) | (rw [if_neg (by decide +kernel)]; exact ⟨rfl, rfl⟩))
    (fun os started H enc _ => lifted os started H enc)
theorem proved : Rows.CiphersAgainstSaid := over
end Go.Proofs.Ytffflnpidipheaa.ciphersAgainst
namespace Go.Proofs.Ytffflnpidipheaa
/-- The row, under a short name, for the claim. -/
theorem ciphersAgainst_holds : Rows.CiphersAgainstSaid := ciphersAgainst.proved
end Go.Proofs.Ytffflnpidipheaa
#print axioms Go.Proofs.Ytffflnpidipheaa.ciphersAgainst_holds
