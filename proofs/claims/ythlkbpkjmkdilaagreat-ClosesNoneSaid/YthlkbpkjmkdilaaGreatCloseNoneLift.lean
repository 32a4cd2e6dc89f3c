/- ClosesNone holds: one that is not there, or that no call made, does nothing, and says nothing. No conditions. -/
import Derived.Test.YthlkbpkjmkdilaaGreatCloseW2
import Derived.Test.YthlkbpkjmkdilaaGreatNoneLift
import Derived.Test.YthlkbpkjmkdilaaGreatAbB
import Derived.Test.YthlkbpkjmkdilaaGreatAbD
import Derived.Test.YthlkbpkjmkdilaaGreatAbF
import Derived.Test.YthlkbpkjmkdilaaGreatRows
import Derived.ShutString
import Derived.ChangeOld
import Derived.Below
import Derived.SizedLaws
import Derived.ProofKit
set_option linter.unusedVariables false
set_option linter.unusedSimpArgs false
namespace Go.Proofs.X.closesNone
open Go Go.Ab Go.Proofs Go.Proofs.X Go.Proofs.X.noneLift Go.Proofs.YthlkbpkjmkdilaaGreat
open Go.ChangeShapes Go.WideShapes Go.ChangeAt Go.RowKit
def ts : List TypeId := [22] ++ List.replicate 16 5 ++ List.replicate 16 5 ++ [25]
theorem hts : Tryz.prog.cellTypes Tryz.prog.depth 27 = some ts := by kernel_rfl
set_option maxRecDepth 100000 in
theorem walk {W : World} {b0 : Nat} {v0 : Value} (hv : Value.okWide Tryz.prog W .any b0 27 v0) :
    Calls Tryz.prog 3 #[v0] W fun e w' => e = .returned (.bool true) ∧ Below W.heap.size W w' := by
  obtain ⟨L, rfl, hL⟩ := row_cells Tryz.underlying27 hts (by kernel_rfl) hv
  obtain ⟨x0, e0⟩ := chunk_int hL 0 Tryz.underlying22 (by decide)
  obtain ⟨x1, l1, e1⟩ := chunk_ints hL 1 16 Tryz.underlying5 (by decide)
  obtain ⟨x2, l2, e2⟩ := chunk_ints hL 17 16 Tryz.underlying5 (by decide)
  obtain ⟨x3, e3, o3⟩ := chunk_any hL 33 (by decide)
  have hl : L.length = 34 := hL.1.trans (by decide)
  have hE : L = Value.int .u8 x0 :: (x1.map (Value.int .u8) ++ (x2.map (Value.int .u8) ++ (x3 :: ([])))) := by
    have h0 : L = L.drop 0 := by simp
    rw [h0]
    rw [drop_split L 0 1, e0]
    rw [drop_split L 1 16, e1]
    rw [drop_split L 17 16, e2]
    rw [drop_split L 33 1, e3]
    rw [List.drop_eq_nil_of_le (by omega)]
    simp only [List.append_nil, List.cons_append, List.nil_append]
  rw [hE]
  exact calls_below (ClosesNone_c [] x0 x1 x2 x3) (args1 (rep_cons_one ⟨rfl, rfl⟩ (rep_cons_ints l1 (rep_cons_ints l2 (rep_cons_one ⟨⟨rfl, o3⟩, o3⟩ rep_nil_agg)))))
set_option maxRecDepth 100000 in
theorem lifted (os : Os) (started : os.Started) (H : Type) (enc : TypeId × Value → H) :
    ReturnsInHanded {} Tryz.checked os 3 .any (Rows.closesNoneSpec.pre6 enc Tryz.prog Tryz.f3 Rows.closesNoneRow.domain false) (Rows.closesNoneSpec.post enc Tryz.prog Tryz.f3 false true false false) := by
  refine returnsInHanded_of_change_sized (C := Tryz.checked) own started (by kernel_rfl) Tryz.func3
    (ChangeSpec.witness6 (enc := enc) (C := Tryz.checked) false ⟨#[], #[.agg (Array.replicate 33 (Value.int .u8 0) ++ #[.slice none 0 0])], []⟩ 64 (by kernel_rfl) (by kernel_rfl) (by kernel_rfl) (by kernel_rfl)) ?_
  intro W base args ds gs before hval0 hW hcnd hsz0 _
  have hval : ∀ (j : Nat) t v, Tryz.f3.params[j]? = some t → args[j]? = some v → Value.okWide Tryz.prog W .any base t v := hval0
  have hW' := hW
  obtain ⟨p, q, hA0, hV, rfl, hfz, hnd⟩ := hW
  have hA : DataW.TrodAll enc Tryz.prog W 0 (fun _ => true) true Tryz.f3.params.toList args.toList ds p := hA0
  rw [Tryz.params3] at hA hval
  obtain ⟨v0, vs0, d0, ds0, p0, q0, hargs, rfl, rfl, h0, r0⟩ := trodAll_cons hA
  obtain ⟨rfl, rfl, rfl⟩ := trodAll_nil r0
  obtain rfl : args = #[v0] := by cases args; simp_all
  obtain ⟨rfl, rfl⟩ := trodVars_none hV
  have lt0 : ∀ x ∈ p0, x.block < W.heap.size := by obtain ⟨m, hm⟩ := h0; exact DataW.trod_lt m _ _ _ hm
  have hv := hval 0 27 v0 rfl rfl
  clear hA0 hval0 hsz0
  refine (walk hv).mono fun e W' ⟨he, bel⟩ => ?_
  subst he
  exact ⟨_, rfl, _, _, _, [], _, [], hW', trodAll_mk1 (shut_bool Tryz.underlying4 _), (trodAll_cons_mk (Below.trod laidOut (by kernel_rfl) (of_decide_eq_true (by kernel_rfl)) h0 bel lt0) trodAll_mk0), rfl, bel.frame _, fun h => by cases h⟩
end Go.Proofs.X.closesNone
