/- PairsNone holds: a pair that is not there, or that no call made, does nothing, and says nothing. No conditions. -/
import Derived.Test.YthlkbpkjmkdilaaGreatPairW2
import Derived.Test.YthlkbpkjmkdilaaGreatNoneLift
import Derived.Test.YthlkbpkjmkdilaaGreatAbB
import Derived.Test.YthlkbpkjmkdilaaGreatAbD
import Derived.Test.YthlkbpkjmkdilaaGreatAbF
import Derived.Test.YthlkbpkjmkdilaaGreatRows
import Derived.ShutString
import Derived.ChangeOld
import Derived.Below
import Derived.SizedLaws
import Derived.ProofKit
set_option linter.unusedVariables false
set_option linter.unusedSimpArgs false
namespace Go.Proofs.X.pairsNone
open Go Go.Ab Go.Proofs Go.Proofs.X Go.Proofs.X.noneLift Go.Proofs.YthlkbpkjmkdilaaGreat
open Go.ChangeShapes Go.WideShapes Go.ChangeAt Go.RowKit
def ts : List TypeId := [5] ++ [22] ++ List.replicate 16 5 ++ List.replicate 16 5 ++ [25] ++ [46] ++ [41] ++ [5]
theorem hts : Tryz.prog.cellTypes Tryz.prog.depth 61 = some ts := by kernel_rfl
set_option maxRecDepth 100000 in
theorem walk {W : World} {b0 : Nat} {v0 : Value} (hv : Value.okWide Tryz.prog W .any b0 61 v0) :
    Calls Tryz.prog 4 #[v0] W fun e w' => e = .returned (.bool true) ∧ Below W.heap.size W w' := by
  obtain ⟨L, rfl, hL⟩ := row_cells Tryz.underlying61 hts (by kernel_rfl) hv
  obtain ⟨x0, e0⟩ := chunk_int hL 0 Tryz.underlying5 (by decide)
  obtain ⟨x1, e1⟩ := chunk_int hL 1 Tryz.underlying22 (by decide)
  obtain ⟨x2, l2, e2⟩ := chunk_ints hL 2 16 Tryz.underlying5 (by decide)
  obtain ⟨x3, l3, e3⟩ := chunk_ints hL 18 16 Tryz.underlying5 (by decide)
  obtain ⟨x4, e4, o4⟩ := chunk_any hL 34 (by decide)
  obtain ⟨x5, e5⟩ := chunk_int hL 35 Tryz.underlying46 (by decide)
  obtain ⟨x6, e6⟩ := chunk_int hL 36 Tryz.underlying41 (by decide)
  obtain ⟨x7, e7⟩ := chunk_int hL 37 Tryz.underlying5 (by decide)
  have hl : L.length = 38 := hL.1.trans (by decide)
  have hE : L = Value.int .u8 x0 :: (Value.int .u8 x1 :: (x2.map (Value.int .u8) ++ (x3.map (Value.int .u8) ++ (x4 :: (Value.int .u32 x5 :: (Value.int .u32 x6 :: (Value.int .u8 x7 :: ([])))))))) := by
    have h0 : L = L.drop 0 := by simp
    rw [h0]
    rw [drop_split L 0 1, e0]
    rw [drop_split L 1 1, e1]
    rw [drop_split L 2 16, e2]
    rw [drop_split L 18 16, e3]
    rw [drop_split L 34 1, e4]
    rw [drop_split L 35 1, e5]
    rw [drop_split L 36 1, e6]
    rw [drop_split L 37 1, e7]
    rw [List.drop_eq_nil_of_le (by omega)]
    simp only [List.append_nil, List.cons_append, List.nil_append]
  rw [hE]
  exact calls_below (PairsNone_c [] x0 x1 x2 x3 x4 x5 x6 x7) (args1 (rep_cons_one ⟨rfl, rfl⟩ (rep_cons_one ⟨rfl, rfl⟩ (rep_cons_ints l2 (rep_cons_ints l3 (rep_cons_one ⟨⟨rfl, o4⟩, o4⟩ (rep_cons_one ⟨rfl, rfl⟩ (rep_cons_one ⟨rfl, rfl⟩ (rep_cons_one ⟨rfl, rfl⟩ rep_nil_agg)))))))))
set_option maxRecDepth 100000 in
theorem lifted (os : Os) (started : os.Started) (H : Type) (enc : TypeId × Value → H) :
    ReturnsInHanded {} Tryz.checked os 4 .any (Rows.pairsNoneSpec.pre6 enc Tryz.prog Tryz.f4 Rows.pairsNoneRow.domain false) (Rows.pairsNoneSpec.post enc Tryz.prog Tryz.f4 false true false false) := by
  refine returnsInHanded_of_change_sized (C := Tryz.checked) own started (by kernel_rfl) Tryz.func4
    (ChangeSpec.witness6 (enc := enc) (C := Tryz.checked) false ⟨#[], #[.agg (Array.replicate 34 (Value.int .u8 0) ++ #[.slice none 0 0, .int .u32 0, .int .u32 0, .int .u8 0])], []⟩ 64 (by kernel_rfl) (by kernel_rfl) (by kernel_rfl) (by kernel_rfl)) ?_
  intro W base args ds gs before hval0 hW hcnd hsz0 _
  have hval : ∀ (j : Nat) t v, Tryz.f4.params[j]? = some t → args[j]? = some v → Value.okWide Tryz.prog W .any base t v := hval0
  have hW' := hW
  obtain ⟨p, q, hA0, hV, rfl, hfz, hnd⟩ := hW
  have hA : DataW.TrodAll enc Tryz.prog W 0 (fun _ => true) true Tryz.f4.params.toList args.toList ds p := hA0
  rw [Tryz.params4] at hA hval
  obtain ⟨v0, vs0, d0, ds0, p0, q0, hargs, rfl, rfl, h0, r0⟩ := trodAll_cons hA
  obtain ⟨rfl, rfl, rfl⟩ := trodAll_nil r0
  obtain rfl : args = #[v0] := by cases args; simp_all
  obtain ⟨rfl, rfl⟩ := trodVars_none hV
  have lt0 : ∀ x ∈ p0, x.block < W.heap.size := by obtain ⟨m, hm⟩ := h0; exact DataW.trod_lt m _ _ _ hm
  have hv := hval 0 61 v0 rfl rfl
  clear hA0 hval0 hsz0
  refine (walk hv).mono fun e W' ⟨he, bel⟩ => ?_
  subst he
  exact ⟨_, rfl, _, _, _, [], _, [], hW', trodAll_mk1 (shut_bool Tryz.underlying4 _), (trodAll_cons_mk (Below.trod laidOut (by kernel_rfl) (of_decide_eq_true (by kernel_rfl)) h0 bel lt0) trodAll_mk0), rfl, bel.frame _, fun h => by cases h⟩
end Go.Proofs.X.pairsNone
