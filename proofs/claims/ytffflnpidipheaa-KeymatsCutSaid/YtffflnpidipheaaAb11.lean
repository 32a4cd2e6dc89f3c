/- Pointers against nil; a slice of two cells by its literal. No program. -/
import Derived.Test.YtffflnpidipheaaAb10
namespace Go.Ab
section rules
variable {P : Program} {d : Option Tmp} {ty : TypeId} {pos : String} {af : Array Edge} {g : Option (Tmp × Bool)} {T : Tm} {H : Heap}
theorem run_equalIn_ptr_nil (w : World) (n : Nat) {t e : TypeId} (p : Option Addr) (hu : P.underlying t = some (.pointer e)) : (Op.equalIn (n + 1) t (.pointer p) (.pointer none)).run P w = .ok p.isNone w := by
  cases p <;> simp [Op.equalIn, run_underlying hu]
theorem h_eqn {t e tyy : TypeId} {x y : Operand} {id base idx : Nat} (hx : ev T x = .s (.ptr id base idx)) (hy : ev T y = .s .nilp) (hu : P.underlying t = some (.pointer e)) : HOk P ⟨d, .binOp .eql t x y tyy, ty, pos, af, g⟩ T H (.s (.bool false)) [] :=
  .pure fun W ρ a w _ ho => by
    obtain ⟨h1, h2⟩ := two (op := .binOp .eql t x y tyy) rfl ho hx hy
    simp only [AV.rep, SV.rep] at h1 h2
    obtain ⟨b, o, hρ, h1⟩ := h1
    exact ⟨.bool false, by simp [execOp, h1, h2, Sem.run_bind, eqGuard, binOp, Op.equal, Op.maxDepth, run_equalIn_ptr_nil w 9999 _ hu], rfl⟩
theorem h_eqnn {t e tyy : TypeId} {x y : Operand} (hx : ev T x = .s .nilp) (hy : ev T y = .s .nilp) (hu : P.underlying t = some (.pointer e)) : HOk P ⟨d, .binOp .eql t x y tyy, ty, pos, af, g⟩ T H (.s (.bool true)) [] :=
  .pure fun W ρ a w _ ho => by
    obtain ⟨h1, h2⟩ := two (op := .binOp .eql t x y tyy) rfl ho hx hy
    simp only [AV.rep, SV.rep] at h1 h2
    exact ⟨.bool true, by simp [execOp, h1, h2, Sem.run_bind, eqGuard, binOp, Op.equal, Op.maxDepth, run_equalIn_ptr_nil w 9999 _ hu], rfl⟩
/-- A literal slice of two pointers. -/
theorem h_bsl2 {t e : TypeId} {x y : Operand} {u v : SV} {n : Nat} (hx : ev T x = .s u) (hy : ev T y = .s v) (hju : u ≠ .junk) (hjv : v ≠ .junk) (hu : P.underlying t = some (.slice e)) (hs : ∀ w, (sizeOf e).run P w = .ok 1 w) (hz : ∀ w, (zeroValue e).run P w = .ok (.pointer none) w) (hn : H.length = n) :
    HOk P ⟨d, .buildSlice t 2 #[(0, x), (1, y)], ty, pos, af, g⟩ T H (.s (.slice n 0 0 2 2)) [⟨true, [.one u, .one v]⟩] := by
  subst hn
  intro W ρ a w hH hf ho next Q hq
  obtain ⟨h1, h2⟩ := two (op := .buildSlice t 2 #[(0, x), (1, y)]) rfl ho hx hy
  have c1 := SV.oneCell h1 hju
  have c2 := SV.oneCell h2 hjv
  have hrun : (execOp a.eval ⟨d, .buildSlice t 2 #[(0, x), (1, y)], ty, pos, af, g⟩).run P w = .ok (.value (.slice (some ⟨w.heap.size, 0, none⟩) 2 2)) (w.alloc (.cells #[a.eval x, a.eval y] e)) := by
    have hp : (Value.pointer none).cells = #[Value.pointer none] := rfl
    have k1 := cells_one c1
    have k2 := cells_one c2
    simp only [execOp, List.map_toArray, List.map_cons, List.map_nil]
    generalize a.eval x = X at *
    generalize a.eval y = Y at *
    simp [Instr.buildSlice, Instr.fill, Sem.run_bind, run_underlying hu, hs, hz, newRow, k1, k2, hp]
    have hr : Array.range 2 = #[0, 1] := by decide
    simp [hr]
  rw [hrun]
  have h0 : ρ H.length = none := by have := hf 0 (by simp); simpa using this
  refine hq _ _ ⟨_, .one h0 (fun ρ' hl i z hz => ?_), w.heap.size, 0, by simp [upd], rfl⟩
  match i, hz with
  | 0, hz => simp [atS, Seg.size, Seg.at] at hz; subst hz; exact ⟨_, rfl, SV.rep_le hl h1, c1⟩
  | 1, hz => simp [atS, Seg.size, Seg.at] at hz; subst hz; exact ⟨_, rfl, SV.rep_le hl h2, c2⟩
  | i + 2, hz => simp [atS, Seg.size] at hz
theorem ret_tmps3 {E : Env} {fn : Func} {T : Tm} {H : Heap} {u v x : SV} {i j k : Nat} (hr : fn.results = #[.tmp i, .tmp j, .tmp k]) (h1 : look T i = .s u) (h2 : look T j = .s v) (h3 : look T k = .s x) : Ret E fn T H (.tup [.s u, .s v, .s x]) := by
  intro ρ a w hH hT
  refine ⟨.tuple #[a.tmps.getD i undef, a.tmps.getD j undef, a.tmps.getD k undef], by simp [results, hr, Sem.run_bind], _, rfl, fun n y hy => ?_⟩
  have e1 := hT i
  have e2 := hT j
  have e3 := hT k
  rw [h1] at e1; rw [h2] at e2; rw [h3] at e3
  match n, hy with
  | 0, hy => simp at hy; subst hy; exact ⟨_, rfl, e1⟩
  | 1, hy => simp at hy; subst hy; exact ⟨_, rfl, e2⟩
  | 2, hy => simp at hy; subst hy; exact ⟨_, rfl, e3⟩
  | n + 3, hy => simp at hy
end rules
end Go.Ab
