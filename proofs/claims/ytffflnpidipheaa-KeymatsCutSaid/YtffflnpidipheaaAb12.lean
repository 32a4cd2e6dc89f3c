/- Arguments opened: arrays of integers, and slices of them, as what the walks take. No program. -/
import Derived.Test.YtffflnpidipheaaAb11
import Derived.OpenShut
import Derived.ChangeSlices
import Derived.Below
namespace Go.Ab
open Go.ChangeShapes Go.WideShapes
section
variable {Hh : Type} {enc : TypeId × Value → Hh} {P : Program} {w : World} {base : Nat} {spare : Nat → Bool} {held : Bool} {fuel : Nat}
theorem open_arr_cells {t e : TypeId} {n : Nat} {k : IntKind} {cs : List Value} {x : DataW Hh × List MemPlace} (ht : P.underlying t = some (.array n e)) (he : P.underlying e = some (.int k)) (hc : P.cellsOf e = 1) (hct : P.cellsOf t = n)
    (h : DataW.trod enc P w base spare held fuel t cs = some x) : cs.length = n ∧ ∃ l : List Int, l.length = n ∧ (∀ y ∈ l, (Lit.int k y).wf = true) ∧ cs = l.map (Value.int k) := by
  obtain ⟨xs, m, _, _, hl, _, hall⟩ := DataW.trod_array ht h
  rw [hct] at hl
  refine ⟨hl, ?_⟩
  have each : ∀ i, i < n → ∃ z, cs[i]? = some (.int k z) ∧ (Lit.int k z).wf = true := by
    intro i hi
    have h1 := hall i hi
    rw [hc, Nat.mul_one] at h1
    have hx : ∃ y, xs[i]? = some y := by
      rename_i hlen
      exact ⟨_, List.getElem?_eq_getElem (by rw [hlen]; exact hi)⟩
    obtain ⟨y, hy⟩ := hx
    rw [hy] at h1
    obtain ⟨z, hz, _, hw⟩ := DataW.trod_int he h1
    have := congrArg (·[0]?) hz
    simp [List.getElem?_take, List.getElem?_drop] at this
    exact ⟨z, this, hw⟩
  have hg : ∀ (n : Nat) (cs : List Value), cs.length = n → (∀ i, i < n → ∃ z, cs[i]? = some (.int k z) ∧ (Lit.int k z).wf = true) → ∃ l : List Int, l.length = n ∧ (∀ y ∈ l, (Lit.int k y).wf = true) ∧ cs = l.map (Value.int k) := by
    intro n
    induction n with
    | zero => intro cs h _; exact ⟨[], rfl, by simp, by simpa using h⟩
    | succ n ih =>
      intro cs h hz
      cases cs with
      | nil => simp at h
      | cons c r =>
        obtain ⟨z, h1, h2⟩ := hz 0 (by omega)
        simp at h1
        subst h1
        obtain ⟨l, h3, h4, h5⟩ := ih r (by simpa using h) (fun i hi => by simpa using hz (i + 1) (by omega))
        exact ⟨z :: l, by simp [h3], by simpa [h2] using h4, by simp [h5]⟩
  exact hg n cs hl each
theorem rep_arr {k : IntKind} {n : Nat} {l : List Int} (hl : l.length = n) (ρ : Rho) : (AV.agg [.ints k n l]).rep ρ (.agg (l.map (Value.int k)).toArray) := by
  refine ⟨_, rfl, by simp [sizeS, Seg.size, hl], fun i x hx => ?_⟩
  obtain ⟨h1, h2⟩ := atS_ints1 hx
  subst h2
  exact ⟨.int k (l.getD i 0), by simp [hl, h1], rfl, rfl⟩
theorem open_arr {r : Reach} {b0 : Nat} {t e : TypeId} {n : Nat} {k : IntKind} {v : Value} {d : DataW Hh} {ps : List MemPlace} (ht : P.underlying t = some (.array n e)) (he : P.underlying e = some (.int k)) (hc : P.cellsOf e = 1) (hct : P.cellsOf t = n)
    (hval : Value.okWide P w r b0 t v) (hd : DataW.Trod enc P w base spare held t v d ps) : ∃ l : List Int, l.length = n ∧ (∀ y ∈ l, (Lit.int k y).wf = true) ∧ ∀ ρ, (AV.agg [.ints k n l]).rep ρ v := by
  simp only [Value.okWide, ht] at hval
  obtain ⟨cs, rfl, _, _⟩ := hval
  obtain ⟨fuel, hf⟩ := hd
  obtain ⟨_, l, h1, h2, h3⟩ := open_arr_cells ht he hc hct hf
  refine ⟨l, h1, h2, fun ρ => ?_⟩
  have h3 : cs.toList = l.map (Value.int k) := h3
  have : cs = (l.map (Value.int k)).toArray := by rw [← h3]
  rw [this]; exact rep_arr h1 ρ
/-- A slice of integers of which something is read. -/
structure SlIn (k : IntKind) (w : World) (v : Value) (b o len cap : Nat) (zs : List Int) : Prop where
  eq : v = .slice (some ⟨b, o, none⟩) len cap
  pos : 0 < len
  le : len ≤ cap
  max : cap ≤ maxLen
  size : zs.length = len
  wf : ∀ y ∈ zs, (Lit.int k y).wf = true
  blk : ∃ cells t fr, w.heap[b]? = some (.cells cells t fr) ∧ ∀ i, i < len → cells[o + i]? = some (.int k (zs.getD i 0))
theorem cell_blk {w : World} {a : Addr} {v : Value} (h : w.cell? a = some v) : ∃ cells t fr, w.heap[a.block]? = some (.cells cells t fr) ∧ a.spot = none ∧ cells[a.off]? = some v := by
  unfold World.cell? at h
  split at h
  · rename_i c t fr hb
    split at h
    · cases h
    · rename_i hs
      exact ⟨c, t, fr, hb, by simpa using hs, h⟩
  · cases h
theorem open_sl {t e : TypeId} {k : IntKind} {cs : List Value} {x : DataW Hh × List MemPlace} (ht : P.underlying t = some (.slice e)) (he : P.underlying e = some (.int k)) (hc : P.cellsOf e = 1)
    (h : DataW.trod enc P w base spare held fuel t cs = some x) : (∃ a c, cs = [.slice a 0 c]) ∨ ∃ v b o len cap zs, cs = [v] ∧ SlIn k w v b o len cap zs := by
  rcases open_ints ht he hc h with ⟨hcs, _⟩ | ⟨a, len, cap, zs, hcs, _, hl, hm, hz, _, hcell, hwz⟩
  · exact .inl ⟨none, 0, hcs⟩
  · by_cases h0 : len = 0
    · subst h0; exact .inl ⟨some a, cap, hcs⟩
    · have hzl : len ≤ zs.length := by rw [hz]; split <;> omega
      have hsome : ∀ i, i < len → w.cell? (a.add i) = some (.int k (zs.getD i 0)) := fun i hi => hcell i (by omega)
      obtain ⟨cells, ty, fr, hb, hsp, h1⟩ := cell_blk (hsome 0 (by omega))
      have ha : a = ⟨a.block, a.off, none⟩ := by
        have : a.spot = none := by simpa [Addr.add] using hsp
        cases a; simp_all
      refine .inr ⟨_, a.block, a.off, len, cap, zs.take len, hcs, by rw [← ha], by omega, hl, hm, by simp; omega, fun y hy => hwz y (List.mem_of_mem_take hy), cells, ty, fr, ?_, fun i hi => ?_⟩
      · rw [← hb]; congr 1
      · obtain ⟨cells', ty', fr', hb', _, h2⟩ := cell_blk (hsome i hi)
        rw [ha, addr_add] at h2 hb'
        have hbb : w.heap[a.block]? = some (.cells cells' ty' fr') := hb'
        have hb2 : w.heap[a.block]? = some (.cells cells ty fr) := by rw [← hb]; congr 1
        rw [hbb] at hb2
        cases hb2
        simp only [] at h2
        rw [h2]
        simp [List.getD, List.getElem?_take, hi]
end
section
variable {P : Program} {T : Tm} {H : Heap} {d : Option Tmp} {ty : TypeId} {pos : String} {af : Array Edge} {g : Option (Nat × Bool)}
theorem h_len_val {x : Operand} {t : TypeId} {e : TypeId} {rt : TypeId} {a : Option Addr} {n c : Nat} (hx : ev T x = .s (.val (.slice a n c))) (hu : P.underlying t = some (.slice e)) : HOk P ⟨d, .call ⟨.builtin .len, #[x], #[t]⟩, rt, pos, af, g⟩ T H (.s (.int .i64 (n : Int))) [] :=
  .pure fun W ρ a w _ ho => by
    have h1 : (ev T x).rep ρ (a.eval x) := ho x (by simp [Op.operands, Call.operands])
    rw [hx] at h1
    simp only [AV.rep, SV.rep] at h1
    exact ⟨.int .i64 n, by simp [execOp, resolve, invoke, builtin, Builtin.len_, run_underlying hu, h1.1, goInt], rfl⟩
end
end Go.Ab
