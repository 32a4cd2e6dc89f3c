/- From a walk to a call that leaves old memory be, with slices among the arguments. No program. -/
import Derived.Test.YtffflnpidipheaaAb12
namespace Go.Ab
open Go.RowKit Go.ChangeShapes
theorem calls_walk {P : Program} {f : FuncId} {fn : Func} {c : Code} {n : Nat} {args : List AV} {vals : Array Value} {ρ0 : Rho} {H0 : Heap} {w : World} {r : Bool} (hf : P.funcs[f]? = some fn) (hb : fn.body = some c) (hn : fn.ntmps = n)
    (hH : HRep (fun b => w.heap.size ≤ b) ρ0 H0 w) (hdom : ∀ id, H0.length ≤ id → ρ0 id = none) (hargs : ArgsRep ρ0 args vals) (hl : args.length ≤ n)
    (h : ∀ W w ρ0 hW hdom, Wp ⟨P, W, w, ρ0, n, H0.length, hW, hdom⟩ c (argT 0 args) H0 (DoneF ⟨P, W, w, ρ0, n, H0.length, hW, hdom⟩ fn (.s (.bool r)))) : Calls P f vals w fun e w' => e = .returned (.bool r) ∧ Below w.heap.size w w' := by
  subst hn
  have hW : ∀ b, w.heap.size ≤ b → (fun b => w.heap.size ≤ b) b := fun _ h => h
  refine calls_enter (W := fun b => w.heap.size ≤ b) (ρ0 := ρ0) (H0 := H0) (args := args) hf hb hW hH hdom hargs hl ((h _ w ρ0 hW hdom).mono ?_)
  rintro e T H1 ⟨he, hret⟩
  refine ⟨he, _, hret, fun v' ρ' w' h1 _ _ _ h5 => ?_⟩
  have h1 : v' = .bool r := h1
  subst h1
  exact ⟨rfl, h5.os, h5.tape, h5.output, h5.size, fun k hk => h5.block k hk (by simp; omega)⟩
theorem hrep_list {W : Nat → Prop} {w : World} (L : List ((Nat × Nat) × Blk)) (h : ∀ x ∈ L, x.2.rw = false ∧ x.1.1 < w.heap.size ∧ ∀ ρ, BRep ρ x.2 w x.1.1 x.1.2) : HRep W (fun i => (L[i]?).map (·.1)) (L.map fun x => some x.2) w := by
  refine ⟨fun id b o e => ?_, fun id b o k e hk => ?_, fun id id' b o o' k k' _ e e' hk hk' => ?_⟩
  · obtain ⟨x, hx, e⟩ := Option.map_eq_some_iff.1 e
    have := (h x (List.mem_of_getElem? hx)).2.1
    rw [e] at this; exact this
  · obtain ⟨x, hx, e⟩ := Option.map_eq_some_iff.1 e
    simp [hx] at hk
    subst hk
    have := h x (List.mem_of_getElem? hx)
    rw [e] at this
    exact ⟨this.2.2 _, fun hr => by rw [this.1] at hr; cases hr⟩
  · obtain ⟨x, hx, e⟩ := Option.map_eq_some_iff.1 e
    obtain ⟨y, hy, e'⟩ := Option.map_eq_some_iff.1 e'
    simp [hx] at hk
    simp [hy] at hk'
    subst hk; subst hk'
    exact ⟨(h x (List.mem_of_getElem? hx)).1, (h y (List.mem_of_getElem? hy)).1⟩
theorem SlIn.brep {k : IntKind} {w : World} {v : Value} {b o len cap : Nat} {zs : List Int} (h : SlIn k w v b o len cap zs) : (⟨false, [.ints k len zs]⟩ : Blk).rw = false ∧ b < w.heap.size ∧ ∀ ρ, BRep ρ ⟨false, [.ints k len zs]⟩ w b o := by
  obtain ⟨cells, t, fr, hb, hc⟩ := h.blk
  refine ⟨rfl, (Array.getElem?_eq_some_iff.1 hb).1, fun ρ => ⟨cells, t, fr, hb, fun e => (by cases e), fun i x hx => ?_⟩⟩
  obtain ⟨h1, h2⟩ := atS_ints1 hx
  subst h2
  exact ⟨_, hc i h1, rfl, rfl⟩
section
variable {Hh : Type} {enc : TypeId × Value → Hh} {P : Program} {w : World} {base : Nat} {spare : Nat → Bool} {held : Bool}
/-- A slice of which nothing, or something, is read. -/
def Sl (k : IntKind) (w : World) (v : Value) : Prop := (∃ a c, v = .slice a 0 c) ∨ ∃ b o len cap zs, SlIn k w v b o len cap zs
theorem open_two {r : Reach} {b0 : Nat} {t s e : TypeId} {k : IntKind} {v : Value} {d : DataW Hh} {ps : List MemPlace} (ht : P.underlying t = some (.array 2 s)) (hs : P.underlying s = some (.slice e)) (he : P.underlying e = some (.int k)) (hc : P.cellsOf e = 1) (hcs : P.cellsOf s = 1) (hct : P.cellsOf t = 2)
    (hval : Value.okWide P w r b0 t v) (hd : DataW.Trod enc P w base spare held t v d ps) : ∃ c0 c1, v = .agg #[c0, c1] ∧ Sl k w c0 ∧ Sl k w c1 := by
  simp only [Value.okWide, ht] at hval
  obtain ⟨cs, rfl, hsz, _⟩ := hval
  obtain ⟨fuel, hf⟩ := hd
  obtain ⟨xs, m, _, _, hl, hxl, hall⟩ := DataW.trod_array ht hf
  obtain ⟨l⟩ := cs
  have hl : l.length = 2 := by rw [hct] at hsz; simpa using hsz
  match l, hl with
  | [c0, c1], _ =>
    have h0 := hall 0 (by omega)
    have h1 := hall 1 (by omega)
    simp only [hcs, Value.cells] at h0 h1
    have e0 : ∃ y, xs[0]? = some y := ⟨_, List.getElem?_eq_getElem (by omega)⟩
    have e1 : ∃ y, xs[1]? = some y := ⟨_, List.getElem?_eq_getElem (by omega)⟩
    obtain ⟨y0, e0⟩ := e0
    obtain ⟨y1, e1⟩ := e1
    rw [e0] at h0
    rw [e1] at h1
    refine ⟨c0, c1, rfl, ?_, ?_⟩
    · rcases open_sl hs he hc h0 with ⟨a, c, hh⟩ | ⟨v, b, o, len, cap, zs, hh, hi⟩
      · simp at hh; exact .inl ⟨a, c, hh⟩
      · simp at hh; subst hh; exact .inr ⟨b, o, len, cap, zs, hi⟩
    · rcases open_sl hs he hc h1 with ⟨a, c, hh⟩ | ⟨v, b, o, len, cap, zs, hh, hi⟩
      · simp at hh; exact .inl ⟨a, c, hh⟩
      · simp at hh; subst hh; exact .inr ⟨b, o, len, cap, zs, hi⟩
end
end Go.Ab
