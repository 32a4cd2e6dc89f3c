/- What all lifts of this seat's rows share. No conditions. -/
import Derived.Test.YtffflnpidipheaaAbB
import Derived.Test.YtffflnpidipheaaAesSpec
import Derived.Test.YtffflnpidipheaaRows
import Derived.ShutString
import Derived.ChangeOld
import Derived.SizedLaws
import Derived.ProofKit
set_option linter.unusedVariables false
set_option linter.unusedSimpArgs false
namespace Go.Proofs.X.lift
open Go Go.Ab Go.Proofs Go.Proofs.X Go.Proofs.Ytffflnpidipheaa
open Go.ChangeShapes Go.WideShapes Go.ChangeAt Go.RowKit
theorem own : ownKnob Try.prog.godebug = none := by kernel_rfl
theorem laidOut : laidOutB Try.prog = true := by kernel_rfl
theorem calls_below {P : Program} {f : FuncId} {args : List AV} {r : Bool} {vals : Array Value} {w : World} (h : ACall P f [] args (.s (.bool r)) []) (ha : ArgsRep (fun _ => none) args vals) :
    Calls P f vals w fun e w' => e = .returned (.bool r) ∧ Below w.heap.size w w' := by
  refine (h (fun _ => True) (fun _ => none) vals w ⟨fun _ _ _ e => (by cases e), fun _ _ _ _ e => (by cases e), fun _ _ _ _ _ _ _ _ e => (by cases e)⟩ (fun _ _ => rfl) ha).mono ?_
  rintro e w' ⟨v', ρ', rfl, hn, hv⟩
  have hv : v' = .bool r := hv
  subst hv
  exact ⟨rfl, hn.ext.os, hn.ext.tape, hn.ext.output, hn.ext.size, hn.ext.block⟩
theorem U8_of_wf {l : List Int} (h : ∀ y ∈ l, (Lit.int .u8 y).wf = true) : U8 l := U8_mem fun x hx => by
  have := h x hx
  simp [Lit.wf, IntKind.min, IntKind.max, IntKind.signed, IntKind.bits] at this
  omega
theorem args1 {ρ : Rho} {a : AV} {u : Value} (h0 : a.rep ρ u) : ArgsRep ρ [a] #[u] :=
  ⟨rfl, fun i y hy => by
    match i, hy with
    | 0, hy => simp at hy; subst hy; exact h0
    | i + 1, hy => simp at hy⟩
theorem args2 {ρ : Rho} {a b : AV} {u v : Value} (h0 : a.rep ρ u) (h1 : b.rep ρ v) : ArgsRep ρ [a, b] #[u, v] :=
  ⟨rfl, fun i y hy => by
    match i, hy with
    | 0, hy => simp at hy; subst hy; exact h0
    | 1, hy => simp at hy; subst hy; exact h1
    | i + 2, hy => simp at hy⟩
theorem args3 {ρ : Rho} {a b c : AV} {u v x : Value} (h0 : a.rep ρ u) (h1 : b.rep ρ v) (h2 : c.rep ρ x) : ArgsRep ρ [a, b, c] #[u, v, x] :=
  ⟨rfl, fun i y hy => by
    match i, hy with
    | 0, hy => simp at hy; subst hy; exact h0
    | 1, hy => simp at hy; subst hy; exact h1
    | 2, hy => simp at hy; subst hy; exact h2
    | i + 3, hy => simp at hy⟩
theorem rep_two {ρ : Rho} {x y : SV} {u v : Value} (h0 : x.cell ρ u) (h1 : y.cell ρ v) : (AV.agg [.one x, .one y]).rep ρ (.agg #[u, v]) :=
  ⟨_, rfl, rfl, fun i z hz => by
    match i, hz with
    | 0, hz => simp [atS, Seg.size, Seg.at] at hz; subst hz; exact ⟨_, rfl, h0⟩
    | 1, hz => simp [atS, Seg.size, Seg.at] at hz; subst hz; exact ⟨_, rfl, h1⟩
    | i + 2, hz => simp [atS, Seg.size] at hz⟩
theorem cellV (ρ : Rho) (a : Option Addr) (n c : Nat) : (SV.val (.slice a n c)).cell ρ (.slice a n c) := ⟨⟨rfl, rfl⟩, rfl⟩
theorem cellS {ρ : Rho} {id b o len cap : Nat} (h : ρ id = some (b, o)) : (SV.slice id 0 0 len cap).cell ρ (.slice (some ⟨b, o, none⟩) len cap) := ⟨⟨b, o, h, rfl⟩, rfl⟩
theorem cellI (ρ : Rho) (k : IntKind) (n : Int) : (SV.int k n).cell ρ (.int k n) := ⟨rfl, rfl⟩
theorem nat_u16 {z : Int} (h : (Lit.int .u16 z).wf = true) : ∃ n : Nat, n < 65536 ∧ z = (n : Int) := by
  simp [Lit.wf, IntKind.min, IntKind.max, IntKind.signed, IntKind.bits] at h
  exact ⟨z.toNat, by omega, by omega⟩
/-- One slice's block: read, never written. -/
abbrev rho1 (b o : Nat) (len : Nat) (zs : List Int) : Rho := fun i => (([((b, o), ⟨false, [.ints .u8 len zs]⟩)] : List ((Nat × Nat) × Blk))[i]?).map (·.1)
theorem hrep1 {w : World} {v : Value} {b o len cap : Nat} {zs : List Int} (h : SlIn .u8 w v b o len cap zs) : HRep (fun b => w.heap.size ≤ b) (rho1 b o len zs) [some ⟨false, [.ints .u8 len zs]⟩] w :=
  hrep_list [((b, o), ⟨false, [.ints .u8 len zs]⟩)] (fun x hx => by simp at hx; subst hx; exact h.brep)
theorem hdom1 {b o len : Nat} {zs : List Int} (id : Nat) (h : 1 ≤ id) : rho1 b o len zs id = none := by
  match id, h with
  | id + 1, _ => simp
end Go.Proofs.X.lift
