/- A part of the proofs of this claim: BCloQ, Bx45, Bx46, BClo6, BClo7, BClo8, BClo9, BCloA, BCloB. No conditions. -/
import Derived.Test.YtcddchknofjbhaaGreatA11
import Derived.Test.YtcddchknofjbhaaGreatA9
set_option linter.unusedVariables false
set_option linter.unusedSimpArgs false
section
/- Sessions: keys of what two share; which tag is ahead. No program. -/
open Go Go.Bx
namespace Go.Proofs.X
def mcB (K : List Int) (L : List (List Int)) : List Int := hmO K (tk (hmI K) L.flatten) (64 + L.flatten.length)
theorem mcB_def (K : List Int) (L : List (List Int)) : hmO K (tk (hmI K) L.flatten) (64 + L.flatten.length) = mcB K L := rfl
theorem mcB_len (K : List Int) (L : List (List Int)) : (mcB K L).length = 32 := hmO_len _ _ _
abbrev laneB : List Int := [108, 97, 110, 101]
def kyB (K : List Int) : Nat → List Int
  | 0 => []
  | i + 1 => mcB K [kyB K i, laneB, [((i + 1 : Nat) : Int)]]
theorem kyB_s (K : List Int) (i : Nat) : mcB K [kyB K i, laneB, [((i + 1 : Nat) : Int)]] = kyB K (i + 1) := rfl
theorem kyB_s1 (K : List Int) (i : Nat) : (kyB K (i + 1)).length = 32 := mcB_len _ _
theorem kyB_le (K : List Int) (i : Nat) : (kyB K i).length ≤ 32 := by
  cases i with
  | zero => exact Nat.zero_le _
  | succ i => exact Nat.le_of_eq (kyB_s1 K i)
def koB (K : List Int) : Nat → List Int
  | 0 => []
  | i + 1 => koB K i ++ kyB K (i + 1)
theorem koB_s (K : List Int) (i : Nat) : koB K i ++ kyB K (i + 1) = koB K (i + 1) := rfl
theorem koB_len (K : List Int) (i : Nat) : (koB K i).length = 32 * i := by
  induction i with
  | zero => rfl
  | succ i ih => rw [← koB_s, List.length_append, ih, kyB_s1]; omega
def kmB (sh : Nat) (ID : List Int) : List Int := koB (mcB ID [be 32 sh]) 6
theorem kmB_def (sh : Nat) (ID : List Int) : koB (mcB ID [be 32 sh]) 6 = kmB sh ID := rfl
theorem kmB_len (sh : Nat) (ID : List Int) : (kmB sh ID).length = 192 := koB_len _ _
def kM (B : List Int) (i : Nat) : List Int := ((B.drop (48 * i)).take 48).take 32
def kC (B : List Int) (i : Nat) : List Int := (((B.drop (48 * i)).take 48).drop 32).take 16
theorem kM_len {B : List Int} (h : B.length = 192) {i : Nat} (hi : i < 4) : (kM B i).length = 32 := by
  simp only [kM, List.length_take, List.length_drop]; omega
abbrev z32 : List Int := zs (List.replicate 32 0)
abbrev z16 : List Int := zs (List.replicate 16 0)
inductive KcR (B : List Int) : Nat → List Seg → Prop
  | n0 : KcR B 0 [.ints .u8 32 z32, .ints .u8 16 z16, .ints .u8 32 z32, .ints .u8 16 z16, .ints .u8 32 z32, .ints .u8 16 z16, .ints .u8 32 z32, .ints .u8 16 z16]
  | n1 : KcR B 1 [.ints .u8 32 (kM B 0), .ints .u8 16 (kC B 0), .ints .u8 32 z32, .ints .u8 16 z16, .ints .u8 32 z32, .ints .u8 16 z16, .ints .u8 32 z32, .ints .u8 16 z16]
  | n2 : KcR B 2 [.ints .u8 32 (kM B 0), .ints .u8 16 (kC B 0), .ints .u8 32 (kM B 1), .ints .u8 16 (kC B 1), .ints .u8 32 z32, .ints .u8 16 z16, .ints .u8 32 z32, .ints .u8 16 z16]
  | n3 : KcR B 3 [.ints .u8 32 (kM B 0), .ints .u8 16 (kC B 0), .ints .u8 32 (kM B 1), .ints .u8 16 (kC B 1), .ints .u8 32 (kM B 2), .ints .u8 16 (kC B 2), .ints .u8 32 z32, .ints .u8 16 z16]
  | n4 : KcR B 4 [.ints .u8 32 (kM B 0), .ints .u8 16 (kC B 0), .ints .u8 32 (kM B 1), .ints .u8 16 (kC B 1), .ints .u8 32 (kM B 2), .ints .u8 16 (kC B 2), .ints .u8 32 (kM B 3), .ints .u8 16 (kC B 3)]
theorem KcR.e0 {B : List Int} {S : List Seg} (h : KcR B 0 S) : S = [.ints .u8 32 z32, .ints .u8 16 z16, .ints .u8 32 z32, .ints .u8 16 z16, .ints .u8 32 z32, .ints .u8 16 z16, .ints .u8 32 z32, .ints .u8 16 z16] := by cases h; rfl
theorem KcR.e1 {B : List Int} {S : List Seg} (h : KcR B 1 S) : S = [.ints .u8 32 (kM B 0), .ints .u8 16 (kC B 0), .ints .u8 32 z32, .ints .u8 16 z16, .ints .u8 32 z32, .ints .u8 16 z16, .ints .u8 32 z32, .ints .u8 16 z16] := by cases h; rfl
theorem KcR.e2 {B : List Int} {S : List Seg} (h : KcR B 2 S) : S = [.ints .u8 32 (kM B 0), .ints .u8 16 (kC B 0), .ints .u8 32 (kM B 1), .ints .u8 16 (kC B 1), .ints .u8 32 z32, .ints .u8 16 z16, .ints .u8 32 z32, .ints .u8 16 z16] := by cases h; rfl
theorem KcR.e3 {B : List Int} {S : List Seg} (h : KcR B 3 S) : S = [.ints .u8 32 (kM B 0), .ints .u8 16 (kC B 0), .ints .u8 32 (kM B 1), .ints .u8 16 (kC B 1), .ints .u8 32 (kM B 2), .ints .u8 16 (kC B 2), .ints .u8 32 z32, .ints .u8 16 z16] := by cases h; rfl
theorem KcR.e4 {B : List Int} {S : List Seg} (h : KcR B 4 S) : S = [.ints .u8 32 (kM B 0), .ints .u8 16 (kC B 0), .ints .u8 32 (kM B 1), .ints .u8 16 (kC B 1), .ints .u8 32 (kM B 2), .ints .u8 16 (kC B 2), .ints .u8 32 (kM B 3), .ints .u8 16 (kC B 3)] := by cases h; rfl
abbrev ltT (A B : List Int) : Prop := cmpT A B 16 < 0
theorem cmpT_s (A B : List Int) (n : Nat) : cmpT A B (n + 1) = if cmpT A B n ≠ 0 then cmpT A B n else if A.getD n 0 < B.getD n 0 then -1 else if B.getD n 0 < A.getD n 0 then 1 else 0 := rfl
theorem cmpT_neg (A B : List Int) (n : Nat) : cmpT B A n = - cmpT A B n := by
  induction n with
  | zero => rfl
  | succ n ih =>
    rw [cmpT_s, cmpT_s, ih]
    split <;> split <;> (try omega)
    all_goals (split <;> split <;> (try split) <;> omega)
theorem cmpT_0 (A B : List Int) (n : Nat) (h : cmpT A B n = 0) : ∀ i, i < n → A.getD i 0 = B.getD i 0 := by
  induction n with
  | zero => intro i hi; omega
  | succ n ih =>
    rw [cmpT_s] at h
    split at h
    · omega
    · rename_i h1
      intro i hi
      rcases Nat.lt_succ_iff_lt_or_eq.1 hi with h2 | rfl
      · exact ih (by omega) i h2
      · split at h
        · omega
        · split at h
          · omega
          · omega
theorem cmpT_stay (A B : List Int) (n : Nat) (v : Int) (hv : v ≠ 0) (h : cmpT A B n = v) : ∀ k, cmpT A B (n + k) = v := by
  intro k
  induction k with
  | zero => exact h
  | succ k ih => rw [← Nat.add_assoc, cmpT_s, ih, if_pos hv]
theorem cmpT_at {A B : List Int} {i : Nat} (hi : i < 16) (h0 : cmpT A B i = 0) : (A.getD i 0 < B.getD i 0 → cmpT A B 16 = -1) ∧ (B.getD i 0 < A.getD i 0 → cmpT A B 16 = 1) := by
  have e : i + 1 + (16 - (i + 1)) = 16 := by omega
  refine ⟨fun h => ?_, fun h => ?_⟩
  · have := cmpT_stay A B (i + 1) (-1) (by decide) (by rw [cmpT_s, h0, if_neg (by omega), if_pos h]) (16 - (i + 1))
    rwa [e] at this
  · have := cmpT_stay A B (i + 1) 1 (by decide) (by rw [cmpT_s, h0, if_neg (by omega), if_neg (by omega), if_pos h]) (16 - (i + 1))
    rwa [e] at this
theorem cmpT_n {A B : List Int} {i : Nat} (h0 : cmpT A B i = 0) (h1 : ¬ A.getD i 0 < B.getD i 0) (h2 : ¬ B.getD i 0 < A.getD i 0) : cmpT A B (i + 1) = 0 := by
  rw [cmpT_s, h0, if_neg (by omega), if_neg h1, if_neg h2]
theorem ltT_other {A B : List Int} (hA : A.length = 16) (hB : B.length = 16) (h : A ≠ B) : ltT A B ↔ ¬ ltT B A := by
  have h1 := cmpT_neg A B 16
  have h2 : cmpT A B 16 ≠ 0 := fun h0 => h (eqI (by omega) fun i hi => cmpT_0 A B 16 h0 i (by omega))
  show cmpT A B 16 < 0 ↔ ¬ cmpT B A 16 < 0
  omega
def saB (A B M : List Int) : List Int := if ltT A B then kM M 1 else kM M 0
def heB (A B M : List Int) : List Int := if ltT A B then kM M 0 else kM M 1
def omB (A B M : List Int) : List Int := if ltT A B then kM M 3 else kM M 2
def ocB (A B M : List Int) : List Int := if ltT A B then kC M 3 else kC M 2
def imB (A B M : List Int) : List Int := if ltT A B then kM M 2 else kM M 3
def icB (A B M : List Int) : List Int := if ltT A B then kC M 2 else kC M 3
abbrev SESB (A B ID : List Int) (ep : Nat) (M : List Int) : List Seg := SESS ID B ep (omB A B M) (ocB A B M) (imB A B M) (icB A B M) (saB A B M) (heB A B M)
theorem ses_lt {A B : List Int} (h : ltT A B) (M : List Int) : omB A B M = kM M 3 ∧ ocB A B M = kC M 3 ∧ imB A B M = kM M 2 ∧ icB A B M = kC M 2 ∧ saB A B M = kM M 1 ∧ heB A B M = kM M 0 := ⟨if_pos h, if_pos h, if_pos h, if_pos h, if_pos h, if_pos h⟩
theorem ses_ge {A B : List Int} (h : ¬ ltT A B) (M : List Int) : omB A B M = kM M 2 ∧ ocB A B M = kC M 2 ∧ imB A B M = kM M 3 ∧ icB A B M = kC M 3 ∧ saB A B M = kM M 0 ∧ heB A B M = kM M 1 := ⟨if_neg h, if_neg h, if_neg h, if_neg h, if_neg h, if_neg h⟩
theorem sa_he {A B : List Int} (hA : A.length = 16) (hB : B.length = 16) (h : A ≠ B) (M : List Int) : saB A B M = heB B A M := by
  have := ltT_other hA hB h
  unfold saB heB
  by_cases h2 : ltT B A
  · rw [if_pos h2, if_neg (fun h3 => this.1 h3 h2)]
  · rw [if_neg h2, if_pos (this.2 h2)]
theorem saB_len {A B M : List Int} (h : M.length = 192) : (saB A B M).length = 32 := by unfold saB; split <;> exact kM_len h (by omega)
theorem heB_len {A B M : List Int} (h : M.length = 192) : (heB A B M).length = 32 := by unfold heB; split <;> exact kM_len h (by omega)
end Go.Proofs.X
end

section
/- Arrays built of structs. -/
open Go
namespace Go.Bx
section
variable {P : Program} {T : Tm} {H : Heap} {d : Option Tmp} {ty : TypeId} {pos : String} {af : Array Edge} {g : Option (Nat × Bool)}
theorem k_bdA {t e : TypeId} {n sz : Nat} {parts : Array (Nat × Operand)} {Z : List Seg} (segs : List Seg) [hu : Und P t (.array n e)] [hz : Zv P t Z] [he : Sz P e sz] (hl : (partsOf T parts.toList).all (fun p => p.2.solid) = true := by kernel_rfl) (hs : fillS (fun i => some (i * sz, sz)) Z (partsOf T parts.toList) = some segs := by kernel_rfl) : LOk P ⟨d, .build t parts, ty, pos, af, g⟩ T H H (.agg segs) [] [] :=
  let ⟨_, h1, h2⟩ := hz.h
  l_buildA rfl (partsOf_ok hl) hu.h h1 he.h h2 hs
theorem k_bdS {t : TypeId} {places : Array (Nat × Nat)} {parts : Array (Nat × Operand)} {Z : List Seg} (segs : List Seg) [hp : Pl P t places] [hz : Zv P t Z] (hl : (partsOf T parts.toList).all (fun p => p.2.solid) = true := by kernel_rfl) (hs : fillS (places[·]?) Z (partsOf T parts.toList) = some segs := by kernel_rfl) : LOk P ⟨d, .build t parts, ty, pos, af, g⟩ T H H (.agg segs) [] [] :=
  let ⟨_, h1, h2⟩ := hz.h
  let ⟨_, p1, p2⟩ := hp.h
  l_build rfl (partsOf_ok hl) p1 h1 p2 h2 hs
theorem k_ixA (q : Nat) (j' : Nat) {t e : TypeId} {x i : Operand} {id base n sz : Nat} {k : IntKind} {j : Int} [hu : Und P t (.array n e)] [hs : Sz P e sz] (hx : ev T x = .s (.ptr id base 0) := by rfl) (hi : ev T i = .s (.int k j) := by rfl) (hj : j = (j' : Int) := by rfl) (h1 : j' < n := by exact Nat.le_of_ble_eq_true rfl) (hq : base + j' * sz = q := by rfl) : LOk P ⟨d, .indexAddr t x i, ty, pos, af, g⟩ T H H (.s (.ptr id q 0)) [] [] :=
  (l_ixp hx hi hu.h hs.h (by rw [hj]; omega) (by rw [hj]; omega) rfl).conv (R := []) (fun _ W ρ w u _ _ h => by
    subst hq; subst hj
    obtain ⟨b, o, h1, h2⟩ := h
    exact ⟨b, o, h1, by rw [h2, Int.toNat_natCast]; simp [Nat.add_assoc]⟩) (fun _ h => by cases h)
theorem k_ixF (q : Nat) (j' : Nat) {t e : TypeId} {x i : Operand} {m base n sz : Nat} {f : Nat → SV} {k : IntKind} {j : Int} [hu : Und P t (.array n e)] [hs : Sz P e sz] (hx : ev T x = .s (.fptr m f base 0) := by rfl) (hi : ev T i = .s (.int k j) := by rfl) (hj : j = (j' : Int) := by rfl) (h1 : j' < n := by exact Nat.le_of_ble_eq_true rfl) (hq : base + j' * sz = q := by rfl) : LOk P ⟨d, .indexAddr t x i, ty, pos, af, g⟩ T H H (.s (.fptr m f q 0)) [] [] :=
  (l_ixf hx hi hu.h hs.h (by rw [hj]; omega) (by rw [hj]; omega) rfl).conv (R := []) (fun _ W ρ w u _ _ h => by
    subst hq; subst hj
    obtain ⟨b, o, cs, h1, h2⟩ := h
    exact ⟨b, o, cs, by rw [h1, Int.toNat_natCast]; simp [Nat.add_assoc], h2⟩) (fun _ h => by cases h)
theorem k_slnc {t e : TypeId} {x y y2 : Operand} {sz : Nat} {k k2 : IntKind} {z z2 : Int} [hu : Und P t (.slice e)] [hs : Sz P e sz] (hx : ev T x = .s .nils := by rfl) (hy : ev T y = .s (.int k z) := by rfl) (hz : z = ((0 : Nat) : Int) := by rfl) (hy2 : ev T y2 = .s (.int k2 z2) := by rfl) (hz2 : z2 = ((0 : Nat) : Int) := by rfl) : LOk P ⟨d, .slice t x none (some y) (some y2), ty, pos, af, g⟩ T H H (.s .nils) [] [] :=
  lok_pure fun ρ a w ho => by
    obtain ⟨k1, k3⟩ := slice_ops ho
    rw [hx] at k1
    have hev : a.eval x = .slice none 0 0 := k1
    have hb := run_bounds (P := P) (T := T) (ρ := ρ) (a := a) (b := true) (w := w) (len := 0) (cap := 0) (l := 0) (h := 0) (m := 0) (lo := none) (hi := some y) (mx := some y2) rfl ⟨k, z, hy, hz⟩ ⟨k2, z2, hy2, hz2⟩ (fun _ => rfl) k3 (Nat.le_refl _) (Nat.le_refl _) (Nat.le_refl _)
    refine ⟨.slice none 0 0, ?_, rfl⟩
    rw [exec_slice, hev, sliceAt_sl hu.h, run_slice hu.h hs.h hb]
    rfl
end
end Go.Bx
end

section
/- Structs compared. -/
open Go
namespace Go.Bx
inductive EqF (P : Program) : Nat → List Field → Nat → List Seg → List Seg → Bool → Prop
  | nil {d o : Nat} : EqF P d [] o [] [] true
  | ints {d o n : Nat} {f : Field} {fs : List Field} {k : IntKind} {e : TypeId} {l m : List Int} {X Y : List Seg} {r : Bool} (hnm : (f.name == "_") = false) (ho : f.offset = o) (hu : P.underlying f.type = some (.array n e)) (he : P.underlying e = some (.int k)) (hs : ∀ w, (sizeOf e).run P w = .ok 1 w) (ha : ∀ w, (isAgg e).run P w = .ok false w) (hg : ∀ w, (isAgg f.type).run P w = .ok true w) (hz : ∀ w, (sizeOf f.type).run P w = .ok n w) (hl : l.length = n) (hm : m.length = n) (h : EqF P d fs (o + n) X Y r) :
      EqF P d (f :: fs) o (.ints k n l :: X) (.ints k n m :: Y) (decide (l = m) && r)
  | int {d o : Nat} {f : Field} {fs : List Field} {k k' : IntKind} {a b : Int} {X Y : List Seg} {r : Bool} (hnm : (f.name == "_") = false) (ho : f.offset = o) (hu : P.underlying f.type = some (.int k')) (hg : ∀ w, (isAgg f.type).run P w = .ok false w) (h : EqF P d fs (o + 1) X Y r) :
      EqF P d (f :: fs) o (.one (.int k a) :: X) (.one (.int k b) :: Y) (decide (a = b) && r)
  | str {d o n : Nat} {f : Field} {fs : List Field} {gs : Array Field} {X1 Y1 X Y X' Y' : List Seg} {r1 r : Bool} (hnm : (f.name == "_") = false) (ho : f.offset = o) (hu : P.underlying f.type = some (.struct gs)) (hp : P.stoodInHeld f.type = false) (hg : ∀ w, (isAgg f.type).run P w = .ok true w) (hz : ∀ w, (sizeOf f.type).run P w = .ok n w) (h1 : EqF P d gs.toList 0 X1 Y1 r1) (hX : sizeS X1 = n) (hY : sizeS Y1 = n) (eX : X1 ++ X = X') (eY : Y1 ++ Y = Y') (h : EqF P (d + 1) fs (o + n) X Y r) :
      EqF P (d + 1) (f :: fs) o X' Y' (r1 && r)
theorem EqF.up {P : Program} {d : Nat} {fs : List Field} {o : Nat} {X Y : List Seg} {r : Bool} (h : EqF P d fs o X Y r) : EqF P (d + 1) fs o X Y r := by
  induction h with
  | nil => exact .nil
  | ints hnm ho hu he hs ha hg hz hl hm _ ih => exact .ints hnm ho hu he hs ha hg hz hl hm ih
  | int hnm ho hu hg _ ih => exact .int hnm ho hu hg ih
  | str hnm ho hu hp hg hz _ hX hY eX eY _ ih1 ih => exact .str hnm ho hu hp hg hz ih1 hX hY eX eY ih
def AtC (ρ : Rho) (xs : Array Value) (o : Nat) (X : List Seg) : Prop := ∀ i y, atS X i = some y → ∃ u, xs[o + i]? = some u ∧ y.rep ρ u
theorem AtC.tail {ρ : Rho} {xs : Array Value} {o n : Nat} {s X : List Seg} (hs : sizeS s = n) (h : AtC ρ xs o (s ++ X)) : AtC ρ xs (o + n) X := fun i y hy => by
  obtain ⟨u, h1, h2⟩ := h (n + i) y (by rw [atS_append, hs, if_neg (by omega), Nat.add_sub_cancel_left]; exact hy)
  exact ⟨u, by rw [← h1, Nat.add_assoc], h2⟩
theorem AtC.head {ρ : Rho} {xs : Array Value} {o n : Nat} {s X : List Seg} (hs : sizeS s = n) (h : AtC ρ xs o (s ++ X)) : AtC ρ (xs.extract o (o + n)) 0 s := fun i y hy => by
  have hi : i < n := by rw [← hs]; exact atS_lt hy
  obtain ⟨u, h1, h2⟩ := h i y (by rw [atS_append, if_pos (by omega)]; exact hy)
  have hlt := (Array.getElem?_eq_some_iff.1 h1).1
  exact ⟨u, by rw [Nat.zero_add, Array.getElem?_extract, if_pos (by omega)]; exact h1, h2⟩
section
variable {P : Program} {w : World}
theorem run_part_agg {t : TypeId} {n o : Nat} {xs : Array Value} (hg : ∀ w, (isAgg t).run P w = .ok true w) (hz : ∀ w, (sizeOf t).run P w = .ok n w) : (part t xs o).run P w = .ok (.agg (xs.extract o (o + n))) w := by
  simp [part, Sem.run_bind, hg, hz]
theorem run_part_one {t : TypeId} {o : Nat} {xs : Array Value} {v : Value} (hg : ∀ w, (isAgg t).run P w = .ok false w) (h : xs[o]? = some v) : (part t xs o).run P w = .ok v w := by
  simp [part, Sem.run_bind, hg, h]
theorem run_eqFields {d : Nat} {fs : List Field} {o : Nat} {X Y : List Seg} {r : Bool} (h : EqF P d fs o X Y r) : ∀ {ρ : Rho} {xs ys : Array Value}, AtC ρ xs o X → AtC ρ ys o Y → ∀ w, (Op.eqFields (d + 2) xs ys fs).run P w = .ok r w := by
  induction h with
  | nil => intro ρ xs ys _ _ w; rfl
  | @ints d o n f fs k e l m X Y r hnm ho hu he hs ha hg hz hl hm _ ih =>
    intro ρ xs ys hx hy w
    have hne : f.name ≠ "_" := by simpa using hnm
    have hsz : sizeS [Seg.ints k n l] = n := rfl
    have hsz2 : sizeS [Seg.ints k n m] = n := rfl
    have h1 := AtC.head (s := [.ints k n l]) hsz hx
    have h2 := AtC.head (s := [.ints k n m]) hsz2 hy
    have c : ∀ {zs : Array Value} {l : List Int}, AtC ρ zs 0 [.ints k n l] → ∀ i, i < n → zs[i]? = some (.int k (l.getD i 0)) := fun {zs l} hz i hi => by
      obtain ⟨u, q1, q2⟩ := hz i (.int k (l.getD i 0)) (by
        have hs : (Seg.ints k n l).size = n := rfl
        simp only [atS]; rw [if_pos (by rw [hs]; exact hi)]; rfl)
      rw [Nat.zero_add] at q1
      exact q1.trans (congrArg some q2)
    have q := run_equalIn_ints (P := P) (w := w) d hu he hs ha (c h1) (c h2)
    simp only [Op.eqFields, hne, ne_eq, not_false_eq_true, if_true, Sem.run_bind, ho, run_part_agg hg hz, Result.andThen_ok, q, Sem.run_ite, eq_getD hl hm]
    by_cases hlm : l = m
    · simp only [hlm, decide_true, Bool.not_true, Bool.false_eq_true, if_false, Bool.true_and]
      exact ih (AtC.tail (s := [.ints k n l]) hsz hx) (AtC.tail (s := [.ints k n m]) hsz2 hy) w
    · simp [hlm]
  | @int d o f fs k k' a b X Y r hnm ho hu hg _ ih =>
    intro ρ xs ys hx hy w
    have hne : f.name ≠ "_" := by simpa using hnm
    obtain ⟨u, u1, u2⟩ := hx 0 (.int k a) rfl
    obtain ⟨v, v1, v2⟩ := hy 0 (.int k b) rfl
    rw [Nat.add_zero] at u1 v1
    have u2 : u = .int k a := u2
    have v2 : v = .int k b := v2
    subst u2; subst v2
    simp only [Op.eqFields, hne, ne_eq, not_false_eq_true, if_true, Sem.run_bind, ho, run_part_one hg u1, run_part_one hg v1, Result.andThen_ok, run_equalIn_int w _ _ k k' _ _ hu, Sem.run_ite]
    by_cases hab : a = b
    · simp only [hab, beq_self_eq_true, decide_true, Bool.not_true, Bool.false_eq_true, if_false, Bool.true_and]
      exact ih (AtC.tail (s := [.one (.int k a)]) rfl hx) (AtC.tail (s := [.one (.int k b)]) rfl hy) w
    · have : (a == b) = false := by simpa using hab
      simp [this, hab]
  | @str d o n f fs gs X1 Y1 X Y X' Y' r1 r hnm ho hu hp hg hz _ hX hY eX eY _ ih1 ih =>
    intro ρ xs ys hx hy w
    subst eX; subst eY
    have hne : f.name ≠ "_" := by simpa using hnm
    have hf : P.fieldsOf f.type = gs := by simp [Program.fieldsOf, hu]
    have q := run_equalIn_struct (P := P) w (d + 2) f.type (xs.extract o (o + n)) (ys.extract o (o + n)) (by rw [hf]; exact hu) hp
    rw [hf, ih1 (AtC.head hX hx) (AtC.head hY hy) w] at q
    simp only [Op.eqFields, hne, ne_eq, not_false_eq_true, if_true, Sem.run_bind, ho, run_part_agg hg hz, Result.andThen_ok, q, Sem.run_ite]
    cases r1 with
    | true =>
      simp only [Bool.not_true, Bool.false_eq_true, if_false, Bool.true_and]
      exact ih (AtC.tail hX hx) (AtC.tail hY hy) w
    | false => simp
end
section rules
variable {P : Program} {T : Tm} {H : Heap} {d : Option Tmp} {ty : TypeId} {pos : String} {af : Array Edge} {g : Option (Nat × Bool)}
theorem agg_at {ρ : Rho} {X : List Seg} {v : Value} (h : (AV.agg X).rep ρ v) : ∃ cs : Array Value, v = .agg cs ∧ AtC ρ cs 0 X := by
  obtain ⟨cs, h1, h2, h3⟩ := h
  refine ⟨cs, h1, fun i y hy => ?_⟩
  obtain ⟨u, hu, hr, _⟩ := h3 i y hy
  exact ⟨u, by rw [Nat.zero_add]; exact hu, hr⟩
theorem eqS_run {t : TypeId} {fields : Array Field} {X Y : List Seg} {r : Bool} {ρ : Rho} {u v : Value} {w : World} (hu : P.underlying t = some (.struct fields)) (hp : P.stoodInHeld t = false) (h : EqF P 9997 fields.toList 0 X Y r) (h1 : (AV.agg X).rep ρ u) (h2 : (AV.agg Y).rep ρ v) : ∃ xs ys, u = .agg xs ∧ v = .agg ys ∧ (Op.equalIn 10000 t (.agg xs) (.agg ys)).run P w = .ok r w := by
  obtain ⟨xs, rfl, c1⟩ := agg_at h1
  obtain ⟨ys, rfl, c2⟩ := agg_at h2
  have hf : P.fieldsOf t = fields := by simp [Program.fieldsOf, hu]
  refine ⟨xs, ys, rfl, rfl, ?_⟩
  have q := run_equalIn_struct (P := P) w 9999 t xs ys (by rw [hf]; exact hu) hp
  rw [hf, run_eqFields h c1 c2 w] at q
  exact q
theorem k_neS {t : TypeId} {fields : Array Field} {x y : Operand} {tyy : TypeId} {X Y : List Seg} {r : Bool} [hu : Und P t (.struct fields)] [hg : NoEq P t] (hx : ev T x = .agg X) (hy : ev T y = .agg Y) (h : EqF P 9997 fields.toList 0 X Y r) (hp : P.stoodInHeld t = false := by kernel_rfl) : LOk P ⟨d, .binOp .neq t x y tyy, ty, pos, af, g⟩ T H H (.s (.bool (!r))) [] [] :=
  lok_pure fun ρ a w ho => by
    obtain ⟨h1, h2⟩ := two (op := .binOp .neq t x y tyy) rfl ho hx hy
    obtain ⟨xs, ys, e1, e2, q⟩ := eqS_run (w := w) hu.h hp h h1 h2
    refine ⟨.bool (!r), ?_, rfl⟩
    simp only [execOp, e1, e2, Sem.run_bind, run_eqGuard_agg w .neq t x y xs ys hg.h, Result.andThen_ok, run_neq_struct w t xs ys]
    rw [q]
    simp only [Result.andThen_ok, Sem.run_pure]
end rules
end Go.Bx
end

section
set_option maxRecDepth 100000
set_option maxHeartbeats 4000000
open Go Go.Bx Go.Proofs
namespace Go.Proofs.X
attribute [local irreducible] be gN ckS encL enF up8 chk pk0 pkB mayK wd asB tagS mcB kyB koB kmB kM kC cmpT omB ocB imB icB saB heB expP fineP inP mayP
theorem prime_lt (n : Nat) (h : n < 2) : Con Tryz.prog 45 [.s (.int .u64 ((n : Nat) : Int))] [] (.s (.bool false)) [] := by
 refine con_in 17 Tryz.func45 rfl rfl (m := 0) rfl ?_
 intro E hP hn hE
 refine qz hP hn ?_
 refine s_op k_as ?_
 refine s_nil trivial (n_wp (w_seq (qz hP hn ?_)))
 refine o2 ?_
 refine s_nil trivial (n_wp ?_)
 refine w_T rfl ?_ (decide_eq_true h)
 refine qz hP hn ?_
 refine s_op k_as ?_
 refine s_nil trivial (n_wp (w_ret (r_thn ?_)))
 exact d_ret hP hn hE [] (by first | exact r_tmp Tryz.results45 | exact r_tmpa Tryz.results45)

theorem prime_y (n : Nat) (hn2 : n < 4294967296) (h : prmN n) : Con Tryz.prog 45 [.s (.int .u64 ((n : Nat) : Int))] [] (.s (.bool true)) [] := by
 refine con_in 17 Tryz.func45 rfl rfl (m := 0) rfl ?_
 intro E hP hn hE
 have hge := h.1
 refine qz hP hn ?_
 refine s_op k_as ?_
 refine s_nil trivial (n_wp (w_seq (qz hP hn ?_)))
 refine o2 ?_
 refine s_nil trivial (n_wp ?_)
 refine w_F rfl ?_ (decide_eq_false (by omega))
 refine w_skip (n_wp (w_seq (qz hP hn ?_)))
 refine s_op k_as ?_
 refine s_nil trivial (n_wp (w_block ?_))
 refine c_loop (fun m_ T H => ∃ d, 2 ≤ d ∧ d ≤ 65536 ∧ m_ = 65536 - d ∧ (∀ e, 2 ≤ e → e < d → n % e ≠ 0) ∧ T = [(0, .s (.int .u64 ((n : Nat) : Int))), (3, .s (.int .u64 ((d : Nat) : Int)))] ∧ H = []) (65534) ⟨2, by omega, by omega, rfl, fun e h1 h2 => by omega, rfl, rfl⟩ (wk hE []) ?_
 rintro n_ T_ H_ ⟨d, hd2, hd, rfl, hup, rfl, rfl⟩
 have hdd : d * d ≤ 65536 * 65536 := Nat.mul_le_mul hd hd
 refine w_seq (qz hP hn ?_)
 refine o3 ?_
 refine o2 ?_
 refine s_nil trivial (n_wp ?_)
 refine w_if rfl (fun h_t10 => ?_) (fun h_t10 => ?_)
 · have hd3 : d < 65536 := Nat.lt_of_not_le fun hge => by
    have := Nat.mul_le_mul hge hge
    omega
   have hr := h.2 d hd2 h_t10
   refine w_skip (n_wp (w_seq (w_block (qz hP hn ?_))))
   refine o4 ?_
   refine s_nil trivial (n_wp ?_)
   refine w_F rfl ?_ (decide_eq_false hr)
   refine w_skip (n_blo (n_wp (g_reg hP hn ?_)))
   refine o3 ?_
   refine s_nil trivial ?_
   exact n_round (65536 - (d + 1)) (by omega) ⟨d + 1, by omega, by omega, rfl, fun e h1 h2 => (Nat.lt_succ_iff_lt_or_eq.1 h2).elim (hup e h1) (fun e2 => e2 ▸ hr), rfl, rfl⟩ (wk hE [])
 · refine w_exit (x_thn (x_thn (x_eq (n_wp (qz hP hn ?_)))))
   refine s_op k_as ?_
   refine s_nil trivial (n_wp (w_ret ?_))
   exact d_ret hP hn hE [] (by first | exact r_tmp Tryz.results45 | exact r_tmpa Tryz.results45)

theorem prime_no (n : Nat) (hn2 : n < 4294967296) (hge : 2 ≤ n) (j : Nat) (hj2 : 2 ≤ j) (hjj : j * j ≤ n) (hz : n % j = 0) : Con Tryz.prog 45 [.s (.int .u64 ((n : Nat) : Int))] [] (.s (.bool false)) [] := by
 refine con_in 17 Tryz.func45 rfl rfl (m := 0) rfl ?_
 intro E hP hn hE
 refine qz hP hn ?_
 refine s_op k_as ?_
 refine s_nil trivial (n_wp (w_seq (qz hP hn ?_)))
 refine o2 ?_
 refine s_nil trivial (n_wp ?_)
 refine w_F rfl ?_ (decide_eq_false (by omega))
 refine w_skip (n_wp (w_seq (qz hP hn ?_)))
 refine s_op k_as ?_
 refine s_nil trivial (n_wp (w_block ?_))
 refine c_loop (fun m_ T H => ∃ d, 2 ≤ d ∧ d ≤ 65536 ∧ m_ = 65536 - d ∧ (∀ e, 2 ≤ e → e < d → n % e ≠ 0) ∧ T = [(0, .s (.int .u64 ((n : Nat) : Int))), (3, .s (.int .u64 ((d : Nat) : Int)))] ∧ H = []) (65534) ⟨2, by omega, by omega, rfl, fun e h1 h2 => by omega, rfl, rfl⟩ (wk hE []) ?_
 rintro n_ T_ H_ ⟨d, hd2, hd, rfl, hup, rfl, rfl⟩
 have hdd : d * d ≤ 65536 * 65536 := Nat.mul_le_mul hd hd
 refine w_seq (qz hP hn ?_)
 refine o3 ?_
 refine o2 ?_
 refine s_nil trivial (n_wp ?_)
 have hdj : d ≤ j := Nat.le_of_not_lt fun h => hup j hj2 h hz
 have hdn : d * d ≤ n := Nat.le_trans (Nat.mul_le_mul hdj hdj) hjj
 have hd3 : d < 65536 := Nat.lt_of_not_le fun hge => by
  have := Nat.mul_le_mul hge hge
  omega
 refine w_T rfl ?_ (decide_eq_true hdn)
 refine w_skip (n_wp (w_seq (w_block (qz hP hn ?_))))
 refine o4 ?_
 refine s_nil trivial (n_wp ?_)
 refine w_if rfl (fun h_t16 => ?_) (fun h_t16 => ?_)
 · refine qz hP hn ?_
   refine s_op k_as ?_
   refine s_nil trivial (n_wp (w_ret (r_blo (r_thn (r_thn (r_blo (r_thn ?_)))))))
   exact d_ret hP hn hE [] (by first | exact r_tmp Tryz.results45 | exact r_tmpa Tryz.results45)
 · have hr := h_t16
   refine w_skip (n_blo (n_wp (g_reg hP hn ?_)))
   refine o3 ?_
   refine s_nil trivial ?_
   exact n_round (65536 - (d + 1)) (by omega) ⟨d + 1, by omega, by omega, rfl, fun e h1 h2 => (Nat.lt_succ_iff_lt_or_eq.1 h2).elim (hup e h1) (fun e2 => e2 ▸ hr), rfl, rfl⟩ (wk hE [])

theorem prime_c (n : Nat) (hn2 : n < 4294967296) : ∃ b, (b = true ↔ prmN n) ∧ Con Tryz.prog 45 [.s (.int .u64 ((n : Nat) : Int))] [] (.s (.bool b)) [] := by
 by_cases hge : 2 ≤ n
 · by_cases h : ∀ d, 2 ≤ d → d * d ≤ n → n % d ≠ 0
   · exact ⟨true, ⟨fun _ => ⟨hge, h⟩, fun _ => rfl⟩, prime_y n hn2 ⟨hge, h⟩⟩
   · obtain ⟨j, hj⟩ := Classical.not_forall.1 h
     obtain ⟨h1, h2⟩ := Classical.not_imp.1 hj
     obtain ⟨h3, h4⟩ := Classical.not_imp.1 h2
     exact ⟨false, ⟨fun e => Bool.noConfusion e, fun e => absurd e.2 h⟩, prime_no n hn2 hge j h1 h3 (Classical.not_not.1 h4)⟩
 · exact ⟨false, ⟨fun e => Bool.noConfusion e, fun e => absurd e.1 hge⟩, prime_lt n (by omega)⟩
theorem wd0 {p : Nat} (h : p < 18446744073709551616) : (wd p).getD 0 0 = p := by
 rw [wd_at p 0 (by omega)]
 show p / 18446744073709551616 ^ 0 % 18446744073709551616 = p
 rw [Nat.pow_zero, Nat.div_one, Nat.mod_eq_of_lt h]
theorem bits_le {p : Nat} (h : ¬ 32 < bitsN p) : p < 4294967296 := by
 have h1 := bitsN_lt p
 have h2 := Nat.pow_le_pow_right (show 0 < 2 by omega) (show bitsN p ≤ 32 by omega)
 omega

theorem Prime_big (p q g : Nat) (hp : p < 2 ^ 256) (hq : q < 2 ^ 256) (h : (decide (32 < bitsN p) || decide (32 < bitsN q)) = true) : Con Tryz.prog 19 [.agg (GRP p q g)] [] (.s (.bool false)) [] := by
 refine con_in 34 Tryz.func19 rfl rfl (m := 0) rfl ?_
 intro E hP hn hE
 refine qz hP hn ?_
 refine s_op k_bxf ?_
 refine s_op k_as ?_
 refine s_nil trivial (n_wp (w_seq (qz hP hn ?_)))
 refine o2 ?_
 refine s_op (k_call [] (con := bits_n p hp)) ?_
 refine o2 ?_
 refine s_opf rfl rfl (fun hB => by rw [hB]; (try simp only [Bool.or_eq_true, Bool.or_eq_false_iff, Bool.and_eq_true, Bool.not_eq_true', Bool.not_eq_false', decide_eq_true_eq, decide_eq_false_iff_not] at hB); exact k_fa) ?_
 refine s_opf rfl rfl (fun hB => by rw [hB]; (try simp only [Bool.or_eq_true, Bool.or_eq_false_iff, Bool.and_eq_true, Bool.not_eq_true', Bool.not_eq_false', decide_eq_true_eq, decide_eq_false_iff_not] at hB); exact k_ld) ?_
 refine s_opf rfl rfl (fun hB => by rw [hB]; (try simp only [Bool.or_eq_true, Bool.or_eq_false_iff, Bool.and_eq_true, Bool.not_eq_true', Bool.not_eq_false', decide_eq_true_eq, decide_eq_false_iff_not] at hB); exact k_call [] (con := bits_n q hq)) ?_
 refine s_opf rfl rfl (fun hB => by rw [hB]; (try simp only [Bool.or_eq_true, Bool.or_eq_false_iff, Bool.and_eq_true, Bool.not_eq_true', Bool.not_eq_false', decide_eq_true_eq, decide_eq_false_iff_not] at hB); exact k_gtr) ?_
 refine s_op k_pk ?_
 refine s_nil trivial (n_wp ?_)
 refine w_T rfl ?_ h
 refine qz hP hn ?_
 refine s_op k_as ?_
 refine s_nil trivial (n_wp (w_ret (r_thn ?_)))
 exact d_ret hP hn hE [] (by first | exact r_tmp Tryz.results19 | exact r_tmpa Tryz.results19)

theorem Prime_sm (p q g : Nat) (hp : p < 2 ^ 256) (hq : q < 2 ^ 256) (h : (decide (32 < bitsN p) || decide (32 < bitsN q)) = false) (b c : Bool) (hb : Con Tryz.prog 45 [.s (.int .u64 ((p : Nat) : Int))] [] (.s (.bool b)) []) (hc : Con Tryz.prog 45 [.s (.int .u64 ((q : Nat) : Int))] [] (.s (.bool c)) []) (hb1 : b = true → 2 ≤ p) (hc1 : c = true → 2 ≤ q) (hp2 : p < 4294967296) (hq2 : q < 4294967296) : Con Tryz.prog 19 [.agg (GRP p q g)] [] (.s (.bool ((b && c) && decide ((p - 1) % q = 0)))) [] := by
 refine con_in 34 Tryz.func19 rfl rfl (m := 0) rfl ?_
 intro E hP hn hE
 refine qz hP hn ?_
 refine s_op k_bxf ?_
 refine s_op k_as ?_
 refine s_nil trivial (n_wp (w_seq (qz hP hn ?_)))
 refine o2 ?_
 refine s_op (k_call [] (con := bits_n p hp)) ?_
 refine o2 ?_
 refine s_opf rfl rfl (fun hB => by rw [hB]; (try simp only [Bool.or_eq_true, Bool.or_eq_false_iff, Bool.and_eq_true, Bool.not_eq_true', Bool.not_eq_false', decide_eq_true_eq, decide_eq_false_iff_not] at hB); exact k_fa) ?_
 refine s_opf rfl rfl (fun hB => by rw [hB]; (try simp only [Bool.or_eq_true, Bool.or_eq_false_iff, Bool.and_eq_true, Bool.not_eq_true', Bool.not_eq_false', decide_eq_true_eq, decide_eq_false_iff_not] at hB); exact k_ld) ?_
 refine s_opf rfl rfl (fun hB => by rw [hB]; (try simp only [Bool.or_eq_true, Bool.or_eq_false_iff, Bool.and_eq_true, Bool.not_eq_true', Bool.not_eq_false', decide_eq_true_eq, decide_eq_false_iff_not] at hB); exact k_call [] (con := bits_n q hq)) ?_
 refine s_opf rfl rfl (fun hB => by rw [hB]; (try simp only [Bool.or_eq_true, Bool.or_eq_false_iff, Bool.and_eq_true, Bool.not_eq_true', Bool.not_eq_false', decide_eq_true_eq, decide_eq_false_iff_not] at hB); exact k_gtr) ?_
 refine s_op k_pk ?_
 refine s_nil trivial (n_wp ?_)
 refine w_F rfl ?_ h
 refine w_skip (n_wp (qz hP hn ?_))
 refine o3 ?_
 rw [zs_getD, wd0 (show p < 18446744073709551616 by omega)]
 refine s_op (k_call [] (con := hb)) ?_
 refine s_op k_mv ?_
 refine s_opt rfl rfl (fun hB => by rw [hB]; (try simp only [Bool.or_eq_true, Bool.or_eq_false_iff, Bool.and_eq_true, Bool.not_eq_true', Bool.not_eq_false', decide_eq_true_eq, decide_eq_false_iff_not] at hB); exact k_fa) ?_
 refine s_opt rfl rfl (fun hB => by rw [hB]; (try simp only [Bool.or_eq_true, Bool.or_eq_false_iff, Bool.and_eq_true, Bool.not_eq_true', Bool.not_eq_false', decide_eq_true_eq, decide_eq_false_iff_not] at hB); exact k_ix) ?_
 refine s_opt rfl rfl (fun hB => by rw [hB]; (try simp only [Bool.or_eq_true, Bool.or_eq_false_iff, Bool.and_eq_true, Bool.not_eq_true', Bool.not_eq_false', decide_eq_true_eq, decide_eq_false_iff_not] at hB); exact k_ld) ?_
 rw [zs_getD, wd0 (show q < 18446744073709551616 by omega)]
 refine s_opt rfl rfl (fun hB => by rw [hB]; (try simp only [Bool.or_eq_true, Bool.or_eq_false_iff, Bool.and_eq_true, Bool.not_eq_true', Bool.not_eq_false', decide_eq_true_eq, decide_eq_false_iff_not] at hB); exact k_call [] (con := hc)) ?_
 refine o2 ?_
 refine s_opt rfl rfl (fun hB => by rw [hB]; (try simp only [Bool.or_eq_true, Bool.or_eq_false_iff, Bool.and_eq_true, Bool.not_eq_true', Bool.not_eq_false', decide_eq_true_eq, decide_eq_false_iff_not] at hB); exact k_fa) ?_
 refine s_opt rfl rfl (fun hB => by rw [hB]; (try simp only [Bool.or_eq_true, Bool.or_eq_false_iff, Bool.and_eq_true, Bool.not_eq_true', Bool.not_eq_false', decide_eq_true_eq, decide_eq_false_iff_not] at hB); exact k_ix) ?_
 refine s_opt rfl rfl (fun hB => by rw [hB]; (try simp only [Bool.or_eq_true, Bool.or_eq_false_iff, Bool.and_eq_true, Bool.not_eq_true', Bool.not_eq_false', decide_eq_true_eq, decide_eq_false_iff_not] at hB); exact k_ld) ?_
 rw [zs_getD, wd0 (show p < 18446744073709551616 by omega)]
 refine s_opt rfl rfl (fun hB => by rw [hB]; (simp only [Bool.and_eq_true] at hB); have hp3 := hb1 hB.1; exact k_sub) ?_
 refine s_opt rfl rfl (fun hB => by rw [hB]; (try simp only [Bool.or_eq_true, Bool.or_eq_false_iff, Bool.and_eq_true, Bool.not_eq_true', Bool.not_eq_false', decide_eq_true_eq, decide_eq_false_iff_not] at hB); exact k_fa) ?_
 refine s_opt rfl rfl (fun hB => by rw [hB]; (try simp only [Bool.or_eq_true, Bool.or_eq_false_iff, Bool.and_eq_true, Bool.not_eq_true', Bool.not_eq_false', decide_eq_true_eq, decide_eq_false_iff_not] at hB); exact k_ix) ?_
 refine s_opt rfl rfl (fun hB => by rw [hB]; (try simp only [Bool.or_eq_true, Bool.or_eq_false_iff, Bool.and_eq_true, Bool.not_eq_true', Bool.not_eq_false', decide_eq_true_eq, decide_eq_false_iff_not] at hB); exact k_ld) ?_
 rw [zs_getD, wd0 (show q < 18446744073709551616 by omega)]
 refine s_opt rfl rfl (fun hB => by rw [hB]; (simp only [Bool.and_eq_true] at hB); have hq3 := hc1 hB.2; exact k_rem) ?_
 refine s_opt rfl rfl (fun hB => by rw [hB]; (try simp only [Bool.or_eq_true, Bool.or_eq_false_iff, Bool.and_eq_true, Bool.not_eq_true', Bool.not_eq_false', decide_eq_true_eq, decide_eq_false_iff_not] at hB); exact k_eql) ?_
 refine o2 ?_
 refine s_nil trivial (n_wp (w_ret ?_))
 exact d_ret hP hn hE [] (by first | exact r_tmp Tryz.results19 | exact r_tmpa Tryz.results19)

theorem Prime_c (p q g : Nat) (hp : p < 2 ^ 256) (hq : q < 2 ^ 256) : ∃ b, (b = true → p < 4294967296 ∧ q < 4294967296 ∧ prmN p ∧ prmN q) ∧ Con Tryz.prog 19 [.agg (GRP p q g)] [] (.s (.bool b)) [] := by
 cases h : (decide (32 < bitsN p) || decide (32 < bitsN q)) with
 | true => exact ⟨false, fun e => Bool.noConfusion e, Prime_big p q g hp hq h⟩
 | false =>
  have h' := h
  simp only [Bool.or_eq_false_iff, decide_eq_false_iff_not] at h'
  have hp2 := bits_le h'.1
  have hq2 := bits_le h'.2
  obtain ⟨b, hb, cb⟩ := prime_c p hp2
  obtain ⟨c, hc, cc⟩ := prime_c q hq2
  refine ⟨_, fun e => ?_, Prime_sm p q g hp hq h b c cb cc (fun e => (hb.1 e).1) (fun e => (hc.1 e).1) hp2 hq2⟩
  simp only [Bool.and_eq_true] at e
  exact ⟨hp2, hq2, hb.1 e.1.1, hc.1 e.1.2⟩

end Go.Proofs.X
end

section
set_option maxRecDepth 100000
set_option maxHeartbeats 4000000
open Go Go.Bx Go.Proofs
namespace Go.Proofs.X
attribute [local irreducible] be gN ckS encL enF up8 chk pk0 pkB mayK wd asB tagS mcB kyB koB kmB kM kC cmpT omB ocB imB icB saB heB bitsN expP fineP inP mayP
theorem kyB_z (K : List Int) : kyB K 0 = [] := by unfold kyB; rfl
theorem koB_z (K : List Int) : koB K 0 = [] := by unfold koB; rfl

theorem cmpT_z (A B : List Int) : cmpT A B 0 = 0 := by unfold cmpT; rfl
theorem ky_c (K : List Int) (i : Nat) (hK : K.length = 32) : Con Tryz.prog 79 [.s (.fzi .u8 K), .s (ROWS [kyB K i, laneB, [((i + 1 : Nat) : Int)]])] [] (.agg [.ints .u8 32 (kyB K (i + 1))]) [] := by
 have h := kyB_le K i
 have hf : [kyB K i, laneB, [((i + 1 : Nat) : Int)]].flatten.length = (kyB K i).length + 5 := by
   simp only [List.flatten_cons, List.flatten_nil, List.length_append, List.length_cons, List.length_nil]
 have c := mac_c K [kyB K i, laneB, [((i + 1 : Nat) : Int)]] (by omega) (by omega) (Nat.le_of_ble_eq_true rfl) (by omega)
 rw [mcB_def, kyB_s] at c
 exact c
theorem mc1_c (K : List Int) (sh : Nat) (hK : K.length = 32) : Con Tryz.prog 79 [.s (.fzi .u8 K), .s (ROWS [be 32 sh])] [] (.agg [.ints .u8 32 (mcB K [be 32 sh])]) [] := by
 have hb := be_len 32 sh
 have c := mac_c K [be 32 sh] (by omega) (by omega) (Nat.le_of_ble_eq_true rfl) (by simp only [List.flatten_cons, List.flatten_nil, List.length_append, List.length_nil]; omega)
 rw [mcB_def] at c
 exact c

theorem cmp_c (A B : List Int) (hA : A.length = 16) (hB : B.length = 16) (c : Int) (hc : cmpT A B 16 = c) : Con Tryz.prog 49 [.agg [B16 A], .agg [B16 B]] [] (.s (.int .i64 c)) [] := by
 refine con_in 25 Tryz.func49 rfl rfl (m := 0) rfl ?_
 intro E hP hn hE
 refine qz hP hn ?_
 refine s_op k_bxf ?_
 refine s_op k_bxf ?_
 refine s_op k_as ?_
 refine s_nil trivial (n_wp (w_seq (qz hP hn ?_)))
 refine o2 ?_
 refine s_nil trivial (n_wp (w_block ?_))
 refine c_loop (fun m_ T H => ∃ i, i ≤ 16 ∧ m_ = 16 - i ∧ cmpT A B i = 0 ∧ T = [(3, .s (.fptr 16 (cellsF [B16 B]) 0 0)), (7, .agg [B16 A]), (8, .s (.int .i64 ((i : Nat) : Int)))] ∧ H = []) (16) ⟨0, by omega, rfl, cmpT_z A B, rfl, rfl⟩ (wk hE []) ?_
 rintro n_ T_ H_ ⟨i, hi, rfl, h0, rfl, rfl⟩
 refine qz hP hn ?_
 refine s_op k_lss ?_
 refine s_nil trivial (n_wp (w_seq ?_))
 refine w_if rfl (fun h_t9 => ?_) (fun h_t9 => ?_)
 · refine w_skip (n_wp (w_seq (w_block (qz hP hn ?_))))
   refine s_op k_mv ?_
   refine s_op k_id ?_
   refine o2 ?_
   refine s_nil trivial (n_wp (w_block (qz hP hn ?_)))
   refine o4 ?_
   refine o2 ?_
   refine s_nil trivial (n_wp ?_)
   refine w_if rfl (fun h_t12 => ?_) (fun h_t12 => ?_)
   · refine qz hP hn ?_
     refine s_op k_as ?_
     refine s_nil trivial (n_wp ?_)
     obtain rfl := ((cmpT_at h_t9 h0).1 h_t12).symm.trans hc
     refine w_ret (r_blo (r_blo (r_thn (r_thn (r_blo (r_thn ?_))))))
     exact d_ret hP hn hE [] (by first | exact r_tmp Tryz.results49 | exact r_tmpa Tryz.results49)
   · refine qz hP hn ?_
     refine o4 ?_
     refine o2 ?_
     refine s_nil trivial (n_wp ?_)
     refine w_if rfl (fun h_t18 => ?_) (fun h_t18 => ?_)
     · refine qz hP hn ?_
       refine s_op k_as ?_
       refine s_nil trivial (n_wp ?_)
       obtain rfl := ((cmpT_at h_t9 h0).2 h_t18).symm.trans hc
       refine w_ret (r_blo (r_blo (r_thn (r_thn (r_blo (r_thn ?_))))))
       exact d_ret hP hn hE [] (by first | exact r_tmp Tryz.results49 | exact r_tmpa Tryz.results49)
     · refine w_skip (n_blo (n_blo (n_wp (g_reg hP hn ?_))))
       refine o2 ?_
       refine s_nil trivial ?_
       exact n_round (16 - (i + 1)) (by omega) ⟨i + 1, by omega, rfl, cmpT_n h0 h_t12 h_t18, rfl, rfl⟩ (wk hE [])
 · obtain rfl : i = 16 := by omega
   refine w_exit (x_thn (x_thn (x_eq (n_wp (qz hP hn ?_)))))
   refine s_op k_as ?_
   refine s_nil trivial (n_wp ?_)
   obtain rfl := h0.symm.trans hc
   refine w_ret ?_
   exact d_ret hP hn hE [] (by first | exact r_tmp Tryz.results49 | exact r_tmpa Tryz.results49)

theorem km_c (sh : Nat) (ID : List Int) (hID : ID.length = 32) : Con Tryz.prog 47 [.agg [N4 sh], .agg [B32 ID], .s (.int .i64 192)] [] (.tup [.s (.fzi .u8 (kmB sh ID)), .s (.int .i64 0)]) [] := by
 refine con_in 50 Tryz.func47 rfl rfl (m := 0) rfl ?_
 intro E hP hn hE
 rw [← kmB_def]
 refine qz hP hn ?_
 refine s_op k_bxf ?_
 refine s_op k_bxf ?_
 refine o2 ?_
 refine s_nil trivial (n_wp (w_seq (w_block (qz hP hn ?_))))
 refine o3 ?_
 refine s_nil trivial (n_wp ?_)
 refine w_F rfl ?_ 
 refine qz hP hn ?_
 refine o3 ?_
 refine s_nil trivial (n_wp ?_)
 refine w_F rfl ?_ 
 refine w_skip (n_blo (n_wp (w_seq ?_)))
 refine g_any hP hn ?_
 refine s_op (k_slf (hl := hID)) ?_
 refine s_op k_ld ?_
 refine s_op (k_call [] (con := pl0_n sh)) ?_
 refine s_op (k_bsz [.fzi .u8 (be 32 sh)]) ?_
 refine s_op (k_call [] (con := mc1_c ID sh hID)) ?_
 refine s_op k_al ?_
 refine s_st k_st ?_
 refine s_nil (by kernel_rfl) ?_
 refine n_wp (w_seq ?_)
 refine w_weak (frz_ptr 8 32) ?_
 have hKl := mcB_len ID [be 32 sh]
 generalize mcB ID [be 32 sh] = K at *
 refine g_reg hP hn ?_
 refine o2 ?_
 refine s_op (l_make_gro (l := 0) (c := 224) (segs := [.ints .u8 0 []]) rfl rfl rfl rfl rfl (by show 1 * _ ≤ _; omega) (by omega) Und.h Inf.h (by exact rfl) (by exact rfl) (by exact rfl) LenN.h rfl) ?_
 refine s_op k_as ?_
 refine qx hP hn ?_
 refine s_op k_as ?_
 refine s_nil trivial (n_wp (w_seq (w_seq ?_)))
 refine w_weak (weak_conv 10 rfl (conv_nil (k := .u8))) ?_
 refine g_reg hP hn ?_
 refine s_op k_as ?_
 refine s_nil trivial (n_wp (w_block ?_))
 refine c_loop (fun m_ T H => ∃ i, i ≤ 6 ∧ m_ = 6 - i ∧ T = [(2, .s (.int .i64 192)), (8, .s (.fptr 32 (cellsF [B32 K]) 0 0)), (9, .s (.gro 0 1 (32 * i))), (10, .s (.fzi .u8 (kyB K i))), (11, .s (.int .i64 ((i + 1 : Nat) : Int)))] ∧ H = [some ⟨true, [.ints .u8 (32 * i) (koB K i)]⟩]) (6) ⟨0, by omega, rfl, by rw [kyB_z], by rw [koB_z]⟩ (wk hE [4]) ?_
 rintro n_ T_ H_ ⟨i, hi, rfl, rfl, rfl⟩
 have hol := koB_len K i
 refine w_seq (qz hP hn ?_)
 refine o4 ?_
 refine s_nil trivial (n_wp ?_)
 refine w_if rfl (fun h_t30 => ?_) (fun h_t30 => ?_)
 · refine w_skip (n_wp (w_seq (w_block (qz hP hn ?_))))
   refine s_op (k_slf (hl := hKl)) ?_
   refine s_op k_mv ?_
   refine s_op (k_bsK [108, 97, 110, 101]) ?_
   refine s_op k_mark ?_
   refine o2 ?_
   refine s_op k_bsf ?_
   refine s_op (k_bsz [.fzi .u8 (kyB K i), .fzi .u8 laneB, .fzi .u8 [((i + 1 : Nat) : Int)]]) ?_
   refine s_op (k_call [] (con := ky_c K i hKl)) ?_
   refine s_op k_al ?_
   refine s_st k_st ?_
   refine s_nil trivial (n_wp (w_seq ?_))
   refine w_weak (frz_ptr 12 32) ?_
   refine g_reg hP hn ?_
   refine s_op (k_slf (hl := kyB_s1 K i)) ?_
   refine s_op k_as ?_
   refine qy hP hn ?_
   refine o2 ?_
   refine s_op (k_apg (c := 32 * (i + 1)) (l' := koB K (i + 1)) (hl := hol) (hc := by rw [kyB_s1]; omega) (hl' := by rw [List.take_of_length_le (by omega)]; exact koB_s K i) (hbig := by rw [kyB_s1]; omega)) ?_
   refine s_op k_as ?_
   refine s_nil trivial (n_blo (n_wp (g_reg hP hn ?_)))
   refine o3 ?_
   refine s_nil trivial ?_
   exact n_round (6 - (i + 1)) (by omega) ⟨i + 1, by omega, rfl, rfl, rfl⟩ (wk hE [5])
 · obtain rfl : i = 6 := by omega
   refine w_exit (x_thn (x_thn (x_eq (n_wp (qz hP hn ?_)))))
   refine o3 ?_
   refine s_op k_slc ?_
   refine o2 ?_
   refine s_nil trivial (n_wp ?_)
   refine w_weak (frz_gro 6 (l' := koB K 6) (hl' := List.take_of_length_le (by omega))) ?_
   refine w_ret ?_
   exact d_ret hP hn hE [] (ret2 Tryz.results47 (by first | exact ri_tmp rfl | exact ri_tmpa rfl) (by first | exact ri_tmp rfl | exact ri_tmpa rfl))

theorem cutK_c (B : List Int) (i : Nat) (hB : B.length = 192) (hi : i < 4) : Con Tryz.prog 48 [.s (.fzi .u8 B), .s (.int .i64 ((i : Nat) : Int))] [] (.tup [.agg [.ints .u8 32 (kM B i), .ints .u8 16 (kC B i)], .s (.int .i64 0)]) [] := by
 have h := cut_c B i hB hi
 unfold kM kC
 exact h

end Go.Proofs.X
end

section
set_option maxRecDepth 100000
set_option maxHeartbeats 4000000
open Go Go.Bx Go.Proofs
namespace Go.Proofs.X
attribute [local irreducible] be gN ckS encL enF up8 chk pk0 pkB mayK wd asB tagS mcB kyB koB kmB kM kC cmpT omB ocB imB icB saB heB bitsN expP fineP inP mayP
theorem sess_c (p q g a y x sh : Nat) (A B ID : List Int) (ep : Nat) (hA : A.length = 16) (hB : B.length = 16) (hID : ID.length = 32) (hne : A ≠ B) (c : Int) (hc : cmpT A B 16 = c) (OM OC IM IC SA HE : List Int) (hv : omB A B (kmB sh ID) = OM ∧ ocB A B (kmB sh ID) = OC ∧ imB A B (kmB sh ID) = IM ∧ icB A B (kmB sh ID) = IC ∧ saB A B (kmB sh ID) = SA ∧ heB A B (kmB sh ID) = HE) (hkey : Con Tryz.prog 18 [.agg (GRP p q g), .agg [N4 a]] [] (.tup [.agg [N4 x], .s (.int .i64 0)]) []) (hpub : Con Tryz.prog 46 [.agg (GRP p q g), .agg [N4 y]] [] (.s (.bool true)) []) (hexp : Con Tryz.prog 43 [.agg (GRP p q g), .agg [N4 y], .agg [N4 a]] [] (.tup [.agg [N4 sh], .s (.int .i64 0)]) []) : Con Tryz.prog 20 [.agg (GRP p q g), .agg [N4 a, N4 y, B16 A, B16 B, B32 ID, .one (.int .u32 ((ep : Nat) : Int))]] [] (.tup [.agg (SESS ID B ep OM OC IM IC SA HE), .s (.int .i64 0)]) [] := by
 refine con_in 98 Tryz.func20 rfl rfl (m := 0) rfl ?_
 intro E hP hn hE
 refine qz hP hn ?_
 refine s_op k_bxf ?_
 refine s_op k_bxf ?_
 refine o2 ?_
 refine s_nil trivial (n_wp (w_seq (qz hP hn ?_)))
 refine o3 ?_
 refine s_op (k_call [] (con := hkey)) ?_
 refine o4 ?_
 refine s_st (k_st (h := by exact a_store_agg rfl rfl rfl (put_w (by kernel_rfl)) (by exact Nat.le_of_ble_eq_true rfl) (by kernel_rfl) (by repeat (first | exact hset_0 | apply hset_s)))) ?_
 refine s_op k_as ?_
 refine qx hP hn ?_
 refine s_op k_mv ?_
 refine s_op (l_bin rfl rfl (b_neq (r := false) (decide_eq_false (fun h => h rfl)))) ?_
 refine s_op k_mv ?_
 refine s_on rfl rfl rfl k_ld ?_
 refine s_on rfl rfl rfl k_fa ?_
 refine s_on rfl rfl rfl k_ld ?_
 refine s_on rfl rfl rfl (k_call [] (con := hpub)) ?_
 refine s_on rfl rfl rfl k_not ?_
 refine o2 ?_
 refine s_on rfl rfl rfl k_fa ?_
 refine s_on rfl rfl rfl k_ld ?_
 refine s_on rfl rfl rfl k_fa ?_
 refine s_on rfl rfl rfl k_ld ?_
 refine s_on rfl rfl rfl (a_eqA rfl rfl hA hB) ?_
 refine s_op k_pk ?_
 refine s_nil trivial (n_wp ?_)
 refine w_F rfl ?_ (decide_eq_false hne)
 refine w_skip (n_wp (qz hP hn ?_))
 refine o3 ?_
 refine o2 ?_
 refine s_op (k_call [] (con := hexp)) ?_
 refine o4 ?_
 refine s_st (k_st (h := by exact a_store_agg rfl rfl rfl (put_w (by kernel_rfl)) (by exact Nat.le_of_ble_eq_true rfl) (by kernel_rfl) (by repeat (first | exact hset_0 | apply hset_s)))) ?_
 refine s_op k_as ?_
 refine qx hP hn ?_
 refine o3 ?_
 refine s_op (k_call [] (con := km_c sh ID hID)) ?_
 refine o3 ?_
 refine o2 ?_
 refine s_nil trivial (n_wp (w_seq ?_))
 have hM := kmB_len sh ID
 generalize kmB sh ID = M at *
 refine g_reg hP hn ?_
 refine s_op k_al ?_
 refine s_nil trivial (n_wp (w_seq (qz hP hn ?_)))
 refine s_op k_mv ?_
 refine s_nil trivial (n_wp (w_block ?_))
 refine c_loop (fun m_ T H => ∃ i S, i ≤ 4 ∧ m_ = 4 - i ∧ T = [(3, .s (.fptr 73 (cellsF [N4 a, N4 y, B16 A, B16 B, B32 ID, .one (.int .u32 ((ep : Nat) : Int))]) 0 0)), (4, .s (.ptr 0 0 0)), (10, .s (.fzi .u8 M)), (12, .s (.ptr 1 0 0)), (54, .s (.int .i64 ((i : Nat) : Int)))] ∧ H = [some ⟨true, [.ints .u8 32 (zs (List.replicate 32 0)), .ints .u8 16 (zs (List.replicate 16 0)), .one (.int .u32 0), .ints .u8 32 (zs (List.replicate 32 0)), .ints .u8 16 (zs (List.replicate 16 0)), .ints .u8 32 (zs (List.replicate 32 0)), .ints .u8 16 (zs (List.replicate 16 0)), .ints .u8 32 (zs (List.replicate 32 0)), .ints .u8 32 (zs (List.replicate 32 0))]⟩, some ⟨true, S⟩] ∧ KcR M i S) (4) ⟨0, _, by omega, rfl, rfl, rfl, .n0⟩ (wk hE [2, 5]) ?_
 rintro n_ T_ H_ ⟨i, S, hi, rfl, rfl, rfl, hS⟩
 refine qz hP hn ?_
 refine s_op k_lss ?_
 refine s_nil trivial (n_wp (w_seq ?_))
 refine w_if rfl (fun h_t55 => ?_) (fun h_t55 => ?_)
 · refine w_skip (n_wp (w_seq (w_block (w_seq ?_))))
   obtain rfl | rfl | rfl | rfl : i = 0 ∨ i = 1 ∨ i = 2 ∨ i = 3 := by omega
   · obtain rfl := hS.e0
     refine g_reg hP hn ?_
     refine o2 ?_
     refine qy hP hn ?_
     refine o3 ?_
     refine s_op (k_call [] (con := cutK_c M 0 hM (by decide))) ?_
     refine o3 ?_
     refine s_op (k_ixA 0 0) ?_
     refine s_st (k_st (h := by exact a_store_agg (segs' := [.ints .u8 32 (kM M 0), .ints .u8 16 (kC M 0), B32 z32, B16 z16, B32 z32, B16 z16, B32 z32, B16 z16]) rfl rfl rfl (by kernel_rfl) (by exact Nat.le_of_ble_eq_true rfl) (by kernel_rfl) (by repeat (first | exact hset_0 | apply hset_s)))) ?_
     refine s_nil trivial (n_blo (n_wp (g_reg hP hn ?_)))
     refine o2 ?_
     refine s_nil trivial ?_
     exact n_round (4 - (0 + 1)) (by omega) ⟨0 + 1, _, by omega, rfl, rfl, rfl, .n1⟩ (wk hE [0, 1])
   · obtain rfl := hS.e1
     refine g_reg hP hn ?_
     refine o2 ?_
     refine qy hP hn ?_
     refine o3 ?_
     refine s_op (k_call [] (con := cutK_c M 1 hM (by decide))) ?_
     refine o3 ?_
     refine s_op (k_ixA 48 1) ?_
     refine s_st (k_st (h := by exact a_store_agg (segs' := [.ints .u8 32 (kM M 0), .ints .u8 16 (kC M 0), .ints .u8 32 (kM M 1), .ints .u8 16 (kC M 1), B32 z32, B16 z16, B32 z32, B16 z16]) rfl rfl rfl (by kernel_rfl) (by exact Nat.le_of_ble_eq_true rfl) (by kernel_rfl) (by repeat (first | exact hset_0 | apply hset_s)))) ?_
     refine s_nil trivial (n_blo (n_wp (g_reg hP hn ?_)))
     refine o2 ?_
     refine s_nil trivial ?_
     exact n_round (4 - (1 + 1)) (by omega) ⟨1 + 1, _, by omega, rfl, rfl, rfl, .n2⟩ (wk hE [0, 1])
   · obtain rfl := hS.e2
     refine g_reg hP hn ?_
     refine o2 ?_
     refine qy hP hn ?_
     refine o3 ?_
     refine s_op (k_call [] (con := cutK_c M 2 hM (by decide))) ?_
     refine o3 ?_
     refine s_op (k_ixA 96 2) ?_
     refine s_st (k_st (h := by exact a_store_agg (segs' := [.ints .u8 32 (kM M 0), .ints .u8 16 (kC M 0), .ints .u8 32 (kM M 1), .ints .u8 16 (kC M 1), .ints .u8 32 (kM M 2), .ints .u8 16 (kC M 2), B32 z32, B16 z16]) rfl rfl rfl (by kernel_rfl) (by exact Nat.le_of_ble_eq_true rfl) (by kernel_rfl) (by repeat (first | exact hset_0 | apply hset_s)))) ?_
     refine s_nil trivial (n_blo (n_wp (g_reg hP hn ?_)))
     refine o2 ?_
     refine s_nil trivial ?_
     exact n_round (4 - (2 + 1)) (by omega) ⟨2 + 1, _, by omega, rfl, rfl, rfl, .n3⟩ (wk hE [0, 1])
   · obtain rfl := hS.e3
     refine g_reg hP hn ?_
     refine o2 ?_
     refine qy hP hn ?_
     refine o3 ?_
     refine s_op (k_call [] (con := cutK_c M 3 hM (by decide))) ?_
     refine o3 ?_
     refine s_op (k_ixA 144 3) ?_
     refine s_st (k_st (h := by exact a_store_agg (segs' := [.ints .u8 32 (kM M 0), .ints .u8 16 (kC M 0), .ints .u8 32 (kM M 1), .ints .u8 16 (kC M 1), .ints .u8 32 (kM M 2), .ints .u8 16 (kC M 2), .ints .u8 32 (kM M 3), .ints .u8 16 (kC M 3)]) rfl rfl rfl (by kernel_rfl) (by exact Nat.le_of_ble_eq_true rfl) (by kernel_rfl) (by repeat (first | exact hset_0 | apply hset_s)))) ?_
     refine s_nil trivial (n_blo (n_wp (g_reg hP hn ?_)))
     refine o2 ?_
     refine s_nil trivial ?_
     exact n_round (4 - (3 + 1)) (by omega) ⟨3 + 1, _, by omega, rfl, rfl, rfl, .n4⟩ (wk hE [0, 1])
 · obtain rfl : i = 4 := by omega
   obtain rfl := hS.e4
   refine w_exit (x_thn (x_thn (x_eq (n_wp (w_seq (qz hP hn ?_))))))
   refine o4 ?_
   refine s_op (k_call [] (con := cmp_c A B hA hB c hc)) ?_
   refine s_op k_lss ?_
   refine s_nil trivial (n_wp ?_)
   refine w_if rfl (fun h_t71 => ?_) (fun h_t71 => ?_)
   · replace h_t71 : ltT A B := by show cmpT A B 16 < 0; omega
     refine g_reg hP hn ?_
     refine s_op (k_ixA 48 1) ?_
     refine s_op k_ld ?_
     refine s_op (k_ixA 0 0) ?_
     refine s_op k_ld ?_
     refine s_op (k_ixA 144 3) ?_
     refine s_op k_ld ?_
     refine s_op (k_ixA 96 2) ?_
     refine s_op k_ld ?_
     refine s_op (k_bdA [.ints .u8 32 (kM M 1), .ints .u8 16 (kC M 1), .ints .u8 32 (kM M 0), .ints .u8 16 (kC M 0), .ints .u8 32 (kM M 3), .ints .u8 16 (kC M 3), .ints .u8 32 (kM M 2), .ints .u8 16 (kC M 2)]) ?_
     refine s_st (k_st (h := by exact a_store_agg rfl rfl rfl (put_w (by kernel_rfl)) (by exact Nat.le_of_ble_eq_true rfl) (by kernel_rfl) (by repeat (first | exact hset_0 | apply hset_s)))) ?_
     refine qx hP hn ?_
     refine o4 ?_
     refine o2 ?_
     refine s_op (k_ixA 0 0) ?_
     refine o2 ?_
     refine s_op (k_ixA 48 1) ?_
     refine o2 ?_
     refine s_op (k_ixA 96 2) ?_
     refine s_op k_ld ?_
     refine s_op (k_ixA 144 3) ?_
     refine s_op k_ld ?_
     refine s_op k_bd ?_
     refine s_st (k_st (h := by exact a_store_agg rfl rfl rfl (put_w (by kernel_rfl)) (by exact Nat.le_of_ble_eq_true rfl) (by kernel_rfl) (by repeat (first | exact hset_0 | apply hset_s)))) ?_
     refine s_op k_as ?_
     refine s_nil trivial (n_wp ?_)
     obtain ⟨e1, e2, e3, e4, e5, e6⟩ := ses_lt h_t71 M
     obtain ⟨g1, g2, g3, g4, g5, g6⟩ := hv
     obtain rfl := g1.symm.trans e1
     obtain rfl := g2.symm.trans e2
     obtain rfl := g3.symm.trans e3
     obtain rfl := g4.symm.trans e4
     obtain rfl := g5.symm.trans e5
     obtain rfl := g6.symm.trans e6
     refine w_ret ?_
     exact d_ret hP hn hE [] (ret2 Tryz.results20 r_cella (by first | exact ri_tmp rfl | exact ri_tmpa rfl))
   · replace h_t71 : ¬ ltT A B := by show ¬ cmpT A B 16 < 0; omega
     refine w_skip (n_wp (qz hP hn ?_))
     refine o4 ?_
     refine o2 ?_
     refine s_op (k_ixA 0 0) ?_
     refine o2 ?_
     refine s_op (k_ixA 48 1) ?_
     refine o2 ?_
     refine s_op (k_ixA 96 2) ?_
     refine s_op k_ld ?_
     refine s_op (k_ixA 144 3) ?_
     refine s_op k_ld ?_
     refine s_op k_bd ?_
     refine s_st (k_st (h := by exact a_store_agg rfl rfl rfl (put_w (by kernel_rfl)) (by exact Nat.le_of_ble_eq_true rfl) (by kernel_rfl) (by repeat (first | exact hset_0 | apply hset_s)))) ?_
     refine s_op k_as ?_
     refine s_nil trivial (n_wp ?_)
     obtain ⟨e1, e2, e3, e4, e5, e6⟩ := ses_ge h_t71 M
     obtain ⟨g1, g2, g3, g4, g5, g6⟩ := hv
     obtain rfl := g1.symm.trans e1
     obtain rfl := g2.symm.trans e2
     obtain rfl := g3.symm.trans e3
     obtain rfl := g4.symm.trans e4
     obtain rfl := g5.symm.trans e5
     obtain rfl := g6.symm.trans e6
     refine w_ret ?_
     exact d_ret hP hn hE [] (ret2 Tryz.results20 r_cella (by first | exact ri_tmp rfl | exact ri_tmpa rfl))

end Go.Proofs.X
end

section
set_option maxRecDepth 100000
set_option maxHeartbeats 4000000
open Go Go.Bx Go.Proofs
namespace Go.Proofs.X
attribute [local irreducible] be gN ckS encL enF up8 chk pk0 pkB mayK wd asB tagS mcB kyB koB kmB kM kC cmpT omB ocB imB icB saB heB bitsN expP fineP inP mayP
abbrev K7 : List Int := [7, 0, 0, 0, 0, 0, 0, 0, 0, 0, 0, 0, 0, 0, 0, 0, 0, 0, 0, 0, 0, 0, 0, 0, 0, 0, 0, 0, 0, 0, 0, 0]

theorem eqGrp (p q g p2 q2 g2 : Nat) {fs : Array Field} [hu : Und Tryz.prog 26 (.struct fs)] (hfs : fs = #[{ name := "P", type := 24, offset := 0, embedded := false, tag := "", pkgPath := "", byteOffset := 0 }, { name := "Q", type := 24, offset := 4, embedded := false, tag := "", pkgPath := "", byteOffset := 32 }, { name := "G", type := 24, offset := 8, embedded := false, tag := "", pkgPath := "", byteOffset := 64 }] := by exact rfl) : EqF Tryz.prog 9997 fs.toList 0 (GRP p q g) (GRP p2 q2 g2) (decide (zs (wd p) = zs (wd p2)) && (decide (zs (wd q) = zs (wd q2)) && (decide (zs (wd g) = zs (wd g2)) && true))) := by
 subst hfs
 have hl : ∀ x, (zs (wd x)).length = 4 := fun x => by rw [zs_len, wd_len]
 exact .ints (by decide) rfl Und.h Und.h Sz.h Ag.h Ag.h Sz.h (hl _) (hl _) (.ints (by decide) rfl Und.h Und.h Sz.h Ag.h Ag.h Sz.h (hl _) (hl _) (.ints (by decide) rfl Und.h Und.h Sz.h Ag.h Ag.h Sz.h (hl _) (hl _) .nil))
theorem eqGrp_y (p q g : Nat) {fs : Array Field} [hu : Und Tryz.prog 26 (.struct fs)] (hfs : fs = #[{ name := "P", type := 24, offset := 0, embedded := false, tag := "", pkgPath := "", byteOffset := 0 }, { name := "Q", type := 24, offset := 4, embedded := false, tag := "", pkgPath := "", byteOffset := 32 }, { name := "G", type := 24, offset := 8, embedded := false, tag := "", pkgPath := "", byteOffset := 64 }] := by exact rfl) : EqF Tryz.prog 9997 fs.toList 0 (GRP p q g) (GRP p q g) true := by
 have h := eqGrp p q g p q g hfs
 rwa [decide_eq_true rfl, decide_eq_true rfl, decide_eq_true rfl] at h

theorem two_no (p q g a : Nat) (SA : List Int) (p2 q2 g2 b : Nat) (SB : List Int) (s0 s1 : Nat) (ID : List Int) (TA TB : List Int) (b1 b2 b3 : Bool) (y0 y1 : Nat) (e0 e1 : Int) (hta1 : TA.length = 16) (htb1 : TB.length = 16) (hta : Con Tryz.prog 17 [.agg [N4 p, N4 q, N4 g, N4 a, B32 SA]] [] (.tup [.agg [B16 TA], .s (.bool b1)]) []) (htb : Con Tryz.prog 17 [.agg [N4 p2, N4 q2, N4 g2, N4 b, B32 SB]] [] (.tup [.agg [B16 TB], .s (.bool b2)]) []) (hk0 : Con Tryz.prog 18 [.agg (GRP p q g), .agg [N4 s0]] [] (.tup [.agg [N4 y0], .s (.int .i64 e0)]) []) (hk1 : Con Tryz.prog 18 [.agg (GRP p q g), .agg [N4 s1]] [] (.tup [.agg [N4 y1], .s (.int .i64 e1)]) []) (hpr : Con Tryz.prog 19 [.agg (GRP p q g)] [] (.s (.bool b3)) []) (h : ((((((!b1 || !b2) || decide (TA = TB)) || !(decide (zs (wd p) = zs (wd p2)) && (decide (zs (wd q) = zs (wd q2)) && (decide (zs (wd g) = zs (wd g2)) && true)))) || !b3) || decide (e0 ≠ 0)) || decide (e1 ≠ 0)) = true) : Con Tryz.prog 6 [.agg [N4 p, N4 q, N4 g, N4 a, B32 SA, N4 p2, N4 q2, N4 g2, N4 b, B32 SB, N4 s0, N4 s1, B32 ID]] [] (.tup [.agg [.ints .u8 32 (zs (List.replicate 32 0)), .ints .u8 16 (zs (List.replicate 16 0)), .one (.int .u32 0), .ints .u8 32 (zs (List.replicate 32 0)), .ints .u8 16 (zs (List.replicate 16 0)), .ints .u8 32 (zs (List.replicate 32 0)), .ints .u8 16 (zs (List.replicate 16 0)), .ints .u8 32 (zs (List.replicate 32 0)), .ints .u8 32 (zs (List.replicate 32 0)), .ints .u8 32 (zs (List.replicate 32 0)), .ints .u8 16 (zs (List.replicate 16 0)), .one (.int .u32 0), .ints .u8 32 (zs (List.replicate 32 0)), .ints .u8 16 (zs (List.replicate 16 0)), .ints .u8 32 (zs (List.replicate 32 0)), .ints .u8 16 (zs (List.replicate 16 0)), .ints .u8 32 (zs (List.replicate 32 0)), .ints .u8 32 (zs (List.replicate 32 0))], .agg [.ints .u64 4 (zs (List.replicate 4 0)), .ints .u64 4 (zs (List.replicate 4 0))], .s (.bool false)]) [] := by
 refine con_in 150 Tryz.func6 rfl rfl (m := 0) rfl ?_
 intro E hP hn hE
 refine qz hP hn ?_
 refine s_op k_bxf ?_
 refine o3 ?_
 refine qx hP hn ?_
 refine s_op k_al ?_
 refine qx hP hn ?_
 refine s_op k_al ?_
 refine qx hP hn ?_
 refine s_op k_fa ?_
 refine s_op (k_ld (h := by exact a_loadf_agg (sub := [N4 p, N4 q, N4 g, N4 a, B32 SA]) (r := [N4 p, N4 q, N4 g, N4 a, B32 SA, N4 p2, N4 q2, N4 g2, N4 b, B32 SB, N4 s0, N4 s1, B32 ID]) rfl (by exact Nat.le_of_ble_eq_true rfl) (by kernel_rfl) (by kernel_rfl))) ?_
 refine s_op (k_call [] (con := hta)) ?_
 refine o4 ?_
 refine s_st (k_st (h := by exact a_store_agg rfl rfl rfl (put_w (by kernel_rfl)) (by exact Nat.le_of_ble_eq_true rfl) (by kernel_rfl) (by repeat (first | exact hset_0 | apply hset_s)))) ?_
 refine s_op k_as ?_
 refine qx hP hn ?_
 refine s_op k_fa ?_
 refine s_op (k_ld (h := by exact a_loadf_agg (sub := [N4 p2, N4 q2, N4 g2, N4 b, B32 SB]) (r := [N4 p2, N4 q2, N4 g2, N4 b, B32 SB, N4 s0, N4 s1, B32 ID]) rfl (by exact Nat.le_of_ble_eq_true rfl) (by kernel_rfl) (by kernel_rfl))) ?_
 refine s_op (k_call [] (con := htb)) ?_
 refine o4 ?_
 refine s_st (k_st (h := by exact a_store_agg rfl rfl rfl (put_w (by kernel_rfl)) (by exact Nat.le_of_ble_eq_true rfl) (by kernel_rfl) (by repeat (first | exact hset_0 | apply hset_s)))) ?_
 refine s_op k_as ?_
 refine qx hP hn ?_
 refine o2 ?_
 refine s_op (k_ld (h := by exact a_loadf_agg (sub := [N4 p, N4 q, N4 g]) (r := [N4 p, N4 q, N4 g, N4 a, B32 SA, N4 p2, N4 q2, N4 g2, N4 b, B32 SB, N4 s0, N4 s1, B32 ID]) rfl (by exact Nat.le_of_ble_eq_true rfl) (by kernel_rfl) (by kernel_rfl))) ?_
 refine s_op k_fa ?_
 refine s_op (k_ixF 96 0) ?_
 refine s_op (k_ld (h := by exact a_loadf_agg (sub := [N4 s0]) (r := [N4 s0, N4 s1, B32 ID]) rfl (by exact Nat.le_of_ble_eq_true rfl) (by kernel_rfl) (by kernel_rfl))) ?_
 refine s_op (k_call [] (con := hk0)) ?_
 refine o4 ?_
 refine s_st (k_st (h := by exact a_store_agg rfl rfl rfl (put_w (by kernel_rfl)) (by exact Nat.le_of_ble_eq_true rfl) (by kernel_rfl) (by repeat (first | exact hset_0 | apply hset_s)))) ?_
 refine s_op k_as ?_
 refine qx hP hn ?_
 refine o2 ?_
 refine s_op (k_ld (h := by exact a_loadf_agg (sub := [N4 p, N4 q, N4 g]) (r := [N4 p, N4 q, N4 g, N4 a, B32 SA, N4 p2, N4 q2, N4 g2, N4 b, B32 SB, N4 s0, N4 s1, B32 ID]) rfl (by exact Nat.le_of_ble_eq_true rfl) (by kernel_rfl) (by kernel_rfl))) ?_
 refine s_op k_fa ?_
 refine s_op (k_ixF 100 1) ?_
 refine s_op (k_ld (h := by exact a_loadf_agg (sub := [N4 s1]) (r := [N4 s1, B32 ID]) rfl (by exact Nat.le_of_ble_eq_true rfl) (by kernel_rfl) (by kernel_rfl))) ?_
 refine s_op (k_call [] (con := hk1)) ?_
 refine o4 ?_
 refine s_st (k_st (h := by exact a_store_agg rfl rfl rfl (put_w (by kernel_rfl)) (by exact Nat.le_of_ble_eq_true rfl) (by kernel_rfl) (by repeat (first | exact hset_0 | apply hset_s)))) ?_
 refine s_op k_as ?_
 refine s_nil trivial (n_wp (w_seq (qz hP hn ?_)))
 refine o3 ?_
 refine s_opf rfl rfl (fun hB => by rw [hB]; (try simp only [Bool.or_eq_true, Bool.or_eq_false_iff, Bool.and_eq_true, Bool.not_eq_true', Bool.not_eq_false', decide_eq_true_eq, decide_eq_false_iff_not] at hB); exact k_mv) ?_
 refine s_opf rfl rfl (fun hB => by rw [hB]; (try simp only [Bool.or_eq_true, Bool.or_eq_false_iff, Bool.and_eq_true, Bool.not_eq_true', Bool.not_eq_false', decide_eq_true_eq, decide_eq_false_iff_not] at hB); exact k_not) ?_
 refine o2 ?_
 refine s_opf rfl rfl (fun hB => by rw [hB]; (try simp only [Bool.or_eq_true, Bool.or_eq_false_iff, Bool.and_eq_true, Bool.not_eq_true', Bool.not_eq_false', decide_eq_true_eq, decide_eq_false_iff_not] at hB); exact k_ld) ?_
 refine s_opf rfl rfl (fun hB => by rw [hB]; (try simp only [Bool.or_eq_true, Bool.or_eq_false_iff, Bool.and_eq_true, Bool.not_eq_true', Bool.not_eq_false', decide_eq_true_eq, decide_eq_false_iff_not] at hB); exact k_ld) ?_
 refine s_opf rfl rfl (fun hB => by rw [hB]; (try simp only [Bool.or_eq_true, Bool.or_eq_false_iff, Bool.and_eq_true, Bool.not_eq_true', Bool.not_eq_false', decide_eq_true_eq, decide_eq_false_iff_not] at hB); exact (a_eqA rfl rfl hta1 htb1)) ?_
 refine o2 ?_
 refine s_opf rfl rfl (fun hB => by rw [hB]; (try simp only [Bool.or_eq_true, Bool.or_eq_false_iff, Bool.and_eq_true, Bool.not_eq_true', Bool.not_eq_false', decide_eq_true_eq, decide_eq_false_iff_not] at hB); exact k_fa) ?_
 refine s_opf rfl rfl (fun hB => by rw [hB]; (try simp only [Bool.or_eq_true, Bool.or_eq_false_iff, Bool.and_eq_true, Bool.not_eq_true', Bool.not_eq_false', decide_eq_true_eq, decide_eq_false_iff_not] at hB); exact k_fa) ?_
 refine s_opf rfl rfl (fun hB => by rw [hB]; (try simp only [Bool.or_eq_true, Bool.or_eq_false_iff, Bool.and_eq_true, Bool.not_eq_true', Bool.not_eq_false', decide_eq_true_eq, decide_eq_false_iff_not] at hB); exact k_ld (h := by exact a_loadf_agg (sub := [N4 p, N4 q, N4 g]) (r := [N4 p, N4 q, N4 g, N4 a, B32 SA, N4 p2, N4 q2, N4 g2, N4 b, B32 SB, N4 s0, N4 s1, B32 ID]) rfl (by exact Nat.le_of_ble_eq_true rfl) (by kernel_rfl) (by kernel_rfl))) ?_
 refine s_opf rfl rfl (fun hB => by rw [hB]; (try simp only [Bool.or_eq_true, Bool.or_eq_false_iff, Bool.and_eq_true, Bool.not_eq_true', Bool.not_eq_false', decide_eq_true_eq, decide_eq_false_iff_not] at hB); exact k_fa) ?_
 refine s_opf rfl rfl (fun hB => by rw [hB]; (try simp only [Bool.or_eq_true, Bool.or_eq_false_iff, Bool.and_eq_true, Bool.not_eq_true', Bool.not_eq_false', decide_eq_true_eq, decide_eq_false_iff_not] at hB); exact k_fa) ?_
 refine s_opf rfl rfl (fun hB => by rw [hB]; (try simp only [Bool.or_eq_true, Bool.or_eq_false_iff, Bool.and_eq_true, Bool.not_eq_true', Bool.not_eq_false', decide_eq_true_eq, decide_eq_false_iff_not] at hB); exact k_ld (h := by exact a_loadf_agg (sub := [N4 p2, N4 q2, N4 g2]) (r := [N4 p2, N4 q2, N4 g2, N4 b, B32 SB, N4 s0, N4 s1, B32 ID]) rfl (by exact Nat.le_of_ble_eq_true rfl) (by kernel_rfl) (by kernel_rfl))) ?_
 refine s_opf rfl rfl (fun hB => by rw [hB]; (try simp only [Bool.or_eq_true, Bool.or_eq_false_iff, Bool.and_eq_true, Bool.not_eq_true', Bool.not_eq_false', decide_eq_true_eq, decide_eq_false_iff_not] at hB); exact (k_neS rfl rfl (eqGrp p q g p2 q2 g2))) ?_
 refine o2 ?_
 refine s_opf rfl rfl (fun hB => by rw [hB]; (try simp only [Bool.or_eq_true, Bool.or_eq_false_iff, Bool.and_eq_true, Bool.not_eq_true', Bool.not_eq_false', decide_eq_true_eq, decide_eq_false_iff_not] at hB); exact k_fa) ?_
 refine s_opf rfl rfl (fun hB => by rw [hB]; (try simp only [Bool.or_eq_true, Bool.or_eq_false_iff, Bool.and_eq_true, Bool.not_eq_true', Bool.not_eq_false', decide_eq_true_eq, decide_eq_false_iff_not] at hB); exact k_fa) ?_
 refine s_opf rfl rfl (fun hB => by rw [hB]; (try simp only [Bool.or_eq_true, Bool.or_eq_false_iff, Bool.and_eq_true, Bool.not_eq_true', Bool.not_eq_false', decide_eq_true_eq, decide_eq_false_iff_not] at hB); exact k_ld (h := by exact a_loadf_agg (sub := [N4 p, N4 q, N4 g]) (r := [N4 p, N4 q, N4 g, N4 a, B32 SA, N4 p2, N4 q2, N4 g2, N4 b, B32 SB, N4 s0, N4 s1, B32 ID]) rfl (by exact Nat.le_of_ble_eq_true rfl) (by kernel_rfl) (by kernel_rfl))) ?_
 refine s_opf rfl rfl (fun hB => by rw [hB]; (try simp only [Bool.or_eq_true, Bool.or_eq_false_iff, Bool.and_eq_true, Bool.not_eq_true', Bool.not_eq_false', decide_eq_true_eq, decide_eq_false_iff_not] at hB); exact k_call [] (con := hpr)) ?_
 refine s_opf rfl rfl (fun hB => by rw [hB]; (try simp only [Bool.or_eq_true, Bool.or_eq_false_iff, Bool.and_eq_true, Bool.not_eq_true', Bool.not_eq_false', decide_eq_true_eq, decide_eq_false_iff_not] at hB); exact k_not) ?_
 refine o2 ?_
 refine s_opf rfl rfl (fun hB => by rw [hB]; (try simp only [Bool.or_eq_true, Bool.or_eq_false_iff, Bool.and_eq_true, Bool.not_eq_true', Bool.not_eq_false', decide_eq_true_eq, decide_eq_false_iff_not] at hB); exact k_mv) ?_
 refine s_opf rfl rfl (fun hB => by rw [hB]; (try simp only [Bool.or_eq_true, Bool.or_eq_false_iff, Bool.and_eq_true, Bool.not_eq_true', Bool.not_eq_false', decide_eq_true_eq, decide_eq_false_iff_not] at hB); exact (l_bin rfl rfl (b_neq rfl))) ?_
 refine o2 ?_
 refine s_opf rfl rfl (fun hB => by rw [hB]; (try simp only [Bool.or_eq_true, Bool.or_eq_false_iff, Bool.and_eq_true, Bool.not_eq_true', Bool.not_eq_false', decide_eq_true_eq, decide_eq_false_iff_not] at hB); exact k_mv) ?_
 refine s_opf rfl rfl (fun hB => by rw [hB]; (try simp only [Bool.or_eq_true, Bool.or_eq_false_iff, Bool.and_eq_true, Bool.not_eq_true', Bool.not_eq_false', decide_eq_true_eq, decide_eq_false_iff_not] at hB); exact (l_bin rfl rfl (b_neq rfl))) ?_
 refine s_op k_pk ?_
 refine s_nil trivial (n_wp ?_)
 refine w_T rfl ?_ h
 refine w_seq ?_
 refine g_any hP hn ?_
 refine s_op (k_ld (h := by exact a_load_whole rfl rfl (by kernel_rfl))) ?_
 refine s_op (k_ld (h := by exact a_load_whole rfl rfl (by kernel_rfl))) ?_
 refine s_st (k_st (h := by exact a_store_agg rfl rfl rfl (put_w (by kernel_rfl)) (by exact Nat.le_of_ble_eq_true rfl) (by kernel_rfl) (by repeat (first | exact hset_0 | apply hset_s)))) ?_
 refine s_st (k_st (h := by exact a_store_agg rfl rfl rfl (put_w (by kernel_rfl)) (by exact Nat.le_of_ble_eq_true rfl) (by kernel_rfl) (by repeat (first | exact hset_0 | apply hset_s)))) ?_
 refine s_op k_as ?_
 refine s_nil (by kernel_rfl) ?_
 refine n_wp (w_ret (r_thn ?_))
 exact d_ret hP hn hE [] (ret3 Tryz.results6 r_cella r_cella (by first | exact ri_tmp rfl | exact ri_tmpa rfl))

theorem two_y (p q g a : Nat) (SA : List Int) (b : Nat) (SB : List Int) (s0 s1 : Nat) (ID : List Int) (TA TB : List Int) (y0 y1 xa xb : Nat) (U1 U2 U3 U4 U5 U6 V1 V2 V3 V4 V5 V6 : List Int) (hta1 : TA.length = 16) (htb1 : TB.length = 16) (hne : TA ≠ TB) (hta : Con Tryz.prog 17 [.agg [N4 p, N4 q, N4 g, N4 a, B32 SA]] [] (.tup [.agg [B16 TA], .s (.bool true)]) []) (htb : Con Tryz.prog 17 [.agg [N4 p, N4 q, N4 g, N4 b, B32 SB]] [] (.tup [.agg [B16 TB], .s (.bool true)]) []) (hk0 : Con Tryz.prog 18 [.agg (GRP p q g), .agg [N4 s0]] [] (.tup [.agg [N4 y0], .s (.int .i64 0)]) []) (hk1 : Con Tryz.prog 18 [.agg (GRP p q g), .agg [N4 s1]] [] (.tup [.agg [N4 y1], .s (.int .i64 0)]) []) (hpr : Con Tryz.prog 19 [.agg (GRP p q g)] [] (.s (.bool true)) []) (hs0 : Con Tryz.prog 20 [.agg (GRP p q g), .agg [N4 s0, N4 y1, B16 TA, B16 TB, B32 ID, .one (.int .u32 ((0 : Nat) : Int))]] [] (.tup [.agg [B32 ID, B16 TB, .one (.int .u32 ((0 : Nat) : Int)), B32 U1, B16 U2, B32 U3, B16 U4, B32 U5, B32 U6], .s (.int .i64 0)]) []) (hs1 : Con Tryz.prog 20 [.agg (GRP p q g), .agg [N4 s1, N4 y0, B16 TB, B16 TA, B32 ID, .one (.int .u32 ((0 : Nat) : Int))]] [] (.tup [.agg [B32 ID, B16 TA, .one (.int .u32 ((0 : Nat) : Int)), B32 V1, B16 V2, B32 V3, B16 V4, B32 V5, B32 V6], .s (.int .i64 0)]) []) (hka : Con Tryz.prog 18 [.agg (GRP p q g), .agg [N4 a]] [] (.tup [.agg [N4 xa], .s (.int .i64 0)]) []) (hkb : Con Tryz.prog 18 [.agg (GRP p q g), .agg [N4 b]] [] (.tup [.agg [N4 xb], .s (.int .i64 0)]) [])  : Con Tryz.prog 6 [.agg [N4 p, N4 q, N4 g, N4 a, B32 SA, N4 p, N4 q, N4 g, N4 b, B32 SB, N4 s0, N4 s1, B32 ID]] [] (.tup [.agg [B32 ID, B16 TB, .one (.int .u32 ((0 : Nat) : Int)), B32 U1, B16 U2, B32 U3, B16 U4, B32 U5, B32 U6, B32 ID, B16 TA, .one (.int .u32 ((0 : Nat) : Int)), B32 V1, B16 V2, B32 V3, B16 V4, B32 V5, B32 V6], .agg [N4 xa, N4 xb], .s (.bool true)]) [] := by
 refine con_in 150 Tryz.func6 rfl rfl (m := 0) rfl ?_
 intro E hP hn hE
 refine qz hP hn ?_
 refine s_op k_bxf ?_
 refine o3 ?_
 refine qx hP hn ?_
 refine s_op k_al ?_
 refine qx hP hn ?_
 refine s_op k_al ?_
 refine qx hP hn ?_
 refine s_op k_fa ?_
 refine s_op (k_ld (h := by exact a_loadf_agg (sub := [N4 p, N4 q, N4 g, N4 a, B32 SA]) (r := [N4 p, N4 q, N4 g, N4 a, B32 SA, N4 p, N4 q, N4 g, N4 b, B32 SB, N4 s0, N4 s1, B32 ID]) rfl (by exact Nat.le_of_ble_eq_true rfl) (by kernel_rfl) (by kernel_rfl))) ?_
 refine s_op (k_call [] (con := hta)) ?_
 refine o4 ?_
 refine s_st (k_st (h := by exact a_store_agg rfl rfl rfl (put_w (by kernel_rfl)) (by exact Nat.le_of_ble_eq_true rfl) (by kernel_rfl) (by repeat (first | exact hset_0 | apply hset_s)))) ?_
 refine s_op k_as ?_
 refine qx hP hn ?_
 refine s_op k_fa ?_
 refine s_op (k_ld (h := by exact a_loadf_agg (sub := [N4 p, N4 q, N4 g, N4 b, B32 SB]) (r := [N4 p, N4 q, N4 g, N4 b, B32 SB, N4 s0, N4 s1, B32 ID]) rfl (by exact Nat.le_of_ble_eq_true rfl) (by kernel_rfl) (by kernel_rfl))) ?_
 refine s_op (k_call [] (con := htb)) ?_
 refine o4 ?_
 refine s_st (k_st (h := by exact a_store_agg rfl rfl rfl (put_w (by kernel_rfl)) (by exact Nat.le_of_ble_eq_true rfl) (by kernel_rfl) (by repeat (first | exact hset_0 | apply hset_s)))) ?_
 refine s_op k_as ?_
 refine qx hP hn ?_
 refine o2 ?_
 refine s_op (k_ld (h := by exact a_loadf_agg (sub := [N4 p, N4 q, N4 g]) (r := [N4 p, N4 q, N4 g, N4 a, B32 SA, N4 p, N4 q, N4 g, N4 b, B32 SB, N4 s0, N4 s1, B32 ID]) rfl (by exact Nat.le_of_ble_eq_true rfl) (by kernel_rfl) (by kernel_rfl))) ?_
 refine s_op k_fa ?_
 refine s_op (k_ixF 96 0) ?_
 refine s_op (k_ld (h := by exact a_loadf_agg (sub := [N4 s0]) (r := [N4 s0, N4 s1, B32 ID]) rfl (by exact Nat.le_of_ble_eq_true rfl) (by kernel_rfl) (by kernel_rfl))) ?_
 refine s_op (k_call [] (con := hk0)) ?_
 refine o4 ?_
 refine s_st (k_st (h := by exact a_store_agg rfl rfl rfl (put_w (by kernel_rfl)) (by exact Nat.le_of_ble_eq_true rfl) (by kernel_rfl) (by repeat (first | exact hset_0 | apply hset_s)))) ?_
 refine s_op k_as ?_
 refine qx hP hn ?_
 refine o2 ?_
 refine s_op (k_ld (h := by exact a_loadf_agg (sub := [N4 p, N4 q, N4 g]) (r := [N4 p, N4 q, N4 g, N4 a, B32 SA, N4 p, N4 q, N4 g, N4 b, B32 SB, N4 s0, N4 s1, B32 ID]) rfl (by exact Nat.le_of_ble_eq_true rfl) (by kernel_rfl) (by kernel_rfl))) ?_
 refine s_op k_fa ?_
 refine s_op (k_ixF 100 1) ?_
 refine s_op (k_ld (h := by exact a_loadf_agg (sub := [N4 s1]) (r := [N4 s1, B32 ID]) rfl (by exact Nat.le_of_ble_eq_true rfl) (by kernel_rfl) (by kernel_rfl))) ?_
 refine s_op (k_call [] (con := hk1)) ?_
 refine o4 ?_
 refine s_st (k_st (h := by exact a_store_agg rfl rfl rfl (put_w (by kernel_rfl)) (by exact Nat.le_of_ble_eq_true rfl) (by kernel_rfl) (by repeat (first | exact hset_0 | apply hset_s)))) ?_
 refine s_op k_as ?_
 refine s_nil trivial (n_wp (w_seq (qz hP hn ?_)))
 refine o3 ?_
 refine s_on rfl rfl rfl k_mv ?_
 refine s_on rfl rfl rfl k_not ?_
 refine o2 ?_
 refine s_on rfl rfl rfl k_ld ?_
 refine s_on rfl rfl rfl k_ld ?_
 refine s_on rfl rfl rfl (a_eqA rfl rfl hta1 htb1) ?_
 rw [decide_eq_false hne]
 refine o2 ?_
 refine s_on rfl rfl rfl k_fa ?_
 refine s_on rfl rfl rfl k_fa ?_
 refine s_on rfl rfl rfl (k_ld (h := by exact a_loadf_agg (sub := [N4 p, N4 q, N4 g]) (r := [N4 p, N4 q, N4 g, N4 a, B32 SA, N4 p, N4 q, N4 g, N4 b, B32 SB, N4 s0, N4 s1, B32 ID]) rfl (by exact Nat.le_of_ble_eq_true rfl) (by kernel_rfl) (by kernel_rfl))) ?_
 refine s_on rfl rfl rfl k_fa ?_
 refine s_on rfl rfl rfl k_fa ?_
 refine s_on rfl rfl rfl (k_ld (h := by exact a_loadf_agg (sub := [N4 p, N4 q, N4 g]) (r := [N4 p, N4 q, N4 g, N4 b, B32 SB, N4 s0, N4 s1, B32 ID]) rfl (by exact Nat.le_of_ble_eq_true rfl) (by kernel_rfl) (by kernel_rfl))) ?_
 refine s_on rfl rfl rfl (k_neS rfl rfl (eqGrp_y p q g)) ?_
 refine o2 ?_
 refine s_on rfl rfl rfl k_fa ?_
 refine s_on rfl rfl rfl k_fa ?_
 refine s_on rfl rfl rfl (k_ld (h := by exact a_loadf_agg (sub := [N4 p, N4 q, N4 g]) (r := [N4 p, N4 q, N4 g, N4 a, B32 SA, N4 p, N4 q, N4 g, N4 b, B32 SB, N4 s0, N4 s1, B32 ID]) rfl (by exact Nat.le_of_ble_eq_true rfl) (by kernel_rfl) (by kernel_rfl))) ?_
 refine s_on rfl rfl rfl (k_call [] (con := hpr)) ?_
 refine s_on rfl rfl rfl k_not ?_
 refine o2 ?_
 refine s_on rfl rfl rfl k_mv ?_
 refine s_on rfl rfl rfl (l_bin rfl rfl (b_neq (r := false) (decide_eq_false (fun h => h rfl)))) ?_
 refine o2 ?_
 refine s_on rfl rfl rfl k_mv ?_
 refine s_on rfl rfl rfl (l_bin rfl rfl (b_neq (r := false) (decide_eq_false (fun h => h rfl)))) ?_
 refine s_op k_pk ?_
 refine s_nil trivial (n_wp ?_)
 refine w_F rfl ?_ 
 refine w_skip (n_wp (qz hP hn ?_))
 refine o2 ?_
 refine qx hP hn ?_
 refine o2 ?_
 refine s_op (k_ld (h := by exact a_loadf_agg (sub := [N4 p, N4 q, N4 g]) (r := [N4 p, N4 q, N4 g, N4 a, B32 SA, N4 p, N4 q, N4 g, N4 b, B32 SB, N4 s0, N4 s1, B32 ID]) rfl (by exact Nat.le_of_ble_eq_true rfl) (by kernel_rfl) (by kernel_rfl))) ?_
 refine s_op k_fa ?_
 refine s_op (k_ixF 96 0) ?_
 refine s_op (k_ld (h := by exact a_loadf_agg (sub := [N4 s0]) (r := [N4 s0, N4 s1, B32 ID]) rfl (by exact Nat.le_of_ble_eq_true rfl) (by kernel_rfl) (by kernel_rfl))) ?_
 refine o4 ?_
 refine s_op (k_ld (h := by exact a_loadf_agg (sub := [B32 ID]) (r := [B32 ID]) rfl (by exact Nat.le_of_ble_eq_true rfl) (by kernel_rfl) (by kernel_rfl))) ?_
 refine s_op (k_bdS [N4 s0, N4 y1, B16 TA, B16 TB, B32 ID, .one (.int .u32 ((0 : Nat) : Int))]) ?_
 refine s_op (k_call [] (con := hs0)) ?_
 refine o3 ?_
 refine s_op (k_ixA 0 0) ?_
 refine s_st (k_st (h := by exact a_store_agg (segs' := [B32 ID, B16 TB, .one (.int .u32 ((0 : Nat) : Int)), B32 U1, B16 U2, B32 U3, B16 U4, B32 U5, B32 U6, .ints .u8 32 (zs (List.replicate 32 0)), .ints .u8 16 (zs (List.replicate 16 0)), .one (.int .u32 0), .ints .u8 32 (zs (List.replicate 32 0)), .ints .u8 16 (zs (List.replicate 16 0)), .ints .u8 32 (zs (List.replicate 32 0)), .ints .u8 16 (zs (List.replicate 16 0)), .ints .u8 32 (zs (List.replicate 32 0)), .ints .u8 32 (zs (List.replicate 32 0))]) rfl rfl rfl (by kernel_rfl) (by exact Nat.le_of_ble_eq_true rfl) (by kernel_rfl) (by repeat (first | exact hset_0 | apply hset_s)))) ?_
 refine s_op k_as ?_
 refine qx hP hn ?_
 refine o2 ?_
 refine s_op (k_ld (h := by exact a_loadf_agg (sub := [N4 p, N4 q, N4 g]) (r := [N4 p, N4 q, N4 g, N4 a, B32 SA, N4 p, N4 q, N4 g, N4 b, B32 SB, N4 s0, N4 s1, B32 ID]) rfl (by exact Nat.le_of_ble_eq_true rfl) (by kernel_rfl) (by kernel_rfl))) ?_
 refine s_op k_fa ?_
 refine s_op (k_ixF 100 1) ?_
 refine s_op (k_ld (h := by exact a_loadf_agg (sub := [N4 s1]) (r := [N4 s1, B32 ID]) rfl (by exact Nat.le_of_ble_eq_true rfl) (by kernel_rfl) (by kernel_rfl))) ?_
 refine o4 ?_
 refine s_op (k_ld (h := by exact a_loadf_agg (sub := [B32 ID]) (r := [B32 ID]) rfl (by exact Nat.le_of_ble_eq_true rfl) (by kernel_rfl) (by kernel_rfl))) ?_
 refine s_op (k_bdS [N4 s1, N4 y0, B16 TB, B16 TA, B32 ID, .one (.int .u32 ((0 : Nat) : Int))]) ?_
 refine s_op (k_call [] (con := hs1)) ?_
 refine o3 ?_
 refine s_op (k_ixA 209 1) ?_
 refine s_st (k_st (h := by exact a_store_agg (segs' := [B32 ID, B16 TB, .one (.int .u32 ((0 : Nat) : Int)), B32 U1, B16 U2, B32 U3, B16 U4, B32 U5, B32 U6, B32 ID, B16 TA, .one (.int .u32 ((0 : Nat) : Int)), B32 V1, B16 V2, B32 V3, B16 V4, B32 V5, B32 V6]) rfl rfl rfl (by kernel_rfl) (by exact Nat.le_of_ble_eq_true rfl) (by kernel_rfl) (by repeat (first | exact hset_0 | apply hset_s)))) ?_
 refine s_op k_as ?_
 refine qx hP hn ?_
 refine o2 ?_
 refine s_op (k_ld (h := by exact a_loadf_agg (sub := [N4 p, N4 q, N4 g]) (r := [N4 p, N4 q, N4 g, N4 a, B32 SA, N4 p, N4 q, N4 g, N4 b, B32 SB, N4 s0, N4 s1, B32 ID]) rfl (by exact Nat.le_of_ble_eq_true rfl) (by kernel_rfl) (by kernel_rfl))) ?_
 refine o2 ?_
 refine s_op (k_ld (h := by exact a_loadf_agg (sub := [N4 a]) (r := [N4 a, B32 SA, N4 p, N4 q, N4 g, N4 b, B32 SB, N4 s0, N4 s1, B32 ID]) rfl (by exact Nat.le_of_ble_eq_true rfl) (by kernel_rfl) (by kernel_rfl))) ?_
 refine s_op (k_call [] (con := hka)) ?_
 refine o3 ?_
 refine s_op (k_ixA 0 0) ?_
 refine s_st (k_st (h := by exact a_store_agg (segs' := [N4 xa, .ints .u64 4 (zs (List.replicate 4 0))]) rfl rfl rfl (by kernel_rfl) (by exact Nat.le_of_ble_eq_true rfl) (by kernel_rfl) (by repeat (first | exact hset_0 | apply hset_s)))) ?_
 refine qx hP hn ?_
 refine o2 ?_
 refine s_op (k_ld (h := by exact a_loadf_agg (sub := [N4 p, N4 q, N4 g]) (r := [N4 p, N4 q, N4 g, N4 b, B32 SB, N4 s0, N4 s1, B32 ID]) rfl (by exact Nat.le_of_ble_eq_true rfl) (by kernel_rfl) (by kernel_rfl))) ?_
 refine o2 ?_
 refine s_op (k_ld (h := by exact a_loadf_agg (sub := [N4 b]) (r := [N4 b, B32 SB, N4 s0, N4 s1, B32 ID]) rfl (by exact Nat.le_of_ble_eq_true rfl) (by kernel_rfl) (by kernel_rfl))) ?_
 refine s_op (k_call [] (con := hkb)) ?_
 refine o3 ?_
 refine s_op (k_ixA 4 1) ?_
 refine s_st (k_st (h := by exact a_store_agg (segs' := [N4 xa, N4 xb]) rfl rfl rfl (by kernel_rfl) (by exact Nat.le_of_ble_eq_true rfl) (by kernel_rfl) (by repeat (first | exact hset_0 | apply hset_s)))) ?_
 refine s_nil trivial (n_wp (w_seq ?_))
 refine g_any hP hn ?_
 refine s_op (k_ld (h := by exact a_load_whole rfl rfl (by kernel_rfl))) ?_
 refine s_op (k_ld (h := by exact a_load_whole rfl rfl (by kernel_rfl))) ?_
 refine o3 ?_
 refine s_on rfl rfl rfl k_mv ?_
 refine s_on rfl rfl rfl k_eql ?_
 refine s_op k_pk ?_
 refine s_st (k_st (h := by exact a_store_agg rfl rfl rfl (put_w (by kernel_rfl)) (by exact Nat.le_of_ble_eq_true rfl) (by kernel_rfl) (by repeat (first | exact hset_0 | apply hset_s)))) ?_
 refine s_st (k_st (h := by exact a_store_agg rfl rfl rfl (put_w (by kernel_rfl)) (by exact Nat.le_of_ble_eq_true rfl) (by kernel_rfl) (by repeat (first | exact hset_0 | apply hset_s)))) ?_
 refine s_op k_as ?_
 refine s_nil (by kernel_rfl) ?_
 refine n_wp (w_ret ?_)
 exact d_ret hP hn hE [] (ret3 Tryz.results6 (r_cella (hs := .whole (by kernel_rfl))) (r_cella (hs := .whole (by kernel_rfl))) (by exact ri_tmp rfl))

theorem known25_c : Con Tryz.prog 21 [] [] (.agg [.ints .u64 4 [23, 0, 0, 0], .ints .u64 4 [11, 0, 0, 0], .ints .u64 4 [4, 0, 0, 0], .ints .u64 4 [3, 0, 0, 0], B32 K7, .ints .u64 4 [23, 0, 0, 0], .ints .u64 4 [11, 0, 0, 0], .ints .u64 4 [4, 0, 0, 0], .ints .u64 4 [5, 0, 0, 0], B32 K7, .ints .u64 4 [2, 0, 0, 0], .ints .u64 4 [7, 0, 0, 0], .ints .u8 32 (zs (List.replicate 32 0))]) [] := by
 refine con_in 15 Tryz.func21 rfl rfl (m := 0) rfl ?_
 intro E hP hn hE
 refine qz hP hn ?_
 refine s_op k_al ?_
 refine qx hP hn ?_
 refine s_op (k_call [] (con := known17_c)) ?_
 refine s_op k_al ?_
 refine s_st (k_st (h := by exact a_store_agg rfl rfl rfl (put_w (by kernel_rfl)) (by exact Nat.le_of_ble_eq_true rfl) (by kernel_rfl) (by repeat (first | exact hset_0 | apply hset_s)))) ?_
 refine qx hP hn ?_
 refine s_op (k_call [] (con := known17_c)) ?_
 refine s_op k_al ?_
 refine s_st (k_st (h := by exact a_store_agg rfl rfl rfl (put_w (by kernel_rfl)) (by exact Nat.le_of_ble_eq_true rfl) (by kernel_rfl) (by repeat (first | exact hset_0 | apply hset_s)))) ?_
 refine qx hP hn ?_
 refine s_op k_bd ?_
 refine s_op k_fa ?_
 refine s_st (k_st (h := by exact a_store_agg (segs' := [.ints .u64 4 [23, 0, 0, 0], .ints .u64 4 [11, 0, 0, 0], .ints .u64 4 [4, 0, 0, 0], .ints .u64 4 [3, 0, 0, 0], B32 K7]) rfl rfl rfl (by kernel_rfl) (by exact Nat.le_of_ble_eq_true rfl) (by kernel_rfl) (by repeat (first | exact hset_0 | apply hset_s)))) ?_
 refine qx hP hn ?_
 refine s_op k_bd ?_
 refine s_op k_fa ?_
 refine s_st (k_st (h := by exact a_store_agg (segs' := [.ints .u64 4 [23, 0, 0, 0], .ints .u64 4 [11, 0, 0, 0], .ints .u64 4 [4, 0, 0, 0], .ints .u64 4 [5, 0, 0, 0], B32 K7]) rfl rfl rfl (by kernel_rfl) (by exact Nat.le_of_ble_eq_true rfl) (by kernel_rfl) (by repeat (first | exact hset_0 | apply hset_s)))) ?_
 refine qx hP hn ?_
 refine s_op (k_ld (h := by exact a_load_whole rfl rfl (by kernel_rfl))) ?_
 refine s_op (k_ld (h := by exact a_load_whole rfl rfl (by kernel_rfl))) ?_
 refine s_op k_bd ?_
 refine s_op k_bd ?_
 refine s_op (k_bdA [.ints .u64 4 [2, 0, 0, 0], .ints .u64 4 [7, 0, 0, 0]]) ?_
 refine s_op (k_bdS [.ints .u64 4 [23, 0, 0, 0], .ints .u64 4 [11, 0, 0, 0], .ints .u64 4 [4, 0, 0, 0], .ints .u64 4 [3, 0, 0, 0], B32 K7, .ints .u64 4 [23, 0, 0, 0], .ints .u64 4 [11, 0, 0, 0], .ints .u64 4 [4, 0, 0, 0], .ints .u64 4 [5, 0, 0, 0], B32 K7, .ints .u64 4 [2, 0, 0, 0], .ints .u64 4 [7, 0, 0, 0], .ints .u8 32 (zs (List.replicate 32 0))]) ?_
 refine s_st (k_st (h := by exact a_store_agg rfl rfl rfl (put_w (by kernel_rfl)) (by exact Nat.le_of_ble_eq_true rfl) (by kernel_rfl) (by repeat (first | exact hset_0 | apply hset_s)))) ?_
 refine s_nil trivial (n_wp (w_ret ?_))
 exact d_ret hP hn hE [] (r_cell Tryz.results21)

theorem clpf_0  : Con Tryz.prog 27 [.s .nils] [] (.s .nils) [] := by
 refine con_in 9 Tryz.func27 rfl rfl (m := 0) rfl ?_
 intro E hP hn hE
 refine qz hP hn ?_
 refine s_op k_as ?_
 refine qx hP hn ?_
 refine o3 ?_
 refine o2 ?_
 refine s_op k_slnc ?_
 refine s_op k_as ?_
 refine s_nil trivial (n_wp (w_ret ?_))
 exact d_ret hP hn hE [] (by first | exact r_tmp Tryz.results27 | exact r_tmpa Tryz.results27)

theorem say_0 (p q g a : Nat) (SD ID PE : List Int) (ep : Nat) (OM OC IM IC SA HE TG : List Int) (y : Nat) (SS : List Int) (sp : Nat) (Bp : List Int) (left tries : Int) (hsp : sp ≠ 0) : Con Tryz.prog 9 [.s (.ptr 0 0 0)] [some ⟨true, [N4 p, N4 q, N4 g, N4 a, B32 SD, B32 ID, B16 PE, .one (.int .u32 ((ep : Nat) : Int)), B32 OM, B16 OC, B32 IM, B16 IC, B32 SA, B32 HE, B16 TG, N4 y, B32 SS, .one (.int .u32 0), .one (.int .u32 ((sp : Nat) : Int)), .one (.fzi .u8 Bp), .one (.int .i64 left), .one (.int .i64 tries), .one .nils]⟩] (.s .nils) [some ⟨true, [N4 p, N4 q, N4 g, N4 a, B32 SD, B32 ID, B16 PE, .one (.int .u32 ((ep : Nat) : Int)), B32 OM, B16 OC, B32 IM, B16 IC, B32 SA, B32 HE, B16 TG, N4 y, B32 SS, .one (.int .u32 0), .one (.int .u32 ((sp : Nat) : Int)), .one (.fzi .u8 Bp), .one (.int .i64 left), .one (.int .i64 tries), .one .nils]⟩] := by
 refine con_in 16 Tryz.func9 rfl rfl (m := 1) rfl ?_
 intro E hP hn hE
 refine qz hP hn ?_
 refine s_op k_as ?_
 refine s_nil trivial (n_wp (w_seq (qz hP hn ?_)))
 refine s_op k_mv ?_
 refine s_op (k_call [0] (con := there_0 p q g a SD ID PE ep OM OC IM IC SA HE TG y SS sp Bp left tries hsp)) ?_
 refine s_op k_not ?_
 refine s_nil trivial (n_wp ?_)
 refine w_F rfl ?_ 
 refine w_skip (n_wp (qz hP hn ?_))
 refine o3 ?_
 refine s_op (k_ld (h := by exact a_load_one (v := .nils) rfl rfl (by kernel_rfl))) ?_
 refine s_op k_as ?_
 refine qx hP hn ?_
 refine o3 ?_
 refine s_st (k_st (h := by exact a_store_one rfl rfl SV.noConfusion rfl rfl (hset_seg (by repeat (first | apply sset_s _ rfl rfl | exact sset_0)) (by repeat (first | exact hset_0 | apply hset_s))))) ?_
 refine qx hP hn ?_
 refine s_op k_mv ?_
 refine s_op (k_call [] (con := clpf_0)) ?_
 refine s_op k_as ?_
 refine s_nil trivial (n_wp (w_ret ?_))
 exact d_ret hP hn hE [0] (by first | exact r_tmp Tryz.results9 | exact r_tmpa Tryz.results9)

end Go.Proofs.X
end

section
open Go Go.Bx Go.Proofs
namespace Go.Proofs.X
attribute [local irreducible] be gN ckS chk pk0 pkB macS wd sg0 drP asB expP szA fineP inP mayP
def mcP (k ty : Nat) (A B SS SA : List Int) : Pc := macPc k A B [(ty, SS)] SA
def sgP (k ty : Nat) (A B SS SA : List Int) (p q g a : Nat) : Pc := sgPc k A B [(ty, SS), mcP k ty A B SS SA] p q g a
def plL (k ty : Nat) (A B SS SA : List Int) (p q g a : Nat) : List Pc := [(ty, SS), mcP k ty A B SS SA, sgP k ty A B SS SA p q g a]
structure SndOk (k ty : Nat) (A B SS SA : List Int) : Prop where
 hk : k = 6 ∨ k = 7
 h0 : 0 < ty
 hty : ty < 61505
 hA : A.length = 16
 hB : B.length = 16
 hS : SS.length = 32
 hK : SA.length = 32
 uA : U8' A
 uB : U8' B
 uS : U8' SS
structure HstOk (p q g a : Nat) : Prop where
 hp : p < 2 ^ 256
 hq : q < 2 ^ 256
 hg : g < 2 ^ 256
 ha : a < 2 ^ 256
 hf : fineP p q g = true
 h0 : a ≠ 0
 haq : a < q
 hpr : prmN q
section
variable {k ty : Nat} {A B SS SA : List Int} {p q g a : Nat}
theorem mcP_1 : (mcP k ty A B SS SA).1 = 61505 := rfl
theorem mcP_2 : (mcP k ty A B SS SA).2.length = 32 := macS_len _ _
theorem sgP_1 : (sgP k ty A B SS SA p q g a).1 = 61697 := rfl
theorem sgP_2 : (sgP k ty A B SS SA p q g a).2.length = 64 := by show (be 32 _ ++ be 32 _).length = 64; rw [List.length_append, be_len, be_len]
theorem mcP_wf : (mcP k ty A B SS SA).1 < 65536 ∧ U8' (mcP k ty A B SS SA).2 ∧ (mcP k ty A B SS SA).2.length ≤ 900000 := macPc_wf _ _ _ _ _
theorem sgP_wf : (sgP k ty A B SS SA p q g a).1 < 65536 ∧ U8' (sgP k ty A B SS SA p q g a).2 ∧ (sgP k ty A B SS SA p q g a).2.length ≤ 900000 := sgPc_wf _ _ _ _ _ _ _ _
theorem ok_s1 {p : Pc} (hk : mayK k = true) (h1 : 0 < p.1) (h2 : p.2.length = 32) : okP k [p] := by
  refine ⟨hk, fun i hi => ?_, by simp, fun k hk => ?_, ?_⟩
  · obtain rfl : i = 0 := Nat.lt_one_iff.1 hi
    exact h1
  · obtain rfl : k = 0 := Nat.lt_one_iff.1 hk
    show p.2.length ≤ 2048
    omega
  · rw [encL_cons, List.length_append, encP_len, h2]; decide
theorem ok_s2 {p r : Pc} (hk : mayK k = true) (h1 : 0 < p.1) (h2 : p.2.length = 32) (h3 : p.1 < r.1) (h4 : r.2.length = 32) : okP k [p, r] := by
  refine ⟨hk, fun i hi => ?_, by simp, fun k hk => ?_, ?_⟩
  · have hi : i < 2 := hi
    rcases (show i = 0 ∨ i = 1 by omega) with rfl | rfl
    · exact h1
    · exact h3
  · have hk : k < 2 := hk
    rcases (show k = 0 ∨ k = 1 by omega) with rfl | rfl
    · show p.2.length ≤ 2048
      omega
    · show r.2.length ≤ 2048
      omega
  · rw [encL_cons, encL_cons, List.length_append, List.length_append, encP_len, encP_len, h2, h4]; decide
theorem ok_s3 {p r s : Pc} (hk : mayK k = true) (h1 : 0 < p.1) (h2 : p.2.length = 32) (h3 : p.1 < r.1) (h4 : r.2.length = 32) (h5 : r.1 < s.1) (h6 : s.2.length = 64) : okP k [p, r, s] := by
  refine ⟨hk, fun i hi => ?_, by simp, fun k hk => ?_, ?_⟩
  · have hi : i < 3 := hi
    rcases (show i = 0 ∨ i = 1 ∨ i = 2 by omega) with rfl | rfl | rfl
    · exact h1
    · exact h3
    · exact h5
  · have hk : k < 3 := hk
    rcases (show k = 0 ∨ k = 1 ∨ k = 2 by omega) with rfl | rfl | rfl
    · show p.2.length ≤ 2048
      omega
    · show r.2.length ≤ 2048
      omega
    · show s.2.length ≤ 2048
      omega
  · rw [encL_cons, encL_cons, encL_cons, List.length_append, List.length_append, List.length_append, encP_len, encP_len, encP_len, h2, h4, h6]; decide
theorem wf_s0 : WfL [] := ⟨by decide, fun p h => by cases h⟩
theorem SndOk.may (h : SndOk k ty A B SS SA) : mayK k = true := by rcases h.hk with rfl | rfl <;> decide
theorem SndOk.lt (h : SndOk k ty A B SS SA) : k < 256 ∧ k ≠ 2 := by rcases h.hk with rfl | rfl <;> decide
theorem SndOk.w1 (h : SndOk k ty A B SS SA) : WfL [(ty, SS)] := wf_s0.snoc (by decide) ⟨by show ty < 65536; have := h.hty; omega, h.uS, by show SS.length ≤ _; rw [h.hS]; decide⟩
theorem SndOk.w2 (h : SndOk k ty A B SS SA) : WfL [(ty, SS), mcP k ty A B SS SA] := h.w1.snoc (by show 1 ≤ 1000; decide) mcP_wf
theorem SndOk.w3 (h : SndOk k ty A B SS SA) : WfL (plL k ty A B SS SA p q g a) := h.w2.snoc (by show 2 ≤ 1000; decide) sgP_wf
theorem SndOk.o1 (h : SndOk k ty A B SS SA) : okP k [(ty, SS)] := ok_s1 h.may h.h0 h.hS
theorem SndOk.o2 (h : SndOk k ty A B SS SA) : okP k [(ty, SS), mcP k ty A B SS SA] := ok_s2 h.may h.h0 h.hS (by rw [mcP_1]; exact h.hty) mcP_2
theorem SndOk.o3 (h : SndOk k ty A B SS SA) : okP k (plL k ty A B SS SA p q g a) := ok_s3 h.may h.h0 h.hS (by rw [mcP_1]; exact h.hty) mcP_2 (by rw [mcP_1, sgP_1]; decide) sgP_2
theorem SndOk.k2 (h : SndOk k ty A B SS SA) : sgK k [(ty, SS), mcP k ty A B SS SA] = [(ty, SS), mcP k ty A B SS SA] := by
  have e : sgK k [(ty, SS), mcP k ty A B SS SA] = sgL [(ty, SS), mcP k ty A B SS SA] := if_neg h.lt.2
  rw [e, sgL_cons_y (ty, SS) _ (by have := h.hty; show ty < _; omega), sgL_cons_y (mcP k ty A B SS SA) [] (by rw [mcP_1]; decide)]; rfl
theorem SndOk.k3 (h : SndOk k ty A B SS SA) : sgK k (plL k ty A B SS SA p q g a) = [(ty, SS), mcP k ty A B SS SA] := by
  have e : sgK k (plL k ty A B SS SA p q g a) = sgL ([(ty, SS), mcP k ty A B SS SA] ++ [sgP k ty A B SS SA p q g a]) := if_neg h.lt.2
  have e2 : sgK k [(ty, SS), mcP k ty A B SS SA] = sgL [(ty, SS), mcP k ty A B SS SA] := if_neg h.lt.2
  rw [e, sgL_snoc_n (sgP k ty A B SS SA p q g a) _ (by rw [sgP_1]; decide), ← e2, h.k2]
theorem SndOk.mac (h : SndOk k ty A B SS SA) : MacOK k A B [(ty, SS)] SA := ⟨fun i hi => by
  obtain rfl : i = 0 := Nat.lt_one_iff.1 hi
  show decide (61505 ≤ ty) = false
  exact decide_eq_false (by have := h.hty; omega), h.o1, by show 1 < 16; decide, h.o2⟩
theorem HstOk.sec (s : HstOk p q g a) : secP p q g a = true := by
  simp only [secP, s.hf, Bool.true_and, Bool.and_eq_true, Bool.not_eq_true', decide_eq_true_eq, decide_eq_false_iff_not]
  exact ⟨s.h0, s.haq⟩
theorem HstOk.n1 (s : HstOk p q g a) : expP p g a ≠ 1 := key_n1 s.hf s.hpr s.h0 s.haq
theorem SndOk.sgn (h : SndOk k ty A B SS SA) (s : HstOk p q g a) : SgnOK k A B [(ty, SS), mcP k ty A B SS SA] p q g a := ⟨fun i hi => by
  have hi : i < 2 := hi
  rcases (show i = 0 ∨ i = 1 by omega) with rfl | rfl
  · show decide (61697 ≤ ty) = false
    exact decide_eq_false (by have := h.hty; omega)
  · show decide (61697 ≤ (mcP k ty A B SS SA).1) = false
    rw [mcP_1]; decide, by rw [h.k2]; exact h.o2, s.sec, by show 2 < 16; decide, h.o3⟩
theorem put_k (h : SndOk k ty A B SS SA) : Con Tryz.prog 23 [.agg (PKT k A B (plL k ty A B SS SA p q g a))] [] (.tup [.s (.fzi .u8 (pkB k A B (encL (plL k ty A B SS SA p q g a)))), .s (.int .i64 0)]) [] := kput_ok k A B _ h.w3 h.o3 h.lt.1 h.hA h.hB h.uA h.uB
theorem plL_len (h : SndOk k ty A B SS SA) : (pkB k A B (encL (plL k ty A B SS SA p q g a))).length ≤ 2048 := by
  rw [pkB_len h.hA h.hB]; exact (h.o3 (p := p) (q := q) (g := g) (a := a)).tot
theorem get_k (h : SndOk k ty A B SS SA) : Con Tryz.prog 10 [.s (.fzi .u8 (pkB k A B (encL (plL k ty A B SS SA p q g a))))] [] (.tup [.agg (PKT k A B (plL k ty A B SS SA p q g a)), .s (.int .i64 0)]) [] := by
 have ht := (h.o3 (p := p) (q := q) (g := g) (a := a)).tot
 have f1 := pkF h.lt.1 h.hA h.hB h.uA h.uB (U8'_encL fun r hr => ((h.w3 (p := p) (q := q) (g := g) (a := a)).all r hr).2.1) (E := encL (plL k ty A B SS SA p q g a)) (by omega)
 exact kget_y _ _ k A B _ f1 (by omega) h.may _ (pget_y k _ h.w3 h.o3)
theorem hasm_k (h : SndOk k ty A B SS SA) : Con Tryz.prog 67 [.agg (PKT k A B (plL k ty A B SS SA p q g a)), .agg [.ints .u8 32 SA]] [] (.s (.bool true)) [] := by
 refine hasm_c k A B _ SA h.hK true (is_y k A B (plL k ty A B SS SA p q g a) 61505 SA h.w3 1 (by show 1 < 3; decide) (fun i hi => ?_) (by show decide ((mcP k ty A B SS SA).1 = 61505) = true; rw [mcP_1]; decide) (macS SA (pkB k A B (encL [(ty, SS)]))) ?_ rfl)
 · obtain rfl : i = 0 := Nat.lt_one_iff.1 hi
   show decide (ty = 61505) = false
   exact decide_eq_false (by have := h.hty; omega)
 have e : keepL (fun x => decide (61505 ≤ x)) (plL k ty A B SS SA p q g a) = [(ty, SS)] := by
   unfold keepL plL
   rw [List.filter_cons_of_pos (by have := h.hty; simp; omega), List.filter_cons_of_neg (by simp [mcP_1]), List.filter_cons_of_neg (by simp [sgP_1])]; rfl
 rw [e]
 exact sum1_y k A B _ SA h.hK _ (by rw [pkB_len h.hA h.hB]; have := h.o1.tot; omega) (kput_ok k A B _ h.w1 h.o1 h.lt.1 h.hA h.hB h.uA h.uB)
theorem sgd_k (h : SndOk k ty A B SS SA) (s : HstOk p q g a) : Con Tryz.prog 68 [.agg (GRP p q g), .agg (PKT k A B (plL k ty A B SS SA p q g a)), .agg [.ints .u64 4 (zs (wd (expP p g a)))]] [] (.s (.bool true)) [] := by
 have hc := cont_ok k A B (plL k ty A B SS SA p q g a) h.w3 (by rw [h.k3]; exact h.o2) h.lt.1 h.hA h.hB h.uA h.uB
 rw [h.k3] at hc
 have hl := pkB_len (k := k) (A := A) (B := sgT k B) (E := encL [(ty, SS), mcP k ty A B SS SA]) h.hA (sgT_len h.hB)
 have ht := h.o2.tot
 have hq1 := (fine_may s.hf).2
 have hq := s.hq
 have hcl : sgC p q g a (pkB k A (sgT k B) (encL [(ty, SS), mcP k ty A B SS SA])) < q := sg0_lt hq1
 have hsl : sgS p q g a (pkB k A (sgT k B) (encL [(ty, SS), mcP k ty A B SS SA])) < q := Nat.mod_lt _ (by omega)
 have c := signed_y k A B (plL k ty A B SS SA p q g a) h.w3 p q g s.hp s.hq s.hg (expP p g a) (expP_lt s.hp) 2 (by show 2 < 3; decide) (fun i hi => by
   have hi : i < 2 := hi
   rcases (show i = 0 ∨ i = 1 by omega) with rfl | rfl
   · show decide (ty = 61697) = false
     exact decide_eq_false (by have := h.hty; omega)
   · show decide ((mcP k ty A B SS SA).1 = 61697) = false
     rw [mcP_1]; decide) (by show decide ((sgP k ty A B SS SA p q g a).1 = 61697) = true; rw [sgP_1]; decide) (sgC p q g a (pkB k A (sgT k B) (encL [(ty, SS), mcP k ty A B SS SA]))) (sgS p q g a (pkB k A (sgT k B) (encL [(ty, SS), mcP k ty A B SS SA]))) (Nat.lt_trans hcl hq) (Nat.lt_trans hsl hq) (by
     show (sgPc k A B [(ty, SS), mcP k ty A B SS SA] p q g a).2 = _
     unfold sgPc
     rw [h.k2]) (pkB k A (sgT k B) (encL [(ty, SS), mcP k ty A B SS SA])) (by omega) (by omega) hc
 have e := sign_ck (asB (strL signedS) [pkB k A (sgT k B) (encL [(ty, SS), mcP k ty A B SS SA])]) s.hf s.h0 s.haq s.n1
 unfold sgS sgC at c
 rw [e] at c
 exact c
theorem mac_k (h : SndOk k ty A B SS SA) : Con Tryz.prog 56 [.agg (PKT k A B [(ty, SS)]), .agg [.ints .u8 32 SA]] [] (.tup [.agg (PKT k A B [(ty, SS), mcP k ty A B SS SA]), .s (.int .i64 0)]) [] := mac_ok k A B [(ty, SS)] SA h.hK h.w1 h.lt.1 h.hA h.hB h.uA h.uB h.mac
theorem sgn_k (h : SndOk k ty A B SS SA) (s : HstOk p q g a) : Con Tryz.prog 57 [.agg (GRP p q g), .agg (PKT k A B [(ty, SS), mcP k ty A B SS SA]), .agg [.ints .u64 4 (zs (wd a))]] [] (.tup [.agg (PKT k A B (plL k ty A B SS SA p q g a)), .s (.int .i64 0)]) [] := sgn_ok k A B _ p q g s.hp s.hq s.hg a s.ha h.w2 h.lt.1 h.hA h.hB h.uA h.uB (h.sgn s)
end

end Go.Proofs.X
end

section
open Go Go.Bx Go.Proofs
namespace Go.Proofs.X
attribute [local irreducible] be gN ckS up8 chk pk0 pkB mayK wd  mcB kyB koB kmB kM kC cmpT omB ocB imB icB saB heB bitsN expP inP mayP
theorem U8'_spl {A B : List Int} (hA : U8' A) (hB : U8' B) (i n m : Nat) : U8' (spl A B i n m) := fun j => by
  rcases Nat.lt_or_ge j m with h | h
  · rw [spl_getD _ _ _ _ _ _ h]; split
    · exact hB _
    · exact hA _
  · rw [List.getD_eq_getElem?_getD, List.getElem?_eq_none (by rw [Bx.spl_len]; exact h)]; decide
theorem U8'_lit : U8' [32, 1, 0, 33, 0, 0, 0, 0, 0, 0, 0, 0, 0, 0, 0, 0] := fun i => by
  rcases Nat.lt_or_ge i 16 with h | h
  · have : ∀ k, k < 16 → 0 ≤ ([32, 1, 0, 33, 0, 0, 0, 0, 0, 0, 0, 0, 0, 0, 0, 0] : List Int).getD k 0 ∧ ([32, 1, 0, 33, 0, 0, 0, 0, 0, 0, 0, 0, 0, 0, 0, 0] : List Int).getD k 0 < 256 := by decide
    exact this i h
  · rw [List.getD_eq_getElem?_getD, List.getElem?_eq_none h]; decide
theorem tagS_u8 (x : Nat) : U8' (tagS x) := U8'_spl U8'_lit (U8'_take (U8'_drop (U8'_asB _ _) _) _) _ _ _
attribute [local irreducible] tagS plL
section
variable {p q g a : Nat} {SD ID PE : List Int} {ep : Nat} {OM OC IM IC SA HE : List Int}
theorem is_k (s : HstOk p q g a) (hPE : PE.length = 16) (hne : (tagS (expP p g a)) ≠ PE) : Con Tryz.prog 22 [.agg [.ints .u64 4 (zs (wd p)), .ints .u64 4 (zs (wd q)), .ints .u64 4 (zs (wd g)), .ints .u64 4 (zs (wd a)), .ints .u8 32 SD], .agg [.ints .u8 32 ID, .ints .u8 16 PE, .one (.int .u32 ((ep : Nat) : Int)), .ints .u8 32 OM, .ints .u8 16 OC, .ints .u8 32 IM, .ints .u8 16 IC, .ints .u8 32 SA, .ints .u8 32 HE]] [] (.tup [.agg [.ints .u64 4 (zs (wd p)), .ints .u64 4 (zs (wd q)), .ints .u64 4 (zs (wd g)), .ints .u64 4 (zs (wd a)), .ints .u8 32 SD, .ints .u8 32 ID, .ints .u8 16 PE, .one (.int .u32 ((ep : Nat) : Int)), .ints .u8 32 OM, .ints .u8 16 OC, .ints .u8 32 IM, .ints .u8 16 IC, .ints .u8 32 SA, .ints .u8 32 HE, .ints .u8 16 (tagS (expP p g a))], .s (.int .i64 0)]) [] := is_c p q g a SD ID PE ep OM OC IM IC SA HE (expP p g a) hPE hne (key_f p q g s.hp s.hq s.hg a s.ha s.hf s.h0 s.haq)
theorem makes_k {k ty : Nat} {SS : List Int} (s : HstOk p q g a) (h : SndOk k ty (tagS (expP p g a)) PE SS SA) : Con Tryz.prog 24 [.agg [.ints .u64 4 (zs (wd p)), .ints .u64 4 (zs (wd q)), .ints .u64 4 (zs (wd g)), .ints .u64 4 (zs (wd a)), .ints .u8 32 SD, .ints .u8 32 ID, .ints .u8 16 PE, .one (.int .u32 ((ep : Nat) : Int)), .ints .u8 32 OM, .ints .u8 16 OC, .ints .u8 32 IM, .ints .u8 16 IC, .ints .u8 32 SA, .ints .u8 32 HE, .ints .u8 16 (tagS (expP p g a))], .s (.int .u8 ((k : Nat) : Int)), .s (.int .u16 ((ty : Nat) : Int)), .agg [.ints .u8 32 SS]] [] (.agg (PKT k (tagS (expP p g a)) PE (plL k ty (tagS (expP p g a)) PE SS SA p q g a))) [] := makes_c p q g a SD ID PE ep OM OC IM IC SA HE (tagS (expP p g a)) k ty SS h.hS _ _ (mac_k h) (sgn_k h s)
theorem reads_k {k ty a' : Nat} {SS TG : List Int} (s : HstOk p q g a') (h : SndOk k ty PE TG SS HE) : Con Tryz.prog 37 [.agg [.ints .u64 4 (zs (wd p)), .ints .u64 4 (zs (wd q)), .ints .u64 4 (zs (wd g)), .ints .u64 4 (zs (wd a)), .ints .u8 32 SD, .ints .u8 32 ID, .ints .u8 16 PE, .one (.int .u32 ((ep : Nat) : Int)), .ints .u8 32 OM, .ints .u8 16 OC, .ints .u8 32 IM, .ints .u8 16 IC, .ints .u8 32 SA, .ints .u8 32 HE, .ints .u8 16 TG], .agg (PKT k PE TG (plL k ty PE TG SS HE p q g a')), .agg [.ints .u64 4 (zs (wd (expP p g a')))], .s (.int .u8 ((k : Nat) : Int)), .s (.fzi .u16 (zs [(ty : Nat), 61505, 61697]))] [] (.tup [.agg [.ints .u8 32 SS], .s (.int .i64 0)]) [] := by
 have e0 : ((plL k ty PE TG SS HE p q g a').getD 0 p0) = (ty, SS) := by unfold plL; rfl
 have e1 : ((plL k ty PE TG SS HE p q g a').getD 1 p0) = mcP k ty PE TG SS HE := by unfold plL; rfl
 have e2 : ((plL k ty PE TG SS HE p q g a').getD 2 p0) = sgP k ty PE TG SS HE p q g a' := by unfold plL; rfl
 have el : (plL k ty PE TG SS HE p q g a').length = 3 := by unfold plL; rfl
 have c := reads_ok p q g a SD ID PE ep OM OC IM IC SA HE TG k (plL k ty PE TG SS HE p q g a') (expP p g a') [(ty : Nat), 61505, 61697] (eqf_y _ _ (by rw [el]; decide) (by rw [el]; rfl) (fun i hi => by
   rw [el] at hi
   rcases (show i = 0 ∨ i = 1 ∨ i = 2 by omega) with rfl | rfl | rfl
   · rw [e0]; rfl
   · rw [e1, mcP_1]; rfl
   · rw [e2, sgP_1]; rfl)) h.hA h.hB el (by rw [e0]; exact h.hS) (by rw [e1]; exact mcP_2) (by rw [e2]; exact sgP_2) (by rw [e2]; exact sgP_wf.2.1) (hasm_k h) (sgd_k h s)
 rw [e0] at c
 exact c
theorem new_k {SS : List Int} (y : Nat) {sp : Nat} {Bp : List Int} (s : HstOk p q g a) (h : SndOk 6 897 (tagS (expP p g a)) PE SS SA) (hne : (tagS (expP p g a)) ≠ PE) (hsp : sp ≠ 0) (eB : (pkB 6 (tagS (expP p g a)) PE (encL (plL 6 897 (tagS (expP p g a)) PE SS SA p q g a))) = Bp) : Con Tryz.prog 8 [.agg [.ints .u64 4 (zs (wd p)), .ints .u64 4 (zs (wd q)), .ints .u64 4 (zs (wd g)), .ints .u64 4 (zs (wd a)), .ints .u8 32 SD], .agg [.ints .u8 32 ID, .ints .u8 16 PE, .one (.int .u32 ((ep : Nat) : Int)), .ints .u8 32 OM, .ints .u8 16 OC, .ints .u8 32 IM, .ints .u8 16 IC, .ints .u8 32 SA, .ints .u8 32 HE], .agg [.ints .u64 4 (zs (wd y))], .agg [.ints .u8 32 SS], .s (.int .u32 ((sp : Nat) : Int))] [] (.tup [.s (.ptr 0 0 0), .s (.int .i64 0)]) [some ⟨true, [.ints .u64 4 (zs (wd p)), .ints .u64 4 (zs (wd q)), .ints .u64 4 (zs (wd g)), .ints .u64 4 (zs (wd a)), .ints .u8 32 SD, .ints .u8 32 ID, .ints .u8 16 PE, .one (.int .u32 ((ep : Nat) : Int)), .ints .u8 32 OM, .ints .u8 16 OC, .ints .u8 32 IM, .ints .u8 16 IC, .ints .u8 32 SA, .ints .u8 32 HE, .ints .u8 16 (tagS (expP p g a)), .ints .u64 4 (zs (wd y)), .ints .u8 32 SS, .one (.int .u32 0), .one (.int .u32 ((sp : Nat) : Int)), .one (.fzi .u8 Bp), .one (.int .i64 4), .one (.int .i64 5), .one (.gro 1 3 1)]⟩, some ⟨true, [.rows 1 3 (rowsF fun i => ([[.one (.int .u32 0), .one (.int .u32 ((sp : Nat) : Int)), .one (.fzi .u8 Bp)]] : List (List Seg)).getD i [])]⟩] := by
 subst eB
 exact clonew_c p q g a SD ID PE ep OM OC IM IC SA HE (expP p g a) y SS sp _ _ (Nat.le_trans (plL_len h) (by decide)) hsp (is_k s h.hB hne) (makes_k s h) (put_k h)
theorem ans_k {a' : Nat} {SS : List Int} (s : HstOk p q g a) (s' : HstOk p q g a') (h : SndOk 6 897 PE (tagS (expP p g a)) SS HE) (h' : SndOk 7 961 (tagS (expP p g a)) PE SS SA) (hne : (tagS (expP p g a)) ≠ PE) : Con Tryz.prog 11 [.agg [.ints .u64 4 (zs (wd p)), .ints .u64 4 (zs (wd q)), .ints .u64 4 (zs (wd g)), .ints .u64 4 (zs (wd a)), .ints .u8 32 SD], .agg [.ints .u8 32 ID, .ints .u8 16 PE, .one (.int .u32 ((ep : Nat) : Int)), .ints .u8 32 OM, .ints .u8 16 OC, .ints .u8 32 IM, .ints .u8 16 IC, .ints .u8 32 SA, .ints .u8 32 HE], .agg [.ints .u64 4 (zs (wd (expP p g a')))], .agg (PKT 6 PE (tagS (expP p g a)) (plL 6 897 PE (tagS (expP p g a)) SS HE p q g a'))] [] (.tup [.agg (PKT 7 (tagS (expP p g a)) PE (plL 7 961 (tagS (expP p g a)) PE SS SA p q g a)), .s (.int .i64 0)]) [] := answer_y p q g a SD ID PE ep OM OC IM IC SA HE (expP p g a) 6 PE (tagS (expP p g a)) _ (expP p g a') SS _ (is_k s h.hA hne) (reads_k s' h) (makes_k s h')
end
section
variable {p q g a : Nat} {SD ID PE : List Int} {ep : Nat} {OM OC IM IC SA HE TG : List Int} {y : Nat} {SS : List Int} {sp : Nat} {Bp : List Int} {left tries : Int}
theorem came_k {a' : Nat} {S2 : List Int} (s' : HstOk p q g a') (h : SndOk 7 961 PE TG S2 HE) (hsp : sp ≠ 0) (hSS : SS.length = 32) (ey : y = expP p g a') (r : Int) (hr : (S2 = SS ∧ r = 0) ∨ (S2 ≠ SS ∧ r = 7)) : Con Tryz.prog 13 [.s (.ptr 0 0 0), .agg (PKT 7 PE TG (plL 7 961 PE TG S2 HE p q g a'))] [some ⟨true, [.ints .u64 4 (zs (wd p)), .ints .u64 4 (zs (wd q)), .ints .u64 4 (zs (wd g)), .ints .u64 4 (zs (wd a)), .ints .u8 32 SD, .ints .u8 32 ID, .ints .u8 16 PE, .one (.int .u32 ((ep : Nat) : Int)), .ints .u8 32 OM, .ints .u8 16 OC, .ints .u8 32 IM, .ints .u8 16 IC, .ints .u8 32 SA, .ints .u8 32 HE, .ints .u8 16 TG, .ints .u64 4 (zs (wd y)), .ints .u8 32 SS, .one (.int .u32 0), .one (.int .u32 ((sp : Nat) : Int)), .one (.fzi .u8 Bp), .one (.int .i64 left), .one (.int .i64 tries), .one .nils]⟩] (.s (.int .i64 r)) [some ⟨true, [.ints .u64 4 (zs (wd p)), .ints .u64 4 (zs (wd q)), .ints .u64 4 (zs (wd g)), .ints .u64 4 (zs (wd a)), .ints .u8 32 SD, .ints .u8 32 ID, .ints .u8 16 PE, .one (.int .u32 ((ep : Nat) : Int)), .ints .u8 32 OM, .ints .u8 16 OC, .ints .u8 32 IM, .ints .u8 16 IC, .ints .u8 32 SA, .ints .u8 32 HE, .ints .u8 16 TG, .ints .u64 4 (zs (wd y)), .ints .u8 32 SS, .one (.int .u32 0), .one (.int .u32 ((sp : Nat) : Int)), .one (.fzi .u8 Bp), .one (.int .i64 left), .one (.int .i64 tries), .one .nils]⟩] := by
 subst ey
 rcases hr with ⟨h1, rfl⟩ | ⟨h1, rfl⟩
 · exact came_y p q g a SD ID PE ep OM OC IM IC SA HE TG (expP p g a') SS sp Bp left tries hsp 7 PE TG _ S2 h.hS hSS h1 (reads_k s' h)
 · exact came_n p q g a SD ID PE ep OM OC IM IC SA HE TG (expP p g a') SS sp Bp left tries hsp 7 PE TG _ S2 h.hS hSS h1 (reads_k s' h)
end

theorem key_k {p q g a : Nat} (hp : p < 2 ^ 256) (hq : q < 2 ^ 256) (hg : g < 2 ^ 256) (ha : a < 2 ^ 256) (h : secP p q g a = true) : Con Tryz.prog 18 [.agg (GRP p q g), .agg [.ints .u64 4 (zs (wd a))]] [] (.tup [.agg [.ints .u64 4 (zs (wd (expP p g a)))], .s (.int .i64 0)]) [] := by
 simp only [secP, Bool.and_eq_true, Bool.not_eq_true', decide_eq_true_eq, decide_eq_false_iff_not] at h
 exact key_f p q g hp hq hg a ha h.1 h.2.1 h.2.2
theorem key_any (p q g a : Nat) (hp : p < 2 ^ 256) (hq : q < 2 ^ 256) (hg : g < 2 ^ 256) (ha : a < 2 ^ 256) : ∃ y e, (e = 0 → secP p q g a = true ∧ y = (expP p g a)) ∧ Con Tryz.prog 18 [.agg (GRP p q g), .agg [.ints .u64 4 (zs (wd a))]] [] (.tup [.agg [.ints .u64 4 (zs (wd y))], .s (.int .i64 e)]) [] := by
 cases h : secP p q g a with
 | true => exact ⟨_, 0, fun _ => ⟨rfl, rfl⟩, key_k hp hq hg ha h⟩
 | false => exact ⟨0, 1, fun e => absurd e (by decide), key_no p q g hp hq hg a ha h⟩
theorem tag_any (p q g a : Nat) (SA : List Int) (hp : p < 2 ^ 256) (hq : q < 2 ^ 256) (hg : g < 2 ^ 256) (ha : a < 2 ^ 256) : ∃ t c, (c = true → secP p q g a = true ∧ t = (tagS (expP p g a))) ∧ t.length = 16 ∧ Con Tryz.prog 17 [.agg [.ints .u64 4 (zs (wd p)), .ints .u64 4 (zs (wd q)), .ints .u64 4 (zs (wd g)), .ints .u64 4 (zs (wd a)), .ints .u8 32 SA]] [] (.tup [.agg [.ints .u8 16 t], .s (.bool c)]) [] := by
 cases h : secP p q g a with
 | true => exact ⟨_, true, fun _ => ⟨rfl, rfl⟩, tagS_len _, tag_ok p q g a SA _ (key_k hp hq hg ha h)⟩
 | false => exact ⟨_, false, fun e => Bool.noConfusion e, tagS_len _, tag_no p q g a SA 0 (key_no p q g hp hq hg a ha h)⟩
theorem sess_k {p q g a b : Nat} {A B ID : List Int} (s : HstOk p q g a) (t : HstOk p q g b) (hA : A.length = 16) (hB : B.length = 16) (hID : ID.length = 32) (hne : A ≠ B) (M : List Int) (hM : kmB (expP p (expP p g b) a) ID = M) : Con Tryz.prog 20 [.agg (GRP p q g), .agg [.ints .u64 4 (zs (wd a)), .ints .u64 4 (zs (wd (expP p g b))), .ints .u8 16 A, .ints .u8 16 B, .ints .u8 32 ID, .one (.int .u32 ((0 : Nat) : Int))]] [] (.tup [.agg (SESS ID B 0 (omB A B M) (ocB A B M) (imB A B M) (icB A B M) (saB A B M) (heB A B M)), .s (.int .i64 0)]) [] := by
 subst hM
 have hx := expP_lt (a := g) (n := b) s.hp
 have hin := key_in s.hf (Nat.le_of_lt t.haq)
 have c1 := in_n p q g s.hp s.hq s.hg (expP p g b) hx
 rw [hin] at c1
 exact sess_c p q g a (expP p g b) (expP p g a) _ A B ID 0 hA hB hID hne _ rfl _ _ _ _ _ _ ⟨rfl, rfl, rfl, rfl, rfl, rfl⟩ (key_k s.hp s.hq s.hg s.ha s.sec) (public_y p q g _ hx c1 t.n1) (gexp_f p q g s.hp s.hq s.hg (expP p g b) a hx s.ha (in_may hin))
theorem hst_of {p q g a : Nat} (hp : p < 2 ^ 256) (hq : q < 2 ^ 256) (hg : g < 2 ^ 256) (ha : a < 2 ^ 256) (h : secP p q g a = true) (hpr : prmN q) : HstOk p q g a := by
 simp only [secP, Bool.and_eq_true, Bool.not_eq_true', decide_eq_true_eq, decide_eq_false_iff_not] at h
 exact ⟨hp, hq, hg, ha, h.1, h.2.1, h.2.2, hpr⟩
structure Duo (p q g a : Nat) (SA : List Int) (b : Nat) (SB : List Int) (s0 s1 : Nat) (ID : List Int) (U1 U2 U3 U4 U5 U6 V1 V2 V3 V4 V5 V6 : List Int) : Prop where
 sa : HstOk p q g a
 sb : HstOk p q g b
 ne : (tagS (expP p g a)) ≠ (tagS (expP p g b))
 u5 : U5.length = 32
 u6 : U6.length = 32
 e5 : V5 = U6
 e6 : V6 = U5
 con : Con Tryz.prog 6 [.agg [.ints .u64 4 (zs (wd p)), .ints .u64 4 (zs (wd q)), .ints .u64 4 (zs (wd g)), .ints .u64 4 (zs (wd a)), .ints .u8 32 SA, .ints .u64 4 (zs (wd p)), .ints .u64 4 (zs (wd q)), .ints .u64 4 (zs (wd g)), .ints .u64 4 (zs (wd b)), .ints .u8 32 SB, .ints .u64 4 (zs (wd s0)), .ints .u64 4 (zs (wd s1)), .ints .u8 32 ID]] [] (.tup [.agg [.ints .u8 32 ID, .ints .u8 16 (tagS (expP p g b)), .one (.int .u32 ((0 : Nat) : Int)), .ints .u8 32 U1, .ints .u8 16 U2, .ints .u8 32 U3, .ints .u8 16 U4, .ints .u8 32 U5, .ints .u8 32 U6, .ints .u8 32 ID, .ints .u8 16 (tagS (expP p g a)), .one (.int .u32 ((0 : Nat) : Int)), .ints .u8 32 V1, .ints .u8 16 V2, .ints .u8 32 V3, .ints .u8 16 V4, .ints .u8 32 V5, .ints .u8 32 V6], .agg [.ints .u64 4 (zs (wd (expP p g a))), .ints .u64 4 (zs (wd (expP p g b)))], .s (.bool true)]) []
theorem duo_y {p q g a b s0 s1 : Nat} {ID : List Int} (SA SB : List Int) (h1 : HstOk p q g a) (h2 : HstOk p q g b) (k0 : HstOk p q g s0) (k1 : HstOk p q g s1) (hID : ID.length = 32) (hne : (tagS (expP p g a)) ≠ (tagS (expP p g b))) (hpr : Con Tryz.prog 19 [.agg (GRP p q g)] [] (.s (.bool true)) []) : ∃ U1 U2 U3 U4 U5 U6 V1 V2 V3 V4 V5 V6, Duo p q g a SA b SB s0 s1 ID U1 U2 U3 U4 U5 U6 V1 V2 V3 V4 V5 V6 := by
 have hM := kmB_len (expP p (expP p g s1) s0) ID
 have eM : kmB (expP p (expP p g s0) s1) ID = kmB (expP p (expP p g s1) s0) ID := by rw [shared_eq h1.hf (Nat.le_of_lt k0.haq) (Nat.le_of_lt k1.haq)]
 have c0 := sess_k k0 k1 (tagS_len (expP p g a)) (tagS_len (expP p g b)) hID hne _ rfl
 have c1 := sess_k k1 k0 (tagS_len (expP p g b)) (tagS_len (expP p g a)) hID (fun e => hne e.symm) _ eM
 have ky := fun n (s : HstOk p q g n) => key_k s.hp s.hq s.hg s.ha s.sec
 refine ⟨_, _, _, _, _, _, _, _, _, _, _, _, h1, h2, hne, saB_len hM, heB_len hM, ?_, ?_, two_y p q g a SA b SB s0 s1 ID (tagS (expP p g a)) (tagS (expP p g b)) (expP p g s0) (expP p g s1) (expP p g a) (expP p g b) _ _ _ _ _ _ _ _ _ _ _ _ (tagS_len _) (tagS_len _) hne (tag_ok p q g a SA _ (ky a h1)) (tag_ok p q g b SB _ (ky b h2)) (ky s0 k0) (ky s1 k1) hpr c0 c1 (ky a h1) (ky b h2)⟩
 · exact sa_he (tagS_len _) (tagS_len _) (fun e => hne e.symm) _
 · exact (sa_he (tagS_len _) (tagS_len _) hne _).symm
theorem duo_all (p q g a : Nat) (SA : List Int) (p2 q2 g2 b : Nat) (SB : List Int) (s0 s1 : Nat) (ID : List Int) (hp : p < 2 ^ 256) (hq : q < 2 ^ 256) (hg : g < 2 ^ 256) (ha : a < 2 ^ 256) (hp2 : p2 < 2 ^ 256) (hq2 : q2 < 2 ^ 256) (hg2 : g2 < 2 ^ 256) (hb : b < 2 ^ 256) (h0 : s0 < 2 ^ 256) (h1 : s1 < 2 ^ 256) (hID : ID.length = 32) : Con Tryz.prog 6 [.agg [.ints .u64 4 (zs (wd p)), .ints .u64 4 (zs (wd q)), .ints .u64 4 (zs (wd g)), .ints .u64 4 (zs (wd a)), .ints .u8 32 SA, .ints .u64 4 (zs (wd p2)), .ints .u64 4 (zs (wd q2)), .ints .u64 4 (zs (wd g2)), .ints .u64 4 (zs (wd b)), .ints .u8 32 SB, .ints .u64 4 (zs (wd s0)), .ints .u64 4 (zs (wd s1)), .ints .u8 32 ID]] [] (.tup [.agg [.ints .u8 32 (zs (List.replicate 32 0)), .ints .u8 16 (zs (List.replicate 16 0)), .one (.int .u32 0), .ints .u8 32 (zs (List.replicate 32 0)), .ints .u8 16 (zs (List.replicate 16 0)), .ints .u8 32 (zs (List.replicate 32 0)), .ints .u8 16 (zs (List.replicate 16 0)), .ints .u8 32 (zs (List.replicate 32 0)), .ints .u8 32 (zs (List.replicate 32 0)), .ints .u8 32 (zs (List.replicate 32 0)), .ints .u8 16 (zs (List.replicate 16 0)), .one (.int .u32 0), .ints .u8 32 (zs (List.replicate 32 0)), .ints .u8 16 (zs (List.replicate 16 0)), .ints .u8 32 (zs (List.replicate 32 0)), .ints .u8 16 (zs (List.replicate 16 0)), .ints .u8 32 (zs (List.replicate 32 0)), .ints .u8 32 (zs (List.replicate 32 0))], .agg [.ints .u64 4 (zs (List.replicate 4 0)), .ints .u64 4 (zs (List.replicate 4 0))], .s (.bool false)]) [] ∨ (p2 = p ∧ q2 = q ∧ g2 = g ∧ ∃ U1 U2 U3 U4 U5 U6 V1 V2 V3 V4 V5 V6, Duo p q g a SA b SB s0 s1 ID U1 U2 U3 U4 U5 U6 V1 V2 V3 V4 V5 V6) := by
 obtain ⟨TA, b1, k1, l1, c1⟩ := tag_any p q g a SA hp hq hg ha
 obtain ⟨TB, b2, k2, l2, c2⟩ := tag_any p2 q2 g2 b SB hp2 hq2 hg2 hb
 obtain ⟨y0, e0, m0, d0⟩ := key_any p q g s0 hp hq hg h0
 obtain ⟨y1, e1, m1, d1⟩ := key_any p q g s1 hp hq hg h1
 obtain ⟨b3, k3, c3⟩ := Prime_c p q g hp hq
 cases hB : ((((((!b1 || !b2) || decide (TA = TB)) || !(decide (zs (wd p) = zs (wd p2)) && (decide (zs (wd q) = zs (wd q2)) && (decide (zs (wd g) = zs (wd g2)) && true)))) || !b3) || decide (e0 ≠ 0)) || decide (e1 ≠ 0)) with
 | true => exact .inl (two_no p q g a SA p2 q2 g2 b SB s0 s1 ID TA TB b1 b2 b3 y0 y1 e0 e1 l1 l2 c1 c2 d0 d1 c3 hB)
 | false =>
  simp only [Bool.or_eq_false_iff, Bool.not_eq_false', decide_eq_false_iff_not, Bool.and_eq_true, decide_eq_true_eq, Classical.not_not, and_true] at hB
  obtain ⟨⟨⟨⟨⟨⟨rfl, rfl⟩, hne⟩, hgr⟩, rfl⟩, r0⟩, r1⟩ := hB
  obtain ⟨gp, gq, gg⟩ := hgr
  obtain rfl := (wd_inj hp hp2).1 (zs_inj.1 gp)
  obtain rfl := (wd_inj hq hq2).1 (zs_inj.1 gq)
  obtain rfl := (wd_inj hg hg2).1 (zs_inj.1 gg)
  obtain ⟨hs1, rfl⟩ := k1 rfl
  obtain ⟨hs2, rfl⟩ := k2 rfl
  have hpr := (k3 rfl).2.2.2
  exact .inr ⟨rfl, rfl, rfl, duo_y SA SB (hst_of hp hq hg ha hs1 hpr) (hst_of hp hq hg hb hs2 hpr) (hst_of hp hq hg h0 (m0 r0).1 hpr) (hst_of hp hq hg h1 (m1 r1).1 hpr) hID hne c3⟩

end Go.Proofs.X
end
