/- A part of the proofs of this claim: Bx16, Bx17, Bx18, Bx19, Bx20, Bx21, Bx22. No conditions. -/
import Derived.Test.YtokgpammicpahaaGreatDoorS2
import Derived.KernelRfl
import Derived.RangeFuncRecord
import Derived.RangeFuncCalls
set_option linter.unusedVariables false
set_option linter.unusedSimpArgs false
section
/- One name for each kind of operation: how it goes is found. No program. -/
namespace Go.Bx

def SV.plain0 : SV → Bool
  | .ptr .. => false | .slice .. => false | .slx .. => false | .gro .. => false | .clo .. => false | .ifc .. => false
  | _ => true
def Seg.plain0 : Seg → Bool
  | .one v => v.plain0
  | _ => true
def AV.plain0 : AV → Bool
  | .s v => v.plain0
  | .agg l => l.all Seg.plain0
  | .tup l => l.all fun | .s v => v.plain0 | .agg l => l.all Seg.plain0 | .tup _ => true

class TopN (k : IntKind) (n : outParam Nat) : Prop where
  h : top k = n
instance : TopN .i8 128 := ⟨rfl⟩
instance : TopN .i16 32768 := ⟨rfl⟩
instance : TopN .i32 2147483648 := ⟨rfl⟩
instance : TopN .i64 9223372036854775808 := ⟨rfl⟩
instance : TopN .u8 256 := ⟨rfl⟩
instance : TopN .u16 65536 := ⟨rfl⟩
instance : TopN .u32 4294967296 := ⟨rfl⟩
instance : TopN .u64 18446744073709551616 := ⟨rfl⟩
class Uns (k : IntKind) (n : outParam Nat) : Prop where
  h : ∀ m : Int, k.wrap m = m % (n : Int)
  p : 0 < n
instance : Uns .u8 256 := ⟨fun _ => rfl, by decide⟩
instance : Uns .u16 65536 := ⟨fun _ => rfl, by decide⟩
instance : Uns .u32 4294967296 := ⟨fun _ => rfl, by decide⟩
instance : Uns .u64 18446744073709551616 := ⟨fun _ => rfl, by decide⟩
class BitsN (k : IntKind) (n : outParam Nat) : Prop where
  h : k.bits = n
instance : BitsN .i8 8 := ⟨rfl⟩
instance : BitsN .i16 16 := ⟨rfl⟩
instance : BitsN .i32 32 := ⟨rfl⟩
instance : BitsN .i64 64 := ⟨rfl⟩
instance : BitsN .u8 8 := ⟨rfl⟩
instance : BitsN .u16 16 := ⟨rfl⟩
instance : BitsN .u32 32 := ⟨rfl⟩
instance : BitsN .u64 64 := ⟨rfl⟩
section nums
variable {k : IntKind} {m n : Int} {a b c t : Nat}
theorem m_add [hm : IsN m a] [hn : IsN n b] [hc : AddN a b c] [ht : TopN k t] (h : c < t) : k.wrap (m + n) = ((c : Nat) : Int) := n_add hm hn hc (by rw [ht.h]; exact h)
theorem m_addm [hm : IsN m a] [hn : IsN n b] [ht : Uns k t] : k.wrap (m + n) = (((a + b) % t : Nat) : Int) := by rw [hm.h, hn.h, ht.h]; simp
theorem m_sub [hm : IsN m a] [hn : IsN n b] [hc : SubN a b c] [ht : TopN k t] (h : b ≤ a ∧ a < t) : k.wrap (m - n) = ((c : Nat) : Int) := n_sub hm hn hc h.1 (by rw [ht.h]; exact h.2)
theorem m_subm [hm : IsN m a] [hn : IsN n b] [ht : Uns k t] (h : b ≤ t) : k.wrap (m - n) = (((a + (t - b)) % t : Nat) : Int) := by
  rw [hm.h, hn.h, ht.h, Int.natCast_emod, Int.natCast_add, Int.ofNat_sub h]
  have : (a : Int) + ((t : Int) - (b : Int)) = ((a : Int) - (b : Int)) + (t : Int) := by omega
  rw [this, Int.add_emod_right]
theorem m_mul [hm : IsN m a] [hn : IsN n b] [hc : MulN a b c] [ht : TopN k t] (h : c < t) : k.wrap (m * n) = ((c : Nat) : Int) := n_mul hm hn hc (by rw [ht.h]; exact h)
theorem m_mulm [hm : IsN m a] [hn : IsN n b] [ht : Uns k t] : k.wrap (m * n) = (((a * b) % t : Nat) : Int) := by rw [hm.h, hn.h, ht.h]; simp
theorem m_quo [hm : IsN m a] [hn : IsN n b] [ht : TopN k t] (h : a < t) : k.wrap (m.tdiv n) = ((a / b : Nat) : Int) := n_quo hm hn (by rw [ht.h]; exact h)
theorem m_rem [hm : IsN m a] [hn : IsN n b] : m.tmod n = ((a % b : Nat) : Int) := n_rem hm hn
theorem m_ne0 [hn : IsN n b] (h : 0 < b) : n ≠ 0 := n_ne0 hn h
theorem m_conv [hm : IsN m a] [ht : TopN k t] (h : a < t) : k.wrap m = ((a : Nat) : Int) := n_conv hm (by rw [ht.h]; exact h)
theorem m_convm [hm : IsN m a] [ht : Uns k t] : k.wrap m = ((a % t : Nat) : Int) := by rw [hm.h, ht.h]; simp
theorem m_lss [hm : IsN m a] [hn : IsN n b] : decide (m < n) = decide (a < b) := n_lss hm hn
theorem m_leq [hm : IsN m a] [hn : IsN n b] : decide (m ≤ n) = decide (a ≤ b) := n_leq hm hn
theorem m_gtr [hm : IsN m a] [hn : IsN n b] : decide (n < m) = decide (b < a) := n_gtr hm hn
theorem m_geq [hm : IsN m a] [hn : IsN n b] : decide (n ≤ m) = decide (b ≤ a) := n_geq hm hn
theorem m_eql [hm : IsN m a] [hn : IsN n b] : decide (m = n) = decide (a = b) := n_eql hm hn
theorem m_neq [hm : IsN m a] [hn : IsN n b] : decide (m ≠ n) = !decide (a = b) := n_neq hm hn
theorem m_shr [hm : IsN m a] [hn : IsN n b] [hb : BitsN k t] (h : b ≤ t) : shrK k m n = ((a / 2 ^ b : Nat) : Int) := n_shr hm hn (by rw [hb.h]; exact h)
theorem m_shlm [hm : IsN m a] [hn : IsN n b] [hb : BitsN k c] [ht : Uns k t] (h : b ≤ c) : shlK k m n = (((a * 2 ^ b) % t : Nat) : Int) := by
  rw [hm.h, hn.h]
  unfold shlK
  rw [Int.toNat_natCast, hb.h, Nat.min_eq_left h, ht.h]
  simp
theorem m_and [hm : IsN m a] [hn : IsN n b] [ht : TopN k t] (ha : a < t) (hb : b < t) : andK k m n = ((a &&& b : Nat) : Int) := n_and hm hn (by rw [ht.h]; exact ha) (by rw [ht.h]; exact hb)
theorem m_or [hm : IsN m a] [hn : IsN n b] [ht : TopN k t] (ha : a < t) (hb : b < t) : orK k m n = ((a ||| b : Nat) : Int) := n_or hm hn (by rw [ht.h]; exact ha) (by rw [ht.h]; exact hb)
theorem m_xor [hm : IsN m a] [hn : IsN n b] [ht : TopN k t] (ha : a < t) (hb : b < t) : xorK k m n = ((a ^^^ b : Nat) : Int) := n_xor hm hn (by rw [ht.h]; exact ha) (by rw [ht.h]; exact hb)
theorem m_pos [hn : IsN n b] : 0 ≤ n := by rw [hn.h]; omega
end nums

class FldC (P : Program) (t : TypeId) (f : Nat) (off : outParam Nat) : Prop where
  h : ∃ (fs : Array Field) (fd : Field) (sz : Nat), P.underlying t = some (.struct fs) ∧ fs[f]? = some fd ∧ (∀ w, (sizeOf fd.type).run P w = .ok sz w) ∧ sz ≠ 0 ∧ fd.offset = off
section rules
variable {P : Program} {T : Tm} {H : Heap} {d : Option Tmp} {ty : TypeId} {pos : String} {af : Array Edge} {g : Option (Nat × Bool)}
theorem f_fld0 {t : TypeId} {x : Operand} {id base f off r : Nat} (hx : ev T x = .s (.ptr id base 0)) [hf : FldC P t f off] [hr : AddN base off r] : LOk P ⟨d, .fieldAddr t x f, ty, pos, af, g⟩ T H H (.s (.ptr id r 0)) [] [] := by
  obtain ⟨fs, fd, sz, h1, h2, h3, h4, h5⟩ := hf.h
  exact l_fld hx h1 h2 h3 h4 (.inl ⟨rfl, by rw [h5, hr.h], rfl⟩)
theorem f_fldr {t : TypeId} {x : Operand} {id base idx f off r : Nat} (hx : ev T x = .s (.ptr id base idx)) [hf : FldC P t f off] [hr : AddN idx off r] : LOk P ⟨d, .fieldAddr t x f, ty, pos, af, g⟩ T H H (.s (.ptr id base r)) [] [] := by
  obtain ⟨fs, fd, sz, h1, h2, h3, h4, h5⟩ := hf.h
  exact l_fld hx h1 h2 h3 h4 (.inr ⟨rfl, by rw [h5, hr.h]⟩)
theorem f_fldf {t : TypeId} {x : Operand} {m base f off r : Nat} {q : Nat → SV} (hx : ev T x = .s (.fptr m q base 0)) [hf : FldC P t f off] [hr : AddN base off r] : LOk P ⟨d, .fieldAddr t x f, ty, pos, af, g⟩ T H H (.s (.fptr m q r 0)) [] [] := by
  obtain ⟨fs, fd, sz, h1, h2, h3, h4, h5⟩ := hf.h
  exact l_fldf hx h1 h2 h3 h4 (.inl ⟨rfl, by rw [h5, hr.h], rfl⟩)
end rules

class SuccN (a : Nat) (b : outParam Nat) : Prop where
  h : a + 1 = b
instance : SuccN 0 1 := ⟨rfl⟩
instance : SuccN 1 2 := ⟨rfl⟩
instance : SuccN 2 3 := ⟨rfl⟩
instance : SuccN 3 4 := ⟨rfl⟩
instance : SuccN 4 5 := ⟨rfl⟩
instance : SuccN 5 6 := ⟨rfl⟩
instance : SuccN 6 7 := ⟨rfl⟩
instance : SuccN 7 8 := ⟨rfl⟩
instance : SuccN 8 9 := ⟨rfl⟩
instance : SuccN 9 10 := ⟨rfl⟩
instance : SuccN 10 11 := ⟨rfl⟩
instance : SuccN 11 12 := ⟨rfl⟩
instance : SuccN 12 13 := ⟨rfl⟩
instance : SuccN 13 14 := ⟨rfl⟩
instance : SuccN 14 15 := ⟨rfl⟩
instance : SuccN 15 16 := ⟨rfl⟩
instance : SuccN 16 17 := ⟨rfl⟩
instance : SuccN 17 18 := ⟨rfl⟩
instance : SuccN 18 19 := ⟨rfl⟩
instance : SuccN 19 20 := ⟨rfl⟩
instance : SuccN 20 21 := ⟨rfl⟩
instance : SuccN 21 22 := ⟨rfl⟩
instance : SuccN 22 23 := ⟨rfl⟩
instance : SuccN 23 24 := ⟨rfl⟩
instance : SuccN 24 25 := ⟨rfl⟩
instance : SuccN 25 26 := ⟨rfl⟩
instance : SuccN 26 27 := ⟨rfl⟩
instance : SuccN 27 28 := ⟨rfl⟩
instance : SuccN 28 29 := ⟨rfl⟩
instance : SuccN 29 30 := ⟨rfl⟩
instance : SuccN 30 31 := ⟨rfl⟩
instance : SuccN 31 32 := ⟨rfl⟩
instance : SuccN 32 33 := ⟨rfl⟩
instance : SuccN 33 34 := ⟨rfl⟩
instance : SuccN 34 35 := ⟨rfl⟩
instance : SuccN 35 36 := ⟨rfl⟩
instance : SuccN 36 37 := ⟨rfl⟩
instance : SuccN 37 38 := ⟨rfl⟩
instance : SuccN 38 39 := ⟨rfl⟩
instance : SuccN 39 40 := ⟨rfl⟩
instance : SuccN 40 41 := ⟨rfl⟩
instance : SuccN 41 42 := ⟨rfl⟩
instance : SuccN 42 43 := ⟨rfl⟩
instance : SuccN 43 44 := ⟨rfl⟩
instance : SuccN 44 45 := ⟨rfl⟩
instance : SuccN 45 46 := ⟨rfl⟩
instance : SuccN 46 47 := ⟨rfl⟩
instance : SuccN 47 48 := ⟨rfl⟩
class LenN (H : Heap) (n : outParam Nat) : Prop where
  h : H.length = n
instance : LenN [] 0 := ⟨rfl⟩
instance lenN_s (b : Option Blk) (l : Heap) (m n : Nat) [h : LenN l m] [k : SuccN m n] : LenN (b :: l) n := ⟨by rw [List.length_cons, h.h, k.h]⟩
theorem AV.ren_self {f : Nat → Nat} {x : AV} (h : x.plain0 = true) : x.ren f = x := by
  have hs : ∀ v : SV, v.plain0 = true → v.ren f = v := fun v hv => by cases v <;> first | rfl | (cases hv; done)
  have hg : ∀ l : List Seg, l.all Seg.plain0 = true → l.map (Seg.ren f) = l := fun l hl => by
    induction l with
    | nil => rfl
    | cons a r ih =>
      simp only [List.all_cons, Bool.and_eq_true] at hl
      rw [List.map_cons, ih hl.2]
      congr 1
      cases a with
      | one v => exact congrArg Seg.one (hs v hl.1)
      | ints => rfl
      | rows => rfl
  cases x with
  | s v => exact congrArg AV.s (hs v h)
  | agg l => exact congrArg AV.agg (hg l h)
  | tup l =>
    refine congrArg AV.tup ?_
    simp only [AV.plain0] at h
    induction l with
    | nil => rfl
    | cons a r ih =>
      simp only [List.all_cons, Bool.and_eq_true] at h
      rw [List.map_cons, ih h.2]
      congr 1
      cases a with
      | s v => exact congrArg AV.s (hs v h.1)
      | agg l => exact congrArg AV.agg (hg l h.1)
      | tup l => rfl

theorem hset_0 {b c : Option Blk} {l : Heap} : (b :: l).set 0 c = c :: l := rfl
theorem hset_s {b c : Option Blk} {l r : Heap} {i : Nat} (h : l.set i c = r) : (b :: l).set (i + 1) c = b :: r := by rw [← h]; rfl
theorem happ_0 {b : Option Blk} : ([] : Heap) ++ [b] = [b] := rfl
theorem happ_s {b c : Option Blk} {l r : Heap} (h : l ++ [c] = r) : (b :: l) ++ [c] = b :: r := by rw [← h]; rfl
theorem sset_0 {s x : Seg} {l : List Seg} : segSet (s :: l) 0 x = x :: l := rfl
theorem sset_s {s x : Seg} {l r : List Seg} {b : Nat} (q : Nat) (h0 : Nat.beq b 0 = false) (hq : b - s.size = q) (h : segSet l q x = r) : segSet (s :: l) b x = s :: r := by
  rw [segSet, h0, hq, h]; rfl
theorem hset_seg {H r : Heap} {id : Nat} {s s' : List Seg} (h : s = s') (hr : H.set id (some ⟨true, s'⟩) = r) : H.set id (some ⟨true, s⟩) = r := h ▸ hr

section rules
variable {P : Program} {T : Tm} {H : Heap} {d : Option Tmp} {ty : TypeId} {pos : String} {af : Array Edge} {g : Option (Nat × Bool)}
theorem a_load_whole {t : TypeId} {x : Operand} {id n : Nat} {k : Blk} (hx : ev T x = .s (.ptr id 0 0)) (hb : hget H id = some k) [ha : Ag P t true] [hz : Sz P t n] (hn : sizeS k.segs = n) : LOk P ⟨d, .load t x, ty, pos, af, g⟩ T H H (.agg k.segs) [id] [] := l_load_agg hx hb (.whole hn) ha.h hz.h
theorem a_loadf_one {t : TypeId} {x : Operand} {m base : Nat} {segs : List Seg} {v : SV} (hx : ev T x = .s (.fptr m (cellsF segs) base 0)) (hs : segAt segs base = some (.one v)) [ha : Ag P t false] (hm : base < m) : LOk P ⟨d, .load t x, ty, pos, af, g⟩ T H H (.s v) [] [] :=
  l_loadf hx (by omega) (by unfold cellsF; rw [segAt_at hs 0 Nat.one_pos]; rfl) ha.h
end rules
section kinds
variable {P : Program} {T : Tm} {H : Heap} {d : Option Tmp} {ty : TypeId} {pos : String} {af : Array Edge} {g : Option (Nat × Bool)} {v : AV} {H' : Heap} {F M : List Nat}
theorem k_mv {x : Operand} (h : LOk P ⟨d, .move x, ty, pos, af, g⟩ T H H v [] [] := by first | exact l_move (v := .s _) rfl | exact l_move (v := .agg _) rfl | exact l_move (v := .tup _) rfl) : LOk P ⟨d, .move x, ty, pos, af, g⟩ T H H v [] [] := h
theorem k_as {x : Operand} (h : LOk P ⟨d, .assign x, ty, pos, af, g⟩ T H H v [] [] := by first | exact l_assign (v := .s _) rfl | exact l_assign (v := .agg _) rfl | exact l_assign (v := .tup _) rfl) : LOk P ⟨d, .assign x, ty, pos, af, g⟩ T H H v [] [] := h
theorem k_add {t tt : TypeId} {x y : Operand} (h : LOk P ⟨d, .binOp .add t x y tt, ty, pos, af, g⟩ T H H v [] [] := by first | exact l_bin rfl rfl (b_add (m_add (by omega))) | exact l_bin rfl rfl (b_add m_addm) | exact l_bin rfl rfl (b_add rfl)) : LOk P ⟨d, .binOp .add t x y tt, ty, pos, af, g⟩ T H H v [] [] := h
theorem k_sub {t tt : TypeId} {x y : Operand} (h : LOk P ⟨d, .binOp .sub t x y tt, ty, pos, af, g⟩ T H H v [] [] := by first | exact l_bin rfl rfl (b_sub (m_sub (by omega))) | exact l_bin rfl rfl (b_sub (m_subm (by omega))) | exact l_bin rfl rfl (b_sub rfl)) : LOk P ⟨d, .binOp .sub t x y tt, ty, pos, af, g⟩ T H H v [] [] := h
theorem k_mul {t tt : TypeId} {x y : Operand} (h : LOk P ⟨d, .binOp .mul t x y tt, ty, pos, af, g⟩ T H H v [] [] := by first | exact l_bin rfl rfl (b_mul (m_mul (by omega))) | exact l_bin rfl rfl (b_mul m_mulm) | exact l_bin rfl rfl (b_mul rfl)) : LOk P ⟨d, .binOp .mul t x y tt, ty, pos, af, g⟩ T H H v [] [] := h
theorem k_quo {t tt : TypeId} {x y : Operand} (h : LOk P ⟨d, .binOp .quo t x y tt, ty, pos, af, g⟩ T H H v [] [] := by first | exact l_bin rfl rfl (b_quo (m_ne0 (by omega)) (m_quo (by omega)))) : LOk P ⟨d, .binOp .quo t x y tt, ty, pos, af, g⟩ T H H v [] [] := h
theorem k_rem {t tt : TypeId} {x y : Operand} (h : LOk P ⟨d, .binOp .rem t x y tt, ty, pos, af, g⟩ T H H v [] [] := by first | exact l_bin rfl rfl (b_rem (m_ne0 (by omega)) m_rem)) : LOk P ⟨d, .binOp .rem t x y tt, ty, pos, af, g⟩ T H H v [] [] := h
theorem k_and {t tt : TypeId} {x y : Operand} (h : LOk P ⟨d, .binOp .and t x y tt, ty, pos, af, g⟩ T H H v [] [] := by first | exact l_bin rfl rfl (b_and (m_and (by first | omega | assumption) (by first | omega | assumption))) | exact l_bin rfl rfl (b_and rfl)) : LOk P ⟨d, .binOp .and t x y tt, ty, pos, af, g⟩ T H H v [] [] := h
theorem k_or {t tt : TypeId} {x y : Operand} (h : LOk P ⟨d, .binOp .or t x y tt, ty, pos, af, g⟩ T H H v [] [] := by first | exact l_bin rfl rfl (b_or (m_or (by first | omega | assumption) (by first | omega | assumption))) | exact l_bin rfl rfl (b_or rfl)) : LOk P ⟨d, .binOp .or t x y tt, ty, pos, af, g⟩ T H H v [] [] := h
theorem k_xor {t tt : TypeId} {x y : Operand} (h : LOk P ⟨d, .binOp .xor t x y tt, ty, pos, af, g⟩ T H H v [] [] := by first | exact l_bin rfl rfl (b_xor (m_xor (by first | omega | assumption) (by first | omega | assumption))) | exact l_bin rfl rfl (b_xor rfl)) : LOk P ⟨d, .binOp .xor t x y tt, ty, pos, af, g⟩ T H H v [] [] := h
theorem k_shl {t tt : TypeId} {x y : Operand} (h : LOk P ⟨d, .binOp .shl t x y tt, ty, pos, af, g⟩ T H H v [] [] := by first | exact l_bin rfl rfl (b_shl m_pos (m_shlm (by omega))) | exact l_bin rfl rfl (b_shl (by omega) rfl)) : LOk P ⟨d, .binOp .shl t x y tt, ty, pos, af, g⟩ T H H v [] [] := h
theorem k_shr {t tt : TypeId} {x y : Operand} (h : LOk P ⟨d, .binOp .shr t x y tt, ty, pos, af, g⟩ T H H v [] [] := by first | exact l_bin rfl rfl (b_shr m_pos (m_shr (by omega))) | exact l_bin rfl rfl (b_shr (by omega) rfl)) : LOk P ⟨d, .binOp .shr t x y tt, ty, pos, af, g⟩ T H H v [] [] := h
theorem k_lss {t tt : TypeId} {x y : Operand} (h : LOk P ⟨d, .binOp .lss t x y tt, ty, pos, af, g⟩ T H H v [] [] := by first | exact l_bin rfl rfl (b_lss m_lss) | exact l_bin rfl rfl (b_lss rfl)) : LOk P ⟨d, .binOp .lss t x y tt, ty, pos, af, g⟩ T H H v [] [] := h
theorem k_leq {t tt : TypeId} {x y : Operand} (h : LOk P ⟨d, .binOp .leq t x y tt, ty, pos, af, g⟩ T H H v [] [] := by first | exact l_bin rfl rfl (b_leq m_leq) | exact l_bin rfl rfl (b_leq rfl)) : LOk P ⟨d, .binOp .leq t x y tt, ty, pos, af, g⟩ T H H v [] [] := h
theorem k_gtr {t tt : TypeId} {x y : Operand} (h : LOk P ⟨d, .binOp .gtr t x y tt, ty, pos, af, g⟩ T H H v [] [] := by first | exact l_bin rfl rfl (b_gtr m_gtr) | exact l_bin rfl rfl (b_gtr rfl)) : LOk P ⟨d, .binOp .gtr t x y tt, ty, pos, af, g⟩ T H H v [] [] := h
theorem k_geq {t tt : TypeId} {x y : Operand} (h : LOk P ⟨d, .binOp .geq t x y tt, ty, pos, af, g⟩ T H H v [] [] := by first | exact l_bin rfl rfl (b_geq m_geq) | exact l_bin rfl rfl (b_geq rfl)) : LOk P ⟨d, .binOp .geq t x y tt, ty, pos, af, g⟩ T H H v [] [] := h
theorem k_eql {t tt : TypeId} {x y : Operand} (h : LOk P ⟨d, .binOp .eql t x y tt, ty, pos, af, g⟩ T H H v [] [] := by first | exact l_bin rfl rfl (b_eql m_eql) | exact l_bin rfl rfl (b_eql rfl) | exact a_eqlb rfl rfl | exact a_eqn rfl rfl rfl | exact a_eqA rfl rfl (by assumption) (by assumption)) : LOk P ⟨d, .binOp .eql t x y tt, ty, pos, af, g⟩ T H H v [] [] := h
theorem k_neq {t tt : TypeId} {x y : Operand} (h : LOk P ⟨d, .binOp .neq t x y tt, ty, pos, af, g⟩ T H H v [] [] := by first | exact l_bin rfl rfl (b_neq m_neq) | exact l_bin rfl rfl (b_neq rfl) | exact a_neqb rfl rfl | exact a_nen rfl rfl rfl | exact a_neA rfl rfl (by assumption) (by assumption)) : LOk P ⟨d, .binOp .neq t x y tt, ty, pos, af, g⟩ T H H v [] [] := h
theorem k_not {t : TypeId} {x : Operand} (h : LOk P ⟨d, .unOp .not t x, ty, pos, af, g⟩ T H H v [] [] := by exact l_not rfl) : LOk P ⟨d, .unOp .not t x, ty, pos, af, g⟩ T H H v [] [] := h
theorem k_com {t : TypeId} {x : Operand} (h : LOk P ⟨d, .unOp .xor t x, ty, pos, af, g⟩ T H H v [] [] := by exact l_com rfl rfl) : LOk P ⟨d, .unOp .xor t x, ty, pos, af, g⟩ T H H v [] [] := h
theorem k_neg {t : TypeId} {x : Operand} (h : LOk P ⟨d, .unOp .neg t x, ty, pos, af, g⟩ T H H v [] [] := by exact l_neg rfl rfl) : LOk P ⟨d, .unOp .neg t x, ty, pos, af, g⟩ T H H v [] [] := h
theorem k_cv {s t : TypeId} {x : Operand} (h : LOk P ⟨d, .convert s t x, ty, pos, af, g⟩ T H H' v F M := by first | exact a_conv rfl (m_conv (by omega)) | exact a_conv rfl m_convm | exact a_conv rfl rfl) : LOk P ⟨d, .convert s t x, ty, pos, af, g⟩ T H H' v F M := h
theorem k_pk {c x y : Operand} (h : LOk P ⟨d, .pick c x y, ty, pos, af, g⟩ T H H v [] [] := by first | exact l_pick_t rfl rfl (v := .s _) rfl | exact l_pick_f rfl rfl (v := .s _) rfl | exact l_pick_t rfl (by assumption) (v := .s _) rfl | exact l_pick_f rfl (by assumption) (v := .s _) rfl | exact l_pick_and rfl rfl rfl | exact l_pick_or rfl rfl rfl | exact l_pick_t rfl rfl (v := .agg _) rfl | exact l_pick_f rfl rfl (v := .agg _) rfl) : LOk P ⟨d, .pick c x y, ty, pos, af, g⟩ T H H v [] [] := h
theorem k_ex {x : Operand} {i : Nat} (h : LOk P ⟨d, .extract x i, ty, pos, af, g⟩ T H H v [] [] := by exact l_extract rfl rfl (fun _ => AV.noConfusion)) : LOk P ⟨d, .extract x i, ty, pos, af, g⟩ T H H v [] [] := h
theorem k_nc {x : Operand} (h : LOk P ⟨d, .nilCheck x, ty, pos, af, g⟩ T H H v [] [] := by exact l_nilCheck rfl rfl) : LOk P ⟨d, .nilCheck x, ty, pos, af, g⟩ T H H v [] [] := h
theorem k_min {x y : Operand} {ts : Array TypeId} {rt : TypeId} (h : LOk P ⟨d, .call ⟨.builtin .min, #[x, y], ts⟩, rt, pos, af, g⟩ T H H v [] [] := by exact l_min rfl rfl rfl) : LOk P ⟨d, .call ⟨.builtin .min, #[x, y], ts⟩, rt, pos, af, g⟩ T H H v [] [] := h
theorem k_max {x y : Operand} {ts : Array TypeId} {rt : TypeId} (h : LOk P ⟨d, .call ⟨.builtin .max, #[x, y], ts⟩, rt, pos, af, g⟩ T H H v [] [] := by exact l_max rfl rfl rfl) : LOk P ⟨d, .call ⟨.builtin .max, #[x, y], ts⟩, rt, pos, af, g⟩ T H H v [] [] := h
theorem k_len {x : Operand} {t rt : TypeId} (h : LOk P ⟨d, .call ⟨.builtin .len, #[x], #[t]⟩, rt, pos, af, g⟩ T H H v [] [] := by exact a_len rfl rfl) : LOk P ⟨d, .call ⟨.builtin .len, #[x], #[t]⟩, rt, pos, af, g⟩ T H H v [] [] := h
theorem k_cap {x : Operand} {t rt : TypeId} (h : LOk P ⟨d, .call ⟨.builtin .cap, #[x], #[t]⟩, rt, pos, af, g⟩ T H H v [] [] := by exact a_cap rfl) : LOk P ⟨d, .call ⟨.builtin .cap, #[x], #[t]⟩, rt, pos, af, g⟩ T H H v [] [] := h
theorem k_ix {t : TypeId} {x i : Operand} (h : LOk P ⟨d, .indexAddr t x i, ty, pos, af, g⟩ T H H v [] [] := by first | exact a_ixs rfl rfl (by omega) | exact a_ixp rfl rfl (by omega) | exact a_ixi rfl rfl (by omega) | exact a_ixz rfl rfl (by omega) | exact a_ixf rfl rfl (by omega) | exact a_ixg rfl rfl (by omega) | exact a_ixx rfl rfl (by omega)) : LOk P ⟨d, .indexAddr t x i, ty, pos, af, g⟩ T H H v [] [] := h
theorem k_fa {t : TypeId} {x : Operand} {f : Nat} (h : LOk P ⟨d, .fieldAddr t x f, ty, pos, af, g⟩ T H H v [] [] := by first | exact f_fld0 rfl | exact f_fldf rfl | exact f_fldr rfl) : LOk P ⟨d, .fieldAddr t x f, ty, pos, af, g⟩ T H H v [] [] := h
theorem k_al {t : TypeId} (h : LOk P ⟨d, .alloc t, ty, pos, af, g⟩ T H H' v F M := by exact a_alloc LenN.h (by repeat (first | exact happ_0 | apply happ_s))) : LOk P ⟨d, .alloc t, ty, pos, af, g⟩ T H H' v F M := h
theorem k_bx {t : TypeId} {x : Operand} (h : LOk P ⟨d, .box t x, ty, pos, af, g⟩ T H H' v F M := by first | exact a_boxa rfl LenN.h (by repeat (first | exact happ_0 | apply happ_s)) | exact a_box rfl SV.noConfusion LenN.h (by repeat (first | exact happ_0 | apply happ_s))) : LOk P ⟨d, .box t x, ty, pos, af, g⟩ T H H' v F M := h
theorem k_ld {t : TypeId} {x : Operand} (h : LOk P ⟨d, .load t x, ty, pos, af, g⟩ T H H v F M := by first | exact a_load_one rfl rfl rfl | exact a_load_ints rfl rfl rfl (by omega) | exact a_loadf_ints rfl rfl (by omega) (by omega) | exact a_loadf_one rfl rfl (by omega) | exact a_loadf rfl (by omega) rfl | exact a_load_whole rfl rfl (by exact rfl) | exact a_load_agg rfl rfl (by exact rfl) (by exact rfl) | exact a_load_row rfl rfl rfl (by omega) (by omega) | exact a_load_row0 rfl rfl rfl (by omega) (by omega) | exact a_load_rowA rfl rfl rfl (by omega) (by exact rfl) | exact a_load_aggI rfl rfl rfl (by omega) | exact a_loadf_agg rfl (by omega) (by exact rfl) (by exact rfl)) : LOk P ⟨d, .load t x, ty, pos, af, g⟩ T H H v F M := h
end kinds
end Go.Bx
end

section
/- Kinds, the second part: writing, calls, slices, what grows; tests and loops. No program. -/
namespace Go.Bx
theorem spl_len (xs ys : List Int) (i n m : Nat) : (spl xs ys i n m).length = m := by simp [spl]
theorem take_same {α : Type} {l : List α} {n : Nat} : (l.take n).take n = l.take n := by rw [List.take_take, Nat.min_self]
theorem app_0 {l : List Seg} : ([] : List Seg) ++ l = l := rfl
theorem app_s {s : Seg} {l m r : List Seg} (h : l ++ m = r) : (s :: l) ++ m = s :: r := by rw [← h]; rfl
theorem put_w {l sub : List Seg} {n : Nat} (h : dropS l n = some []) : putSegs l 0 n sub = some sub := by cases l <;> simp [putSegs, h]
theorem put_0 {l sub r t : List Seg} {n : Nat} (h : dropS l n = some r) (ht : sub ++ r = t) : putSegs l 0 n sub = some t := by cases l <;> simp [putSegs, h, ht]
theorem put_s {s : Seg} {l sub t : List Seg} {o n : Nat} (q : Nat) (h0 : Nat.beq o 0 = false) (hs : Nat.ble s.size o = true) (hz : Nat.beq s.size 0 = false) (hq : o - s.size = q) (h : putSegs l q n sub = some t) : putSegs (s :: l) o n sub = some (s :: t) := by
  cases o with
  | zero => cases h0
  | succ o => rw [putSegs, hs, hz, hq, h]; rfl
class Pl (P : Program) (t : TypeId) (places : outParam (Array (Nat × Nat))) : Prop where
  h : ∃ fields : Array Field, P.underlying t = some (.struct fields) ∧ ∀ w, (fields.mapM fun f => do pure (f.offset, ← sizeOf f.type) : Sem (Array (Nat × Nat))).run P w = .ok places w

theorem pc {T : Tm} {i : Nat} {x : Operand} {a : AV} {ps : List (Nat × Operand)} {l : List (Nat × AV)} (hx : ev T x = a := by first | exact (rfl : _ = AV.s _) | exact (rfl : _ = AV.agg _)) (hs : a.solid = true := by exact rfl) (k : PartL T ps l) : PartL T ((i, x) :: ps) ((i, a) :: l) := .cons hx hs k
def partsOf (T : Tm) (ps : List (Nat × Operand)) : List (Nat × AV) := ps.map fun p => (p.1, ev T p.2)
theorem partsOf_ok {T : Tm} : ∀ {ps : List (Nat × Operand)}, (partsOf T ps).all (fun p => p.2.solid) = true → PartL T ps (partsOf T ps)
  | [], _ => .nil
  | p :: r, h => by
    simp only [partsOf, List.map_cons, List.all_cons, Bool.and_eq_true] at h
    exact .cons rfl h.1 (partsOf_ok h.2)
class Zb (P : Program) (t : TypeId) (k : outParam IntKind) (n : outParam Nat) : Prop where
  h : ∃ z : Value, (∀ w, (zeroValue t).run P w = .ok z w) ∧ rowOk ((List.range n).map fun _ => .one (.int k 0)) z.cells = true
theorem aft_same {H H0 H1 : Heap} {σ : List Nat} (hm : muts σ H0 0 = []) (hd : H1.drop H0.length = []) : aftH H σ H0 H1 = H := by simp [aftH, hm, hd, setAll, renAll]
theorem len_0 {α : Type} : ([] : List α).length = 0 := rfl
theorem len_1 {α : Type} {a : α} : [a].length = 1 := rfl
theorem len_2 {α : Type} {a b : α} : [a, b].length = 2 := rfl
theorem len_3 {α : Type} {a b c : α} : [a, b, c].length = 3 := rfl
theorem len_4 {α : Type} {a b c d : α} : [a, b, c, d].length = 4 := rfl
def capF (l : List SV) : Nat → SV := fun i => l.getD i .junk
theorem capF_ren (l : List SV) (f : Nat → Nat) : (fun i => (capF l i).ren f) = capF (l.map (SV.ren f)) := by
  funext i
  simp only [capF, List.getD_eq_getElem?_getD, List.getElem?_map]
  cases l[i]? <;> rfl
theorem clo_ren {fn n : Nat} {l l' : List SV} {f : Nat → Nat} (h : l.map (SV.ren f) = l') : AV.s (.clo fn n (capF l')) = (AV.s (.clo fn n (capF l))).ren f := by
  subst h
  show _ = AV.s (.clo fn n fun i => (capF l i).ren f)
  rw [capF_ren]
section rules
variable {P : Program} {T : Tm} {H : Heap} {d : Option Tmp} {ty : TypeId} {pos : String} {af : Array Edge} {g : Option (Nat × Bool)}
theorem a_build {t : TypeId} {places : Array (Nat × Nat)} {parts : Array (Nat × Operand)} {ps : List (Nat × Operand)} {l : List (Nat × AV)} {Z segs : List Seg} (hps : parts.toList = ps) (hl : PartL T ps l) [hp : Pl P t places] [hz : Zv P t Z] (hs : fillS (places[·]?) Z l = some segs) : LOk P ⟨d, .build t parts, ty, pos, af, g⟩ T H H (.agg segs) [] [] := let ⟨_, h1, h2⟩ := hz.h; let ⟨_, p1, p2⟩ := hp.h; l_build hps hl p1 h1 p2 h2 hs
theorem a_buildI {t e : TypeId} {n : Nat} {k : IntKind} {xs : List Int} {parts : Array (Nat × Operand)} {ps : List (Nat × Operand)} {l : List (Nat × AV)} {segs : List Seg} (hps : parts.toList = ps) (hl : PartL T ps l) [hu : Und P t (.array n e)] [hz : Zb P t k n] [he : Sz P e 1] (hs : fillS (fun i => some (i * 1, 1)) ((List.range n).map fun _ => .one (.int k 0)) l = some segs) (hi : intsOf k segs = some xs) (hn : xs.length = n) : LOk P ⟨d, .build t parts, ty, pos, af, g⟩ T H H (.agg [.ints k n xs]) [] [] := let ⟨_, h1, h2⟩ := hz.h; l_buildI hps hl hu.h h1 he.h h2 hs hi hn
theorem a_buildK {t e : TypeId} {n : Nat} {k : IntKind} (xs : List Int) {parts : Array (Nat × Operand)} [hu : Und P t (.array n e)] [hz : Zb P t k n] [he : Sz P e 1] (hl : (partsOf T parts.toList).all (fun p => p.2.solid) = true) (hs : (fillS (fun i => some (i * 1, 1)) ((List.range n).map fun _ => .one (.int k 0)) (partsOf T parts.toList)).bind (intsOf k) = some xs) (hn : xs.length = n) : LOk P ⟨d, .build t parts, ty, pos, af, g⟩ T H H (.agg [.ints k n xs]) [] [] := by
  obtain ⟨_, h1, h2⟩ := hz.h
  cases hq : fillS (fun i => some (i * 1, 1)) ((List.range n).map fun _ => .one (.int k 0)) (partsOf T parts.toList) with
  | none => rw [hq] at hs; cases hs
  | some segs => rw [hq] at hs; exact l_buildI rfl (partsOf_ok hl) hu.h h1 he.h h2 hq hs hn
theorem a_bslI {t e : TypeId} {n n0 : Nat} {k : IntKind} {parts : Array (Nat × Operand)} {ps : List (Nat × Operand)} {l : List (Nat × AV)} {segs : List Seg} {xs : List Int} (hps : parts.toList = ps) (hl : PartL T ps l) [hu : Und P t (.slice e)] [he : Sz P e 1] (hbig : n * 1 ≤ 16777216) [hz : Zi P e k] (hs : fillS (fun i => some (i * 1, 1)) ((List.range (n * 1)).map fun _ => .one (.int k 0)) l = some segs) (hZ1 : rowOk ((List.range (n * 1)).map fun _ => .one (.int k 0)) ((Array.range (n * 1)).map fun i => (Value.int k 0).cells[i % (Value.int k 0).cells.size]!) = true) (hi : intsOf k segs = some xs) (hxn : xs.length = n)
    (h0 : 0 < n * 1) (hn : H.length = n0) {H' : Heap} (hH : H ++ [some (Blk.mk true [.ints k n xs])] = H') : LOk P ⟨d, .buildSlice t n parts, ty, pos, af, g⟩ T H H' (.s (.slice n0 0 0 n n)) [] [] := l_bsl hps hl hu.h he.h hbig hz.h hZ1 hs h0 (fun _ _ h => rep_ints hi hxn h) hn hH
theorem a_app {x y : Operand} {t tx e rt : TypeId} {id len m size n0 : Nat} {u : SV} {segs sub segs' : List Seg} {inf : TypeInfo} {z : Value} {R : List Nat} {H' : Heap} (hx : ev T x = .s (.gro id size len)) (hy : ev T y = .s u) (hb : hget H id = some ⟨true, segs⟩) [hu : Und P t (.slice e)] [hi : Inf P e inf] (hsz : inf.size = size) (hz : inf.zero = some z) (hzs : z.cells.size = size) (hsrc : ASrc P tx size R H u m sub)
    (h1 : len * size ≤ sizeS segs) (hj : Joins segs (len * size) sub (m * size) segs') (hbig : (len + m) * inf.bytes ≤ 140737488355328) (hb1 : 0 < inf.bytes)
    (hRi : ∀ i ∈ R, i < H.length) (hn : H.length = n0) (hH : H.set id none ++ [some (Blk.mk true segs')] = H') :
    LOk P ⟨d, .call ⟨.builtin .append, #[x, y], #[t, tx]⟩, rt, pos, af, g⟩ T H H' (.s (.gro n0 size (len + m))) (id :: R) [id] := l_app hx hy hb hsrc hu.h hi.h hsz hz hzs h1 hj hbig hb1 hRi hn hH
theorem sub_ints {k : IntKind} {m n q : Nat} {l l' : List Int} (hq : n * 1 = q) (h : q ≤ m) (hl : l.take q = l') : SubS [.ints k m l] 0 (n * 1) [.ints k q l'] := by
  subst hl; rw [hq]
  have := SubS.ints (l := [.ints k m l]) (o := 0) (i := 0) (n := q) (k := k) (xs := l) rfl (by omega)
  simpa using this
end rules

theorem cv {R : List Nat} {H : Heap} {x y : AV} (h : AConv R H x y := by first | exact .eq rfl | exact conv_nil | exact conv_sl rfl rfl rfl (by omega) (by omega) (by first | assumption | omega | simp [*]) rfl | exact conv_gro rfl rfl rfl (by omega) (by first | assumption | omega | simp) rfl) : AConv R H x y := h
section kinds
variable {P : Program} {T : Tm} {H : Heap} {d : Option Tmp} {ty : TypeId} {pos : String} {af : Array Edge} {g : Option (Nat × Bool)} {v : AV} {H' : Heap} {F M : List Nat}
theorem k_st {t : TypeId} {x y : Operand} (h : LOk P ⟨d, .store t x y, ty, pos, af, g⟩ T H H' v F M := by first
    | exact a_store_one rfl rfl SV.noConfusion rfl rfl (hset_seg (by first | exact sset_0 | exact sset_s _ rfl rfl sset_0 | exact sset_s _ rfl rfl (sset_s _ rfl rfl sset_0) | exact sset_s _ rfl rfl (sset_s _ rfl rfl (sset_s _ rfl rfl sset_0)) | exact sset_s _ rfl rfl (sset_s _ rfl rfl (sset_s _ rfl rfl (sset_s _ rfl rfl sset_0))) | exact sset_s _ rfl rfl (sset_s _ rfl rfl (sset_s _ rfl rfl (sset_s _ rfl rfl (sset_s _ rfl rfl sset_0)))) | exact sset_s _ rfl rfl (sset_s _ rfl rfl (sset_s _ rfl rfl (sset_s _ rfl rfl (sset_s _ rfl rfl (sset_s _ rfl rfl sset_0))))) | exact sset_s _ rfl rfl (sset_s _ rfl rfl (sset_s _ rfl rfl (sset_s _ rfl rfl (sset_s _ rfl rfl (sset_s _ rfl rfl (sset_s _ rfl rfl sset_0)))))) | exact sset_s _ rfl rfl (sset_s _ rfl rfl (sset_s _ rfl rfl (sset_s _ rfl rfl (sset_s _ rfl rfl (sset_s _ rfl rfl (sset_s _ rfl rfl (sset_s _ rfl rfl sset_0)))))))) (by repeat (first | exact hset_0 | apply hset_s)))
    | exact a_store_nat rfl rfl rfl rfl (by omega) (by first | assumption | omega | exact spl_len _ _ _ _ _ | simp [*, spl_len]) (hset_seg (by first | exact sset_0 | exact sset_s _ rfl rfl sset_0 | exact sset_s _ rfl rfl (sset_s _ rfl rfl sset_0) | exact sset_s _ rfl rfl (sset_s _ rfl rfl (sset_s _ rfl rfl sset_0)) | exact sset_s _ rfl rfl (sset_s _ rfl rfl (sset_s _ rfl rfl (sset_s _ rfl rfl sset_0))) | exact sset_s _ rfl rfl (sset_s _ rfl rfl (sset_s _ rfl rfl (sset_s _ rfl rfl (sset_s _ rfl rfl sset_0)))) | exact sset_s _ rfl rfl (sset_s _ rfl rfl (sset_s _ rfl rfl (sset_s _ rfl rfl (sset_s _ rfl rfl (sset_s _ rfl rfl sset_0))))) | exact sset_s _ rfl rfl (sset_s _ rfl rfl (sset_s _ rfl rfl (sset_s _ rfl rfl (sset_s _ rfl rfl (sset_s _ rfl rfl (sset_s _ rfl rfl sset_0)))))) | exact sset_s _ rfl rfl (sset_s _ rfl rfl (sset_s _ rfl rfl (sset_s _ rfl rfl (sset_s _ rfl rfl (sset_s _ rfl rfl (sset_s _ rfl rfl (sset_s _ rfl rfl sset_0)))))))) (by repeat (first | exact hset_0 | apply hset_s)))
    | exact a_store_int rfl rfl rfl rfl (by omega) (by first | assumption | omega | exact spl_len _ _ _ _ _ | simp [*, spl_len]) (hset_seg (by first | exact sset_0 | exact sset_s _ rfl rfl sset_0 | exact sset_s _ rfl rfl (sset_s _ rfl rfl sset_0) | exact sset_s _ rfl rfl (sset_s _ rfl rfl (sset_s _ rfl rfl sset_0)) | exact sset_s _ rfl rfl (sset_s _ rfl rfl (sset_s _ rfl rfl (sset_s _ rfl rfl sset_0))) | exact sset_s _ rfl rfl (sset_s _ rfl rfl (sset_s _ rfl rfl (sset_s _ rfl rfl (sset_s _ rfl rfl sset_0)))) | exact sset_s _ rfl rfl (sset_s _ rfl rfl (sset_s _ rfl rfl (sset_s _ rfl rfl (sset_s _ rfl rfl (sset_s _ rfl rfl sset_0))))) | exact sset_s _ rfl rfl (sset_s _ rfl rfl (sset_s _ rfl rfl (sset_s _ rfl rfl (sset_s _ rfl rfl (sset_s _ rfl rfl (sset_s _ rfl rfl sset_0)))))) | exact sset_s _ rfl rfl (sset_s _ rfl rfl (sset_s _ rfl rfl (sset_s _ rfl rfl (sset_s _ rfl rfl (sset_s _ rfl rfl (sset_s _ rfl rfl (sset_s _ rfl rfl sset_0)))))))) (by repeat (first | exact hset_0 | apply hset_s)))
    | exact a_store_agg rfl rfl rfl (by first | exact put_w (by exact rfl) | exact put_0 (by exact rfl) (by repeat (first | exact app_0 | apply app_s)) | exact put_s _ rfl rfl rfl rfl (put_0 (by exact rfl) (by repeat (first | exact app_0 | apply app_s))) | exact put_s _ rfl rfl rfl rfl (put_s _ rfl rfl rfl rfl (put_0 (by exact rfl) (by repeat (first | exact app_0 | apply app_s)))) | exact put_s _ rfl rfl rfl rfl (put_s _ rfl rfl rfl rfl (put_s _ rfl rfl rfl rfl (put_0 (by exact rfl) (by repeat (first | exact app_0 | apply app_s))))) | exact put_s _ rfl rfl rfl rfl (put_s _ rfl rfl rfl rfl (put_s _ rfl rfl rfl rfl (put_s _ rfl rfl rfl rfl (put_0 (by exact rfl) (by repeat (first | exact app_0 | apply app_s)))))) | exact put_s _ rfl rfl rfl rfl (put_s _ rfl rfl rfl rfl (put_s _ rfl rfl rfl rfl (put_s _ rfl rfl rfl rfl (put_s _ rfl rfl rfl rfl (put_0 (by exact rfl) (by repeat (first | exact app_0 | apply app_s))))))) | exact put_s _ rfl rfl rfl rfl (put_s _ rfl rfl rfl rfl (put_s _ rfl rfl rfl rfl (put_s _ rfl rfl rfl rfl (put_s _ rfl rfl rfl rfl (put_s _ rfl rfl rfl rfl (put_0 (by exact rfl) (by repeat (first | exact app_0 | apply app_s))))))))) (by exact Nat.le_of_ble_eq_true rfl) (by exact rfl) (by repeat (first | exact hset_0 | apply hset_s))) : LOk P ⟨d, .store t x y, ty, pos, af, g⟩ T H H' v F M := h
theorem k_bd {t : TypeId} {parts : Array (Nat × Operand)} (h : LOk P ⟨d, .build t parts, ty, pos, af, g⟩ T H H v [] [] := by first
    | exact a_build rfl (by first | exact .nil | exact (pc (k := .nil)) | exact (pc (k := (pc (k := .nil)))) | exact (pc (k := (pc (k := (pc (k := .nil)))))) | exact (pc (k := (pc (k := (pc (k := (pc (k := .nil)))))))) | exact (pc (k := (pc (k := (pc (k := (pc (k := (pc (k := .nil)))))))))) | exact (pc (k := (pc (k := (pc (k := (pc (k := (pc (k := (pc (k := .nil)))))))))))) | exact (pc (k := (pc (k := (pc (k := (pc (k := (pc (k := (pc (k := (pc (k := .nil)))))))))))))) | exact (pc (k := (pc (k := (pc (k := (pc (k := (pc (k := (pc (k := (pc (k := (pc (k := .nil)))))))))))))))) | exact (pc (k := (pc (k := (pc (k := (pc (k := (pc (k := (pc (k := (pc (k := (pc (k := (pc (k := .nil)))))))))))))))))) | exact (pc (k := (pc (k := (pc (k := (pc (k := (pc (k := (pc (k := (pc (k := (pc (k := (pc (k := (pc (k := .nil)))))))))))))))))))) | exact (pc (k := (pc (k := (pc (k := (pc (k := (pc (k := (pc (k := (pc (k := (pc (k := (pc (k := (pc (k := (pc (k := .nil)))))))))))))))))))))) | exact (pc (k := (pc (k := (pc (k := (pc (k := (pc (k := (pc (k := (pc (k := (pc (k := (pc (k := (pc (k := (pc (k := (pc (k := .nil))))))))))))))))))))))))) (by exact rfl)
    | exact a_buildI rfl (by first | exact .nil | exact (pc (k := .nil)) | exact (pc (k := (pc (k := .nil)))) | exact (pc (k := (pc (k := (pc (k := .nil)))))) | exact (pc (k := (pc (k := (pc (k := (pc (k := .nil)))))))) | exact (pc (k := (pc (k := (pc (k := (pc (k := (pc (k := .nil)))))))))) | exact (pc (k := (pc (k := (pc (k := (pc (k := (pc (k := (pc (k := .nil)))))))))))) | exact (pc (k := (pc (k := (pc (k := (pc (k := (pc (k := (pc (k := (pc (k := .nil)))))))))))))) | exact (pc (k := (pc (k := (pc (k := (pc (k := (pc (k := (pc (k := (pc (k := (pc (k := .nil)))))))))))))))) | exact (pc (k := (pc (k := (pc (k := (pc (k := (pc (k := (pc (k := (pc (k := (pc (k := (pc (k := .nil)))))))))))))))))) | exact (pc (k := (pc (k := (pc (k := (pc (k := (pc (k := (pc (k := (pc (k := (pc (k := (pc (k := (pc (k := .nil)))))))))))))))))))) | exact (pc (k := (pc (k := (pc (k := (pc (k := (pc (k := (pc (k := (pc (k := (pc (k := (pc (k := (pc (k := (pc (k := .nil)))))))))))))))))))))) | exact (pc (k := (pc (k := (pc (k := (pc (k := (pc (k := (pc (k := (pc (k := (pc (k := (pc (k := (pc (k := (pc (k := (pc (k := .nil))))))))))))))))))))))))) (by exact rfl) (by exact rfl) (by exact rfl)) : LOk P ⟨d, .build t parts, ty, pos, af, g⟩ T H H v [] [] := h
theorem k_sl {t : TypeId} {x : Operand} {lo hi mx : Option Operand} (h : LOk P ⟨d, .slice t x lo hi mx, ty, pos, af, g⟩ T H H v F M := by first
    | exact a_sl rfl bnd_none bnd_none bnd_none rfl (by omega) (by omega) (by omega) (by omega)
    | exact a_sla rfl bnd_none bnd_none bnd_none rfl (by omega) (by omega) (by omega) (by omega)
    | exact a_sli rfl bnd_none bnd_none (by omega) (by omega)
    | exact a_sl rfl (bnd_some rfl) bnd_none bnd_none rfl (by omega) (by omega) (by omega) (by omega)
    | exact a_sla rfl (bnd_some rfl) bnd_none bnd_none rfl (by omega) (by omega) (by omega) (by omega)
    | exact a_sli rfl (bnd_some rfl) bnd_none (by omega) (by omega)
    | exact a_sl rfl bnd_none (bnd_some rfl) bnd_none rfl (by omega) (by omega) (by omega) (by omega)
    | exact a_sla rfl bnd_none (bnd_some rfl) bnd_none rfl (by omega) (by omega) (by omega) (by omega)
    | exact a_sli rfl bnd_none (bnd_some rfl) (by omega) (by omega)
    | exact a_sl rfl (bnd_some rfl) (bnd_some rfl) bnd_none rfl (by omega) (by omega) (by omega) (by omega)
    | exact a_sla rfl (bnd_some rfl) (bnd_some rfl) bnd_none rfl (by omega) (by omega) (by omega) (by omega)
    | exact a_sli rfl (bnd_some rfl) (bnd_some rfl) (by omega) (by omega)
    | exact a_sl rfl bnd_none (bnd_some rfl) (bnd_some rfl) rfl (by omega) (by omega) (by omega) (by omega)
    | exact a_sla rfl bnd_none (bnd_some rfl) (bnd_some rfl) rfl (by omega) (by omega) (by omega) (by omega)
    | exact a_slim rfl bnd_none (bnd_some rfl) rfl rfl (by omega) (by omega) (by omega)
    | exact a_sl rfl (bnd_some rfl) (bnd_some rfl) (bnd_some rfl) rfl (by omega) (by omega) (by omega) (by omega)
    | exact a_sla rfl (bnd_some rfl) (bnd_some rfl) (bnd_some rfl) rfl (by omega) (by omega) (by omega) (by omega)
    | exact a_slim rfl (bnd_some rfl) (bnd_some rfl) rfl rfl (by omega) (by omega) (by omega)) : LOk P ⟨d, .slice t x lo hi mx, ty, pos, af, g⟩ T H H v F M := h
theorem k_fn {f n : Nat} {caps : Array Operand} {ps : List Operand} (l : List SV) (hl : caps.toList = ps := by rfl) (hc : CapL T (capF l) 0 ps := by first | exact .nil | exact .cons rfl .nil | exact .cons rfl (.cons rfl .nil) | exact .cons rfl (.cons rfl (.cons rfl .nil)) | exact .cons rfl (.cons rfl (.cons rfl (.cons rfl .nil)))) (hn : Nat.beq ps.length l.length = true := by rfl) (hm : l.length = n := by first | exact len_0 | exact len_1 | exact len_2 | exact len_3 | exact len_4) : LOk P ⟨d, .makeFunc (.func f) #[] caps, ty, pos, af, g⟩ T H H (.s (.clo f n (capF l))) [] [] := l_fn hl hc ((Nat.eq_of_beq_eq_true hn).trans hm)
theorem k_call {f : FuncId} {xs : Array Operand} {l : List Operand} {at_ : Array TypeId} {args0 : List AV} {H0 H1 H' : Heap} {v0 v : AV} {R : List Nat} (σ : List Nat) [hf : Clb P f] (hl : xs.toList = l := by rfl)
    (hargs : ConvL T H R l (args0.map (AV.ren (nmsF σ H.length))) := by first | exact .nil | exact .cons rfl cv .nil | exact .cons rfl cv (.cons rfl cv .nil) | exact .cons rfl cv (.cons rfl cv (.cons rfl cv .nil)) | exact .cons rfl cv (.cons rfl cv (.cons rfl cv (.cons rfl cv .nil))) | exact .cons rfl cv (.cons rfl cv (.cons rfl cv (.cons rfl cv (.cons rfl cv .nil)))) | exact .cons rfl cv (.cons rfl cv (.cons rfl cv (.cons rfl cv (.cons rfl cv (.cons rfl cv .nil))))) | exact .cons rfl cv (.cons rfl cv (.cons rfl cv (.cons rfl cv (.cons rfl cv (.cons rfl cv (.cons rfl cv .nil)))))) | exact .cons rfl cv (.cons rfl cv (.cons rfl cv (.cons rfl cv (.cons rfl cv (.cons rfl cv (.cons rfl cv (.cons rfl cv .nil)))))))) (con : Con P f args0 H0 v0 H1) (hok : callOk σ R args0 H0 H1 v0 H.length = true := by rfl) (hσ : AllIn H (nmsF σ H.length) σ 0 H0 := by repeat (first | exact trivial | refine ⟨rfl, ?_⟩)) (hR : frozenIn H R = true := by rfl) (hv : v0.ren (nmsF σ H.length) = v := by first | exact AV.ren_self rfl | exact (clo_ren rfl).symm | exact (rfl : _ = AV.s _) | exact (rfl : _ = AV.agg _) | exact (rfl : _ = AV.tup _)) (hH : aftH H σ H0 H1 = H' := by first | exact aft_same rfl rfl | rfl) :
    LOk P ⟨d, .call ⟨.value (.func f), xs, at_⟩, ty, pos, af, g⟩ T H H' v (σ ++ R) ((muts σ H0 0).map (·.1)) := l_call σ hf.h con hl hargs hok hσ hR hv hH
theorem k_callc {f n : Nat} {x : Operand} {q : Nat → SV} {xs : Array Operand} {l : List Operand} {at_ : Array TypeId} {args0 : List AV} {H0 H1 H' : Heap} {v0 v : AV} {R : List Nat} (σ : List Nat) [hf : Clb P f] (hx : ev T x = .s (.clo f n q)) (hl : xs.toList = l := by rfl)
    (hargs : ConvL T H R l ((args0.take l.length).map (AV.ren (nmsF σ H.length))) := by first | exact .nil | exact .cons rfl cv .nil | exact .cons rfl cv (.cons rfl cv .nil) | exact .cons rfl cv (.cons rfl cv (.cons rfl cv .nil)) | exact .cons rfl cv (.cons rfl cv (.cons rfl cv (.cons rfl cv .nil))) | exact .cons rfl cv (.cons rfl cv (.cons rfl cv (.cons rfl cv (.cons rfl cv .nil)))) | exact .cons rfl cv (.cons rfl cv (.cons rfl cv (.cons rfl cv (.cons rfl cv (.cons rfl cv .nil))))) | exact .cons rfl cv (.cons rfl cv (.cons rfl cv (.cons rfl cv (.cons rfl cv (.cons rfl cv (.cons rfl cv .nil)))))) | exact .cons rfl cv (.cons rfl cv (.cons rfl cv (.cons rfl cv (.cons rfl cv (.cons rfl cv (.cons rfl cv (.cons rfl cv .nil)))))))) (con : Con P f args0 H0 v0 H1) (hcap : (args0.drop l.length).map (AV.ren (nmsF σ H.length)) = (List.range n).map fun i => .s (q i) := by rfl) (hok : callOk σ R args0 H0 H1 v0 H.length = true := by rfl) (hσ : AllIn H (nmsF σ H.length) σ 0 H0 := by repeat (first | exact trivial | refine ⟨rfl, ?_⟩)) (hR : frozenIn H R = true := by rfl) (hv : v0.ren (nmsF σ H.length) = v := by first | exact AV.ren_self rfl | exact (clo_ren rfl).symm | exact (rfl : _ = AV.s _) | exact (rfl : _ = AV.agg _) | exact (rfl : _ = AV.tup _)) (hH : aftH H σ H0 H1 = H' := by first | exact aft_same rfl rfl | rfl) :
    LOk P ⟨d, .call ⟨.value x, xs, at_⟩, ty, pos, af, g⟩ T H H' v (σ ++ R) ((muts σ H0 0).map (·.1)) := l_callc σ hx hf.h con hl hargs hcap hok hσ hR hv hH
end kinds

section code
variable {E : Env} {P : Program} {T : Tm} {H : Heap} {Q : Exit → Tm → Heap → Prop}
theorem g_reg {n : Nat} (hP : E.P = P) (hn : E.n = n) {id : Nat} {ops : Array Oper} {l : List Oper} (h : SK P ops l T H (fun _ => True) (Q .normal)) (hok : regionOk n ops = true := by kernel_rfl) (hl : ops.toList = l := by rfl) : Wp E (.region id ops false) T H Q := by subst hP; subst hn; exact c_reg hok hl h
theorem g_any {n : Nat} (hP : E.P = P) (hn : E.n = n) [hm : Mix P] {id : Nat} {ops : Array Oper} {l : List Oper} (h : SK P ops l T H (fun fs => ordOk ops H.length fs = true) (Q .normal)) (hok : regionOk n ops = true := by kernel_rfl) (hl : ops.toList = l := by rfl) : Wp E (.region id ops true) T H Q := by subst hP; subst hn; exact c_any hm.h hok hl h
theorem w_t {t : Nat} {x y : Code} {b : Bool} (hc : look T t = .s (.bool b)) (hb : b = true) (h : Wp E x T H Q) : Wp E (.cond (.tmp t) x y) T H Q := w_cond hc (fun _ => h) (fun e => by rw [hb] at e; cases e)
theorem w_f {t : Nat} {x y : Code} {b : Bool} (hc : look T t = .s (.bool b)) (hb : b = false) (h : Wp E y T H Q) : Wp E (.cond (.tmp t) x y) T H Q := w_cond hc (fun e => by rw [hb] at e; cases e) (fun _ => h)
theorem wk {T' : Tm} {H' : Heap} {m : Nat} (hN : E.nE = m) (π : List Nat) (hT : AllLook T π T' := by repeat (first | exact trivial | refine ⟨rfl, ?_⟩ | refine ⟨clo_ren rfl, ?_⟩)) (hH : AllGet H π 0 H' := by repeat (first | exact trivial | refine ⟨rfl, ?_⟩)) (hk : knownAll T' H' = true := by rfl) (hd : distinct ((List.range H'.length).map (rn π)) = true := by rfl) (hE : m ≤ H'.length ∧ ((List.range m).all fun k => Nat.beq (rn π k) k) = true := by exact ⟨Nat.le_of_ble_eq_true rfl, rfl⟩) : Weak E T H T' H' := by subst hN; exact weak π hT hH hk hd hE
end code
end Go.Bx
namespace Go.Bx
section code
variable {E : Env} {T : Tm} {H : Heap} {Q : Exit → Tm → Heap → Prop}
theorem w_T {t : Nat} {x y : Code} {b : Bool} (hc : look T t = .s (.bool b)) (h : Wp E x T H Q) (hb : b = true := by first | rfl | assumption | exact decide_eq_true (by omega) | (simp only [Bool.or_eq_true, Bool.and_eq_true, Bool.not_eq_true', decide_eq_true_eq, decide_eq_false_iff_not]; omega)) : Wp E (.cond (.tmp t) x y) T H Q := w_t hc hb h
theorem w_F {t : Nat} {x y : Code} {b : Bool} (hc : look T t = .s (.bool b)) (h : Wp E y T H Q) (hb : b = false := by first | rfl | assumption | exact decide_eq_false (by omega) | (simp only [Bool.or_eq_false_iff, Bool.and_eq_false_imp, Bool.not_eq_false', decide_eq_true_eq, decide_eq_false_iff_not]; omega)) : Wp E (.cond (.tmp t) x y) T H Q := w_f hc hb h
theorem w_if {t : Nat} {x y : Code} {p : Prop} [Decidable p] (hc : look T t = .s (.bool (decide p))) (h1 : p → Wp E x T H Q) (h2 : ¬ p → Wp E y T H Q) : Wp E (.cond (.tmp t) x y) T H Q := w_cond hc (fun h => h1 (of_decide_eq_true h)) (fun h => h2 (of_decide_eq_false h))
end code
end Go.Bx
end

section
/- Contracts whose results are read ahead of what is told at the end. No program. -/
namespace Go.Bx
theorem hrep_mark {W : Nat → Prop} {ρ : Rho} {h : Nat → Option Blk} {w2 : World} {D : Nat} (h1 : HRep W ρ h w2) (hd : w2.heap[D]? = some (.deferred (some []))) : HRep W ρ h (w2.putObj D (.deferred none)) := by
  have ho : ∀ k, k ≠ D → (w2.putObj D (.deferred none)).heap[k]? = w2.heap[k]? := fun k hk => World.putObj_heap_other hk
  refine ⟨fun id b o e => by simpa using h1.lt id b o e, fun id b o k e1 e2 => ?_, h1.apart, fun b cs e => ?_, fun b n e => ?_⟩
  · have hr := h1.rep id b o k e1 e2
    refine ⟨hr.1.world (ho b ?_), hr.2⟩
    intro e
    subst e
    obtain ⟨cells, t, fr, g1, _⟩ := hr.1
    rw [hd] at g1; cases g1
  · obtain ⟨q1, t, fr, q2⟩ := h1.fz b cs e
    refine ⟨q1, t, fr, ?_⟩
    rw [ho b ?_]; exact q2
    intro e'
    subst e'
    rw [hd] at q2; cases q2
  · obtain ⟨cs, t, fr, q1, q2⟩ := h1.sz b n e
    refine ⟨cs, t, fr, ?_, q2⟩
    rw [ho b ?_]; exact q1
    intro e'
    subst e'
    rw [hd] at q1; cases q1
theorem fr_mark {W : Nat → Prop} {w w2 : World} {D : Nat} (h2 : Fr W w w2) (hD : w.heap.size ≤ D) : Fr W w (w2.putObj D (.deferred none)) := by
  have ho : ∀ k, k ≠ D → (w2.putObj D (.deferred none)).heap[k]? = w2.heap[k]? := fun k hk => World.putObj_heap_other hk
  refine ⟨h2.os, h2.tape, h2.output, by simpa using h2.size, fun k hk hn => ?_, fun k o hk hc => ?_, fun k cs t fr hk => ?_⟩
  · rw [ho k (by omega)]; exact h2.block k hk hn
  · have : k < w.heap.size := (Array.getElem?_eq_some_iff.1 hk).1
    rw [ho k (by omega)]; exact h2.others k o hk hc
  · have : k < w.heap.size := (Array.getElem?_eq_some_iff.1 hk).1
    rw [ho k (by omega)]; exact h2.sizes k cs t fr hk
def DoneD (E : Env) (fn : Func) (v : AV) (H' : Heap) : Exit → Tm → Heap → Prop := fun e T H => (e = .ret ∨ e = .normal) ∧ ∃ t v0, t < E.n ∧ Ret E.P fn T H v0 ∧ Weak E ((t, v0) :: T) H [(t, v)] H'

theorem con_inF {P : Program} {f : FuncId} {fn : Func} {c : Code} {args : List AV} {H H' : Heap} {v : AV} (n : Nat) (hf : P.funcs[f]? = some fn) (hb : fn.body = some c) (hn : fn.ntmps = n) {m : Nat} (hm : H.length = m)
    (h : ∀ E : Env, E.P = P → E.n = n → E.nE = m → E.flat = false → Wp E c (argT 0 args) H (DoneD E fn v H')) (hl : args.length ≤ n := by exact Nat.le_of_ble_eq_true rfl) (hlen : H.length ≤ H'.length := by exact Nat.le_of_ble_eq_true rfl) : Con P f args H v H' := by
  subst hn; subst hm
  refine ⟨hlen, fun W ρ vals w hH hdom hW hargs => ?_⟩
  let E : Env := ⟨P, W, w, ρ, fn.ntmps, H.length, hW, hdom, [], false⟩
  refine (callsIn_wide (n := 0)).1 (callsIn_of_wp_marks hf hb trivial (wpIn_wide.2 (wp_mono (h E rfl rfl rfl rfl _ w ⟨ρ, W, ⟨.refl _, hH, ?_, DefT.nil _ _ _ _, .refl _ _, fun _ h => h, hW, fun _ _ h => .inl h, fun _ _ h => .inl h⟩, hdom, fun t => ?_, Nat.le_refl _⟩) ?_)))
  · have := hargs.1
    show _ = fn.ntmps
    simp; omega
  · rw [look_argT, if_pos (Nat.zero_le _), Nat.sub_zero]
    cases hx : args[t]? with
    | none => trivial
    | some x =>
      have hlt : t < vals.size := by
        rw [hargs.1]
        exact (List.getElem?_eq_some_iff.1 hx).1
      have := hargs.2 t x hx
      simp only [Option.getD_some]
      simp only [Array.getD_eq_getD_getElem?] at this ⊢
      rw [Array.getElem?_append_left hlt]
      exact this
  · rintro e a' w' ⟨T, H1, ⟨he, t, v0, ht, hret, hwk⟩, ρ0, W0, p0, hno0, hT0, hE0⟩
    have hl : LeavesInM Fence.wide 0 P fn a'.tmps (fun e w' => ∃ v' ρ' W', e = .returned v' ∧ Nx H.length H'.length ρ ρ' W W' (hget H') w w' ∧ v.rep ρ' v') a'.defers .returning w' := by
      refine leaves_marks (w0 := w) (Φ := fun w2 => HRep W0 ρ0 (hget H1) w2 ∧ Fr W w w2 ∧ (∀ b, w2.heap.size ≤ b → W0 b) ∧ w2.heap.size = w'.heap.size) (fun w2 D ⟨h1, h2, h3, h4⟩ hD hd => ⟨hrep_mark h1 hd, fr_mark h2 hD, fun b hb => h3 b (by simpa using hb), by simpa using h4⟩) (fun w2 ⟨h1, h2, h3, h4⟩ => ?_) a'.defers w' (DefT.flat0 p0.defs) ⟨p0.rep, p0.fr, p0.fresh, rfl⟩
      obtain ⟨v', hv, hrv⟩ := hret W0 ρ0 a' w2 h1 hT0
      -- the world behind the marks, the value in a slot
      have hrep2 : Rep E ((t, v0) :: T) H1 ({ a' with defers := [] }.put (some t) v') w2 := by
        refine ⟨ρ0, W0, ⟨p0.le, h1, (put_size _ _ _).trans p0.size, ?_, h2, p0.sub, h3, p0.fzn, p0.old⟩, hno0, ?_, hE0⟩
        · rw [put_defers]; exact DefT.nil _ _ _ []
        · exact TRep.put (d := some t) (a := { a' with defers := [] }) hT0 (fun i hi => by cases hi; show t < a'.tmps.size; rw [p0.size]; exact ht) hrv
      obtain ⟨ρ', W', p, hno, hT, _⟩ := hwk _ w2 hrep2
      refine ⟨v', hv, v', ρ', W', rfl, ⟨p.le, fun id x e => ?_, p.rep, p.fr, p.sub, p.fresh, p.fzn⟩, ?_⟩
      · rcases p.old id x e with h4 | h4
        · exact .inl h4
        · refine .inr ⟨h4.1, ?_, h4.2⟩
          rcases Nat.lt_or_ge id H'.length with h5 | h5
          · exact h5
          · rw [hno id h5] at e; cases e
      · have := hT t
        rw [look_cons, if_pos rfl] at this
        have hg : ({ a' with defers := [] }.put (some t) v').tmps.getD t undef = v' := by
          have hs : t < a'.tmps.size := by rw [p0.size]; exact ht
          simp [Act.put, hs]
        rwa [hg] at this
    rcases he with rfl | rfl
    · exact hl
    · exact hl
section
variable {E : Env} {P : Program} {T : Tm} {H : Heap}
theorem con_in {P : Program} {f : FuncId} {fn : Func} {c : Code} {args : List AV} {H H' : Heap} {v : AV} (n : Nat) (hf : P.funcs[f]? = some fn) (hb : fn.body = some c) (hn : fn.ntmps = n) {m : Nat} (hm : H.length = m)
    (h : ∀ E : Env, E.P = P → E.n = n → E.nE = m → Wp E c (argT 0 args) H (DoneD E fn v H')) (hl : args.length ≤ n := by exact Nat.le_of_ble_eq_true rfl) (hlen : H.length ≤ H'.length := by exact Nat.le_of_ble_eq_true rfl) : Con P f args H v H' := con_inF n hf hb hn hm (fun E h1 h2 h3 _ => h E h1 h2 h3) hl hlen
theorem d_ret {fn : Func} {v v0 : AV} {H' : Heap} {e : Exit} {m n : Nat} (hP : E.P = P) (hn : E.n = n) (hN : E.nE = m) (π : List Nat) (hr : Ret P fn T H v0) (h0 : Nat.blt 0 n = true := by rfl) (hT : AllLook ((0, v0) :: T) π [(0, v)] := by first | exact ⟨rfl, trivial⟩ | exact ⟨clo_ren rfl, trivial⟩) (hH : AllGet H π 0 H' := by repeat (first | exact trivial | refine ⟨rfl, ?_⟩)) (hk : knownAll [(0, v)] H' = true := by rfl) (hd : distinct ((List.range H'.length).map (rn π)) = true := by rfl) (hE : m ≤ H'.length ∧ ((List.range m).all fun k => Nat.beq (rn π k) k) = true := by exact ⟨Nat.le_of_ble_eq_true rfl, rfl⟩) (he : e = .ret ∨ e = .normal := by first | exact .inl rfl | exact .inr rfl) : DoneD E fn v H' e T H := by
  subst hP; subst hN; subst hn; exact ⟨he, 0, v0, Nat.blt_eq.mp h0, hr, weak π hT hH hk hd hE⟩
theorem r_tmp {fn : Func} {t : Nat} {v : SV} (hr : fn.results = #[.tmp t]) (hv : look T t = .s v := by rfl) : Ret P fn T H (.s v) := ret_tmp hr hv
theorem r_tmpa {fn : Func} {t : Nat} {v : List Seg} (hr : fn.results = #[.tmp t]) (hv : look T t = .agg v := by rfl) : Ret P fn T H (.agg v) := ret_tmp hr hv
theorem r_cell {fn : Func} {p id n : Nat} {ty : TypeId} {k : Blk} {segs : List Seg} (hr : fn.results = #[.cell p ty]) [ha : Ag P ty true] [hz : Sz P ty n] (hp : look T p = .s (.ptr id 0 0) := by rfl) (hb : hget H id = some k := by rfl) (hs : SubS k.segs 0 n segs := by first | exact .whole rfl | exact .part rfl rfl) : Ret P fn T H (.agg segs) := ret_cell hr hp hb hs ha.h hz.h
theorem r_cella {p id n : Nat} {ty : TypeId} {k : Blk} {segs : List Seg} [ha : Ag P ty true] [hz : Sz P ty n] (hp : look T p = .s (.ptr id 0 0) := by rfl) (hb : hget H id = some k := by rfl) (hs : SubS k.segs 0 n segs := by first | exact .whole rfl | exact .part rfl rfl) : RetI P T H (.cell p ty) (.agg segs) := ri_cella hp hb hs ha.h hz.h
end
end Go.Bx
end

section
/- What an operation makes, and nobody writes: a value. Integers copied, appended. No program. -/
namespace Go.Bx
section
variable {P : Program} {T : Tm} {H : Heap}
theorem lok_val {o : Oper} {F M : List Nat} {segs : List Seg} {y x : SV} (h : LOk P o T H (H ++ [some ⟨true, segs⟩]) (.s y) F M) (hc : AConv [H.length] (H ++ [some ⟨false, segs⟩]) (.s y) (.s x)) : LOk P o T H (H ++ [none]) (.s x) F M := by
  refine ⟨by simp, fun j hj hn => ?_, h.sub, h.lt, ?_⟩
  · have := h.keep j hj hn
    rw [hget_app, if_pos hj] at this ⊢
  · have hrun := h.run
    rw [msk_app] at hrun ⊢
    generalize hH0 : msk F H.length H = H0 at *
    have hl0 : H0.length = H.length := by rw [← hH0, msk_len]
    intro W ρ a w hH hn hW ho next Q hq
    refine hrun W ρ a w hH (fun i a1 a2 => hn i a1 (by simpa using a2)) hW ho next Q ?_
    rintro v' w' ⟨ρ', W', k, hv⟩
    have hb : hget (H0 ++ [some ⟨true, segs⟩]) H0.length = some ⟨true, segs⟩ := by rw [hget_app, if_neg (by omega)]; simp [hget]
    obtain ⟨ρ2, W2, h1, h2, h3, h4, h5, h6⟩ := hrep_frz k.rep hb k.fresh
    have hset : (H0 ++ [some (⟨true, segs⟩ : Blk)]).set H0.length (some ⟨false, segs⟩) = H0 ++ [some ⟨false, segs⟩] := by simp
    rw [hset] at h3
    refine hq v' w' ⟨ρ2, W2, ?_, ?_⟩
    · refine ⟨k.le.trans h1, fun i x e => ?_, h3.sub fun j b hj => ?_, k.fr, fun b hb => k.sub b (h4 b hb), h5, fun b c e => ?_⟩
      · rw [h2] at e; simpa using k.old i x e
      · rw [hget_app] at hj ⊢
        split at hj
        · rename_i h7; rw [if_pos h7]; exact hj
        · have h8 : ∀ k, hget ([none] : Heap) k = none := fun k => by unfold hget; cases k <;> simp
          rw [h8] at hj; cases hj
      · rcases h6 b c e with h7 | h7
        · exact k.fzn b c h7
        · exact .inr (k.sub b h7)
    · refine hc _ W2 ρ2 w' v' (fun i hi => ?_) h3 (AV.rep_le h1 hv)
      simp only [List.mem_singleton] at hi
      subst hi
      rw [hget_app, hget_app, if_neg (by omega), if_neg (by omega), hl0]
end
end Go.Bx
namespace Go.Bx
section
variable {P : Program} {T : Tm} {H : Heap} {d : Option Tmp} {ty : TypeId} {pos : String} {af : Array Edge} {g : Option (Nat × Bool)}
theorem lok_val' {o : Oper} {F M : List Nat} {segs : List Seg} {y x : SV} {H' : Heap} (h : LOk P o T H (H ++ [some ⟨true, segs⟩]) (.s y) F M) (hc : AConv [H.length] (H ++ [some ⟨false, segs⟩]) (.s y) (.s x)) (hH : H ++ [none] = H') : LOk P o T H H' (.s x) F M := hH ▸ lok_val h hc
theorem hget_last (H : Heap) (b : Blk) : hget (H ++ [some b]) H.length = some b := by rw [hget_app, if_neg (by omega)]; simp [hget]
theorem a_boxf {t : TypeId} {x : Operand} {l : List Seg} {n : Nat} {H' : Heap} (hx : ev T x = .agg l) [hz : Sz P t n] (hn : sizeS l = n) (hid : l.all (Seg.idB fun _ => false) = true) (hH : H ++ [none] = H') : LOk P ⟨d, .box t x, ty, pos, af, g⟩ T H H' (.s (.fptr n (cellsF l) 0 0)) [] [] :=
  lok_val' (l_box_agg hx rfl) (conv_ptr (k := ⟨false, l⟩) (hget_last _ _) rfl hn hid) hH
theorem a_bslF {t e : TypeId} {n : Nat} {k : IntKind} {parts : Array (Nat × Operand)} {ps : List (Nat × Operand)} {l : List (Nat × AV)} {segs : List Seg} {xs : List Int} (hps : parts.toList = ps) (hl : PartL T ps l) [hu : Und P t (.slice e)] [he : Sz P e 1] (hbig : n * 1 ≤ 16777216) [hz : Zi P e k] (hs : fillS (fun i => some (i * 1, 1)) ((List.range (n * 1)).map fun _ => .one (.int k 0)) l = some segs) (hZ1 : rowOk ((List.range (n * 1)).map fun _ => .one (.int k 0)) ((Array.range (n * 1)).map fun i => (Value.int k 0).cells[i % (Value.int k 0).cells.size]!) = true) (hi : intsOf k segs = some xs) (hxn : xs.length = n)
    (h0 : 0 < n * 1) {H' : Heap} (hH : H ++ [none] = H') : LOk P ⟨d, .buildSlice t n parts, ty, pos, af, g⟩ T H H' (.s (.fzi k xs)) [] [] :=
  lok_val' (a_bslI hps hl hbig hs hZ1 hi hxn h0 rfl rfl) (conv_sl (k := ⟨false, [.ints k n xs]⟩) (n := n) (hget_last _ _) rfl rfl (by omega) (Nat.le_refl _) hxn (by rw [List.drop_zero, ← hxn, List.take_length])) hH
theorem atS_ones : ∀ (vs : List SV) (i : Nat), atS (vs.map Seg.one) i = vs[i]?
  | [], i => by simp [atS]
  | v :: r, 0 => by simp [atS, Seg.size, Seg.at]
  | v :: r, i + 1 => by simp [atS, Seg.size, atS_ones r i]
class Zn (P : Program) (t : TypeId) : Prop where
  h : ∀ w, (zeroValue t).run P w = .ok (.slice none 0 0) w
theorem a_bslZ {t e : TypeId} {n : Nat} {parts : Array (Nat × Operand)} {ps : List (Nat × Operand)} {l : List (Nat × AV)} {segs : List Seg} (vs : List SV) (hps : parts.toList = ps) (hl : PartL T ps l) [hu : Und P t (.slice e)] [he : Sz P e 1] (hbig : n * 1 ≤ 16777216) [hz : Zn P e] (hs : fillS (fun i => some (i * 1, 1)) ((List.range (n * 1)).map fun _ => .one .nils) l = some segs) (hZ1 : rowOk ((List.range (n * 1)).map fun _ => .one .nils) ((Array.range (n * 1)).map fun i => (Value.slice none 0 0).cells[i % (Value.slice none 0 0).cells.size]!) = true) (hvs : segs = vs.map Seg.one) (hvn : vs.length = n) (hid : vs.all (SV.idB fun _ => false) = true)
    (h0 : 0 < n * 1) {H' : Heap} (hH : H ++ [none] = H') : LOk P ⟨d, .buildSlice t n parts, ty, pos, af, g⟩ T H H' (.s (.fz n 1 fun i _ => vs.getD i .nils)) [] [] :=
  lok_val' (l_bsl hps hl hu.h he.h hbig hz.h hZ1 hs h0 (fun _ _ h => h) rfl rfl) (conv_rows (k := ⟨false, segs⟩) (R := []) (hget_last _ _) rfl (Nat.le_refl _) fun i j hi hj => by
    have hj0 : j = 0 := by omega
    subst hj0
    have hiv : i < vs.length := by omega
    refine ⟨vs.getD i .nils, ?_, .same, ?_⟩
    · rw [hvs, show (0 + 0 + (i * 1 + 0)) = i by omega, atS_ones]; simp [hiv]
    · rw [List.all_eq_true] at hid
      rw [List.getD_eq_getElem?_getD, List.getElem?_eq_getElem hiv]
      exact hid _ (List.getElem_mem _)) hH
theorem a_copyI {x y : Operand} {t tx e rt : TypeId} {id base idx dl dc n m q : Nat} {k : IntKind} {u : SV} {segs : List Seg} {xs ys zz : List Int} {R : List Nat} {H' : Heap} (hx : ev T x = .s (.slice id base idx dl dc)) (hy : ev T y = .s u) (hb : hget H id = some ⟨true, segs⟩) (hsrc : ASrc P tx 1 R H u m [.ints k m ys]) (hn : min m dl = n)
    [hu : Und P t (.slice e)] [hs : Sz P e 1] (hsg : segAt segs base = some (.ints k q xs)) (h0 : 0 < n) (hq : idx + n ≤ q) (hz : ys.take n = zz) (hRi : ∀ i ∈ R, i < H.length) (hH : H.set id (some ⟨true, segSet segs base (.ints k q (spl xs zz idx n q))⟩) = H') :
    LOk P ⟨d, .call ⟨.builtin .copy, #[x, y], #[t, tx]⟩, rt, pos, af, g⟩ T H H' (.s (.int .i64 (n : Int))) (id :: R) [id] := by
  have hnm : n ≤ m := by omega
  refine l_copy hx hy hb hsrc hn hu.h hs.h (sub' := [.ints k (n * 1) zz]) (sub_ints rfl (by omega) (by rw [Nat.mul_one]; exact hz)) ?_ hRi hH
  have h1 : n * 1 = n := Nat.mul_one n
  rw [h1]
  exact PutS.ints h0 hsg hq
end
section kinds
variable {P : Program} {T : Tm} {H : Heap} {d : Option Tmp} {ty : TypeId} {pos : String} {af : Array Edge} {g : Option (Nat × Bool)} {v : AV} {H' : Heap} {F M : List Nat}
theorem k_bsf {t : TypeId} {n : Nat} {parts : Array (Nat × Operand)} (h : LOk P ⟨d, .buildSlice t n parts, ty, pos, af, g⟩ T H H' v [] [] := by
    first
    | exact a_bslF rfl (by first | exact .nil | exact (pc (k := .nil)) | exact (pc (k := (pc (k := .nil)))) | exact (pc (k := (pc (k := (pc (k := .nil)))))) | exact (pc (k := (pc (k := (pc (k := (pc (k := .nil)))))))) | exact (pc (k := (pc (k := (pc (k := (pc (k := (pc (k := .nil)))))))))) | exact (pc (k := (pc (k := (pc (k := (pc (k := (pc (k := (pc (k := .nil)))))))))))) | exact (pc (k := (pc (k := (pc (k := (pc (k := (pc (k := (pc (k := (pc (k := .nil)))))))))))))) | exact (pc (k := (pc (k := (pc (k := (pc (k := (pc (k := (pc (k := (pc (k := (pc (k := .nil)))))))))))))))) | exact (pc (k := (pc (k := (pc (k := (pc (k := (pc (k := (pc (k := (pc (k := (pc (k := (pc (k := .nil)))))))))))))))))) | exact (pc (k := (pc (k := (pc (k := (pc (k := (pc (k := (pc (k := (pc (k := (pc (k := (pc (k := (pc (k := .nil)))))))))))))))))))) | exact (pc (k := (pc (k := (pc (k := (pc (k := (pc (k := (pc (k := (pc (k := (pc (k := (pc (k := (pc (k := (pc (k := .nil)))))))))))))))))))))) | exact (pc (k := (pc (k := (pc (k := (pc (k := (pc (k := (pc (k := (pc (k := (pc (k := (pc (k := (pc (k := (pc (k := (pc (k := .nil))))))))))))))))))))))))) (by exact Nat.le_of_ble_eq_true rfl) (by exact rfl) (by kernel_rfl) (by exact rfl) (by exact rfl) (by exact Nat.le_of_ble_eq_true rfl) (by repeat (first | exact happ_0 | apply happ_s))) : LOk P ⟨d, .buildSlice t n parts, ty, pos, af, g⟩ T H H' v [] [] := h
theorem k_bsz {t e : TypeId} {n : Nat} {parts : Array (Nat × Operand)} {ps : List (Nat × Operand)} {l : List (Nat × AV)} {segs : List Seg} (vs : List SV) [hu : Und P t (.slice e)] [he : Sz P e 1] [hz : Zn P e] (hps : parts.toList = ps := by rfl) (hl : PartL T ps l := by first | exact .nil | exact (pc (k := .nil)) | exact (pc (k := (pc (k := .nil)))) | exact (pc (k := (pc (k := (pc (k := .nil)))))) | exact (pc (k := (pc (k := (pc (k := (pc (k := .nil)))))))) | exact (pc (k := (pc (k := (pc (k := (pc (k := (pc (k := .nil)))))))))) | exact (pc (k := (pc (k := (pc (k := (pc (k := (pc (k := (pc (k := .nil)))))))))))) | exact (pc (k := (pc (k := (pc (k := (pc (k := (pc (k := (pc (k := (pc (k := .nil)))))))))))))) | exact (pc (k := (pc (k := (pc (k := (pc (k := (pc (k := (pc (k := (pc (k := (pc (k := .nil)))))))))))))))) | exact (pc (k := (pc (k := (pc (k := (pc (k := (pc (k := (pc (k := (pc (k := (pc (k := (pc (k := .nil)))))))))))))))))) | exact (pc (k := (pc (k := (pc (k := (pc (k := (pc (k := (pc (k := (pc (k := (pc (k := (pc (k := (pc (k := .nil)))))))))))))))))))) | exact (pc (k := (pc (k := (pc (k := (pc (k := (pc (k := (pc (k := (pc (k := (pc (k := (pc (k := (pc (k := (pc (k := .nil)))))))))))))))))))))) | exact (pc (k := (pc (k := (pc (k := (pc (k := (pc (k := (pc (k := (pc (k := (pc (k := (pc (k := (pc (k := (pc (k := (pc (k := .nil))))))))))))))))))))))))) (hbig : n * 1 ≤ 16777216 := by exact Nat.le_of_ble_eq_true rfl) (hs : fillS (fun i => some (i * 1, 1)) ((List.range (n * 1)).map fun _ => .one .nils) l = some segs := by exact rfl) (hZ1 : rowOk ((List.range (n * 1)).map fun _ => .one .nils) ((Array.range (n * 1)).map fun i => (Value.slice none 0 0).cells[i % (Value.slice none 0 0).cells.size]!) = true := by kernel_rfl) (hvs : segs = vs.map Seg.one := by exact rfl) (hvn : vs.length = n := by exact rfl) (hid : vs.all (SV.idB fun _ => false) = true := by exact rfl) (h0 : 0 < n * 1 := by exact Nat.le_of_ble_eq_true rfl) (hH : H ++ [none] = H' := by repeat (first | exact happ_0 | apply happ_s)) : LOk P ⟨d, .buildSlice t n parts, ty, pos, af, g⟩ T H H' (.s (.fz n 1 fun i _ => vs.getD i .nils)) [] [] := a_bslZ vs hps hl hbig hs hZ1 hvs hvn hid h0 hH
theorem k_bxf {t : TypeId} {x : Operand} (h : LOk P ⟨d, .box t x, ty, pos, af, g⟩ T H H' v F M := by exact a_boxf rfl (by exact rfl) (by exact rfl) (by repeat (first | exact happ_0 | apply happ_s))) : LOk P ⟨d, .box t x, ty, pos, af, g⟩ T H H' v F M := h
theorem k_cpn (n : Nat) {x y : Operand} {t tx e rt : TypeId} {id base idx dl dc m q : Nat} {k : IntKind} {u : SV} {segs : List Seg} {xs ys zz : List Int} {R : List Nat} [hu : Und P t (.slice e)] [hs : Sz P e 1] (hx : ev T x = .s (.slice id base idx dl dc) := by rfl) (hy : ev T y = .s u := by rfl) (hb : hget H id = some ⟨true, segs⟩ := by rfl) (hsrc : ASrc P tx 1 R H u m [.ints k m ys] := by first | exact asrc_fzi Und.h | exact asrc_sl Und.h rfl (by first | exact .seg rfl rfl | exact .ints rfl (by omega)) | exact asrc_gro Und.h rfl (by first | exact .seg rfl rfl | exact .ints rfl (by omega))) (hn : min m dl = n := by first | omega | (simp; omega))
    (hsg : segAt segs base = some (.ints k q xs) := by rfl) (h0 : 0 < n := by omega) (hq : idx + n ≤ q := by omega) (hz : ys.take n = zz := by first | exact take_same | rfl) (hRi : ∀ i ∈ R, i < H.length := by first | exact fun _ h => (List.not_mem_nil h).elim | (intro i hi; simp at hi; subst hi; exact Nat.le_of_ble_eq_true rfl)) (hH : H.set id (some ⟨true, segSet segs base (.ints k q (spl xs zz idx n q))⟩) = H' := by exact hset_seg (by first | exact sset_0 | exact sset_s _ rfl rfl sset_0 | exact sset_s _ rfl rfl (sset_s _ rfl rfl sset_0) | exact sset_s _ rfl rfl (sset_s _ rfl rfl (sset_s _ rfl rfl sset_0)) | exact sset_s _ rfl rfl (sset_s _ rfl rfl (sset_s _ rfl rfl (sset_s _ rfl rfl sset_0))) | exact sset_s _ rfl rfl (sset_s _ rfl rfl (sset_s _ rfl rfl (sset_s _ rfl rfl (sset_s _ rfl rfl sset_0)))) | exact sset_s _ rfl rfl (sset_s _ rfl rfl (sset_s _ rfl rfl (sset_s _ rfl rfl (sset_s _ rfl rfl (sset_s _ rfl rfl sset_0))))) | exact sset_s _ rfl rfl (sset_s _ rfl rfl (sset_s _ rfl rfl (sset_s _ rfl rfl (sset_s _ rfl rfl (sset_s _ rfl rfl (sset_s _ rfl rfl sset_0)))))) | exact sset_s _ rfl rfl (sset_s _ rfl rfl (sset_s _ rfl rfl (sset_s _ rfl rfl (sset_s _ rfl rfl (sset_s _ rfl rfl (sset_s _ rfl rfl (sset_s _ rfl rfl sset_0)))))))) (by repeat (first | exact hset_0 | apply hset_s))) :
    LOk P ⟨d, .call ⟨.builtin .copy, #[x, y], #[t, tx]⟩, rt, pos, af, g⟩ T H H' (.s (.int .i64 (n : Int))) (id :: R) [id] := a_copyI hx hy hb hsrc hn hsg h0 hq hz hRi hH
theorem k_mk {t : TypeId} {x y : Operand} (h : LOk P ⟨d, .makeSlice t x y, ty, pos, af, g⟩ T H H' v F M := by exact a_make rfl rfl (by exact rfl) (by exact rfl) (by omega) (by first | (show 1 * _ ≤ _; omega) | (show 8 * _ ≤ _; omega) | (show 4 * _ ≤ _; omega) | (show 2 * _ ≤ _; omega)) (by omega) LenN.h (by repeat (first | exact happ_0 | apply happ_s))) : LOk P ⟨d, .makeSlice t x y, ty, pos, af, g⟩ T H H' v F M := h
end kinds
end Go.Bx
namespace Go.Bx
section
variable {P : Program} {T : Tm} {H : Heap} {d : Option Tmp} {ty : TypeId} {pos : String} {af : Array Edge} {g : Option (Nat × Bool)} {v : AV} {H' : Heap} {F M : List Nat}
theorem a_idx {t e : TypeId} {x i : Operand} {k k' : IntKind} {n j' : Nat} {j : Int} {l : List Int} (hx : ev T x = .agg [.ints k n l]) (hi : ev T i = .s (.int k' j)) [hu : Und P t (.array n e)] [hs : Sz P e 1] [ha : Ag P e false] [hjn : IsN j j'] (hj : j' < n) :
    LOk P ⟨d, .index t x i, ty, pos, af, g⟩ T H H (.s (.int k (l.getD j' 0))) [] [] :=
  lok_pure fun ρ a w ho => by
    obtain ⟨h1, h2⟩ := two (op := .index t x i) rfl ho hx hi
    obtain ⟨cs, e1, c1⟩ := agg_ints_cells h1
    rw [hjn.h] at h2
    have h2 : a.eval i = .int k' (j' : Int) := h2
    have hb : (0 : Int) ≤ (j' : Int) ∧ (j' : Int) < (n : Int) := by omega
    exact ⟨.int k (l.getD j' 0), by simp [execOp, e1, h2, Instr.index, Sem.run_bind, run_underlying hu.h, asIntOf, hb, hj, hs.h, ha.h, part, c1 j' hj], rfl⟩
theorem k_id {t : TypeId} {x i : Operand} (h : LOk P ⟨d, .index t x i, ty, pos, af, g⟩ T H H v [] [] := by exact a_idx rfl rfl (by omega)) : LOk P ⟨d, .index t x i, ty, pos, af, g⟩ T H H v [] [] := h
end
end Go.Bx
end

section
/- A block that may be written, told as a value for one call's time. No program. -/
namespace Go.Bx
def SV.plainB : SV → Bool
  | .int .. => true | .bool _ => true | .nilp => true | .nils => true | .val _ => true | .ptr .. => true | .slice .. => true | .slx .. => true | .gro .. => true | .junk => true
  | _ => false
def Seg.plainB : Seg → Bool
  | .ints .. => true
  | .one v => v.plainB
  | .rows .. => false
def AV.plainB : AV → Bool
  | .s v => v.plainB
  | .agg l => l.all Seg.plainB
  | .tup l => l.all fun | .s v => v.plainB | .agg l => l.all Seg.plainB | .tup _ => true
theorem SV.rep_plain {ρ ρ' : Rho} (hm : ρ'.m = ρ.m) (hs : ρ'.sz = ρ.sz) {x : SV} {v : Value} (hx : x.plainB = true) (h : x.rep ρ v) : x.rep ρ' v := by
  cases x <;> first | exact h | (cases hx; done) | (simp only [SV.rep] at h ⊢; rw [hm]; exact h) | (simp only [SV.rep] at h ⊢; rw [hm, hs]; exact h)
theorem atS_plain : ∀ {l : List Seg} {i : Nat} {x : SV}, l.all Seg.plainB = true → atS l i = some x → x.plainB = true
  | [], _, _, _, h => by simp [atS] at h
  | s :: r, i, x, hb, h => by
    simp only [List.all_cons, Bool.and_eq_true] at hb
    simp only [atS] at h
    by_cases hi : i < s.size
    · rw [if_pos hi] at h
      have h := Option.some.inj h
      subst h
      cases s with
      | one v => exact hb.1
      | ints k m l => rfl
      | rows n w g => cases hb.1
    · rw [if_neg hi] at h
      exact atS_plain hb.2 h
theorem RowRep.plain {ρ ρ' : Rho} (hm : ρ'.m = ρ.m) (hs : ρ'.sz = ρ.sz) {l : List Seg} {g : Nat → Option Value} (hl : l.all Seg.plainB = true) (h : RowRep ρ l g) : RowRep ρ' l g := fun i x hx => by
  obtain ⟨v, h1, h2, h3⟩ := h i x hx
  exact ⟨v, h1, SV.rep_plain hm hs (atS_plain hl hx) h2, h3⟩
theorem AV.rep_plain {ρ ρ' : Rho} (hm : ρ'.m = ρ.m) (hs : ρ'.sz = ρ.sz) {x : AV} {v : Value} (hx : x.plainB = true) (h : x.rep ρ v) : x.rep ρ' v := by
  cases x with
  | s x => exact SV.rep_plain hm hs hx h
  | agg l => obtain ⟨cs, e1, e2, e3⟩ := h; exact ⟨cs, e1, e2, e3.plain hm hs hx⟩
  | tup l =>
    obtain ⟨vs, e1, e2⟩ := h
    simp only [AV.plainB, List.all_eq_true] at hx
    refine ⟨vs, e1, fun i y hy => ?_⟩
    obtain ⟨u, hu, hr⟩ := e2 i y hy
    have hp := hx y (List.mem_of_getElem? hy)
    refine ⟨u, hu, ?_⟩
    cases y with
    | s x => exact SV.rep_plain hm hs hp hr
    | agg l => obtain ⟨cs, e1, e2, e3⟩ := hr; exact ⟨cs, e1, e2, e3.plain hm hs hp⟩
    | tup q => exact hr.elim
def othersOk (H : Heap) (id : Nat) (F : List Nat) : Bool := F.all fun j => Nat.beq j id || match hget H j with | some b => !b.rw || b.segs.all Seg.plainB | none => true
theorem othersOk_at {H : Heap} {id : Nat} {F : List Nat} (h : othersOk H id F = true) {j : Nat} (hj : j ∈ F) (hn : j ≠ id) {b : Blk} (hb : hget H j = some b) : b.rw = false ∨ b.segs.all Seg.plainB = true := by
  simp only [othersOk, List.all_eq_true] at h
  have := h j hj
  rw [hb] at this
  simp only [Bool.or_eq_true, Bool.not_eq_true'] at this
  rcases this with h1 | h1
  · exact absurd (Nat.eq_of_beq_eq_true h1) hn
  · exact h1

theorem lok_tmp {P : Program} {o : Oper} {T : Tm} {H : Heap} {v : AV} {F : List Nat} (id : Nat) {segs : List Seg} (hb : hget H id = some ⟨true, segs⟩) (h : LOk P o T (H.set id (some ⟨false, segs⟩)) (H.set id (some ⟨false, segs⟩)) v F []) (hF : id ∈ F) (ho : othersOk H id F = true) (hv : v.plainB = true) : LOk P o T H H v F [] := by
  have hlt := hget_lt hb
  refine ⟨Nat.le_refl _, fun _ _ _ => rfl, fun _ h => (by cases h), fun j hj => by have := h.lt j hj; simpa using this, ?_⟩
  have hrun := h.run
  rw [List.length_set, msk_set _ _ _ hF] at hrun
  have hbm : hget (msk F H.length H) id = some ⟨true, segs⟩ := by rw [hget_msk, if_pos (.inl hF)]; exact hb
  have hom : ∀ j b, j ≠ id → hget (msk F H.length H) j = some b → b.rw = false ∨ b.segs.all Seg.plainB = true := by
    intro j b hj hg
    rw [hget_msk] at hg
    split at hg
    · rename_i h1
      rcases h1 with h1 | h1
      · exact othersOk_at ho h1 hj hg
      · have := hget_lt hg; omega
    · cases hg
  generalize hH0 : msk F H.length H = H0 at *
  have hl0 : H0.length = H.length := by rw [← hH0, msk_len]
  intro W ρ a w hH hn hW hops next Q hq
  have hlt0 := hget_lt hbm
  cases hm : ρ.m id with
  | none =>
    have hHf : HRep W ρ (hget (H0.set id (some ⟨false, segs⟩))) w := by
      refine ⟨hH.lt, fun j b o k e1 e2 => ?_, fun j j' b o o' k k' hne e1 e2 e3 e4 => ?_, hH.fz, hH.sz⟩
      · rw [hget_set hlt0] at e2
        by_cases hj : j = id
        · subst hj; rw [hm] at e1; cases e1
        · rw [if_neg hj] at e2; exact hH.rep j b o k e1 e2
      · rw [hget_set hlt0] at e3 e4
        by_cases hj : j = id
        · subst hj; rw [hm] at e1; cases e1
        · by_cases hj' : j' = id
          · subst hj'; rw [hm] at e2; cases e2
          · rw [if_neg hj] at e3; rw [if_neg hj'] at e4; exact hH.apart j j' b o o' k k' hne e1 e2 e3 e4
    refine hrun W ρ a w hHf (fun i a1 a2 => by rw [List.length_set] at a1 a2; omega) hW hops next Q ?_
    rintro v' w' ⟨ρ', W', k, hv'⟩
    rw [List.length_set] at k
    have hmm : ∀ i x, ρ'.m i = some x → ρ.m i = some x := fun i x e => by
      rcases k.old i x e with h1 | h1
      · exact h1
      · omega
    refine hq v' w' ⟨ρ', W', ⟨k.le, k.old, ⟨k.rep.lt, fun j b o k' e1 e2 => ?_, fun j j' b o o' k1 k2 hne e1 e2 e3 e4 => ?_, k.rep.fz, k.rep.sz⟩, k.fr, k.sub, k.fresh, k.fzn⟩, hv'⟩
    · refine k.rep.rep j b o k' e1 ?_
      rw [hget_set hlt0, if_neg]; exact e2
      intro e; subst e; have := hmm _ _ e1; rw [hm] at this; cases this
    · exact hH.apart j j' b o o' k1 k2 hne (hmm _ _ e1) (hmm _ _ e2) e3 e4
  | some x =>
    obtain ⟨b0, o0⟩ := x
    obtain ⟨hB0, hW0⟩ := hH.rep id b0 o0 _ hm hbm
    have hW0 := hW0 rfl
    have hnone : ρ.fz b0 = none := by
      cases h : ρ.fz b0 with
      | none => rfl
      | some c => exact absurd hW0 (hH.fz b0 c h).1
    obtain ⟨ρ1, W1, h1, h2, h3, h4, h5, h6⟩ := hrep_frz hH hbm hW
    have hf1 : ∃ cells, ρ1.fz b0 = some cells := by
      obtain ⟨⟨cells, t, fr, g1, g2, g3, g4⟩, _⟩ := h3.rep id b0 o0 ⟨false, segs⟩ (by rw [h2]; exact hm) (by rw [hget_set hlt0, if_pos rfl])
      exact ⟨cells, g3 rfl⟩
    obtain ⟨cells1, hf1⟩ := hf1
    have hnW1 : ¬ W1 b0 := (h3.fz b0 _ hf1).1
    refine hrun W1 ρ1 a w h3 (fun i a1 a2 => by rw [List.length_set] at a1 a2; omega) h5 (fun x hx => AV.rep_le h1 (hops x hx)) next Q ?_
    rintro v' w' ⟨ρ', W', k, hv'⟩
    rw [List.length_set] at k
    have hmm : ρ'.m = ρ.m := by
      funext i
      cases h7 : ρ'.m i with
      | none =>
        cases h8 : ρ.m i with
        | none => rfl
        | some x => have := k.le.m i x (h1.m i x h8); rw [h7] at this; cases this
      | some x =>
        rcases k.old i x h7 with h8 | h8
        · rw [h2] at h8; exact h8.symm
        · omega
    let ρ2 : Rho := ⟨ρ'.m, fun b => if b = b0 then none else ρ'.fz b, ρ'.sz⟩
    have hle2 : Rle ρ ρ2 := ⟨fun i x e => by show ρ'.m i = some x; rw [hmm]; exact e, fun b x e => by
      show (if b = b0 then none else ρ'.fz b) = some x
      by_cases hbb : b = b0
      · subst hbb; rw [hnone] at e; cases e
      · rw [if_neg hbb]; exact k.le.fz b x (h1.fz b x e), fun b x e => k.le.sz b x (h1.sz b x e)⟩
    have hfz2 : ∀ b x, ρ2.fz b = some x → b ≠ b0 ∧ ρ'.fz b = some x := fun b x e => by
      have e : (if b = b0 then none else ρ'.fz b) = some x := e
      by_cases hbb : b = b0
      · rw [if_pos hbb] at e; cases e
      · rw [if_neg hbb] at e; exact ⟨hbb, e⟩
    have hsame : ∀ b, b < w.heap.size → ¬ W1 b → w'.heap[b]? = w.heap[b]? := fun b h7 h8 => k.fr.block b h7 h8
    refine hq v' w' ⟨ρ2, fun b => W' b ∨ b = b0, ⟨hle2, fun i x e => .inl (by have e : ρ'.m i = some x := e; rwa [hmm] at e), ⟨fun j b o e => k.rep.lt j b o e, fun j b o kk e1 e2 => ?_, fun j j' b o o' k1 k2 hne e1 e2 e3 e4 => ?_, fun b cs e => ?_, k.rep.sz⟩, k.fr.mono h4, fun b hb => ?_, fun b hb => .inl (k.fresh b hb), fun b c e => ?_⟩, AV.rep_plain (ρ := ρ') (ρ' := ρ2) rfl rfl hv hv'⟩
    · have e1 : ρ'.m j = some (b, o) := e1
      have e1' : ρ.m j = some (b, o) := by rwa [hmm] at e1
      by_cases hj : j = id
      · subst hj
        rw [hm] at e1'; cases e1'
        obtain ⟨q1, q2⟩ := hH.rep j b0 o0 kk hm e2
        exact ⟨(q1.world (hsame b0 (hH.lt _ _ _ hm) hnW1)).le hle2, fun _ => .inr rfl⟩
      · rcases hom j kk hj e2 with hk | hk
        · obtain ⟨q1, q2⟩ := hH.rep j b o kk e1' e2
          obtain ⟨cells, t, fr, g1, g2, g3, g4⟩ := q1
          have hnW : ¬ W1 b := fun h7 => (hH.fz b _ (g3 hk)).1 (h4 b h7)
          have q1 : BRep ρ kk w b o := ⟨cells, t, fr, g1, g2, g3, g4⟩
          exact ⟨(q1.world (hsame b (hH.lt _ _ _ e1') hnW)).le hle2, fun h7 => (by rw [hk] at h7; cases h7)⟩
        · obtain ⟨⟨cells, t, fr, g1, g2, g3, g4⟩, q2⟩ := k.rep.rep j b o kk e1 (by rw [hget_set hlt0, if_neg hj]; exact e2)
          refine ⟨⟨cells, t, fr, g1, g2, fun h7 => ?_, g4.plain (ρ := ρ') (ρ' := ρ2) rfl rfl hk⟩, fun h7 => .inl (q2 h7)⟩
          show (if b = b0 then none else ρ'.fz b) = some cells
          rw [if_neg ?_]; exact g3 h7
          intro e
          subst e
          have := (hH.apart j id b o o0 kk _ hj e1' hm e2 hbm).2
          cases this
    · have e1 : ρ'.m j = some (b, o) := e1
      have e2 : ρ'.m j' = some (b, o') := e2
      rw [hmm] at e1 e2
      exact hH.apart j j' b o o' k1 k2 hne e1 e2 e3 e4
    · obtain ⟨h7, h8⟩ := hfz2 b cs e
      exact ⟨fun h9 => h9.elim (k.rep.fz b cs h8).1 h7, (k.rep.fz b cs h8).2⟩
    · rcases hb with h7 | h7
      · exact h4 b (k.sub b h7)
      · subst h7; exact hW0
    · obtain ⟨h7, h8⟩ := hfz2 b c e
      rcases k.fzn b c h8 with h9 | h9
      · exact h6 b c h9
      · exact .inr (h4 b h9)
end Go.Bx
namespace Go.Bx
theorem k_tmp {P : Program} {o : Oper} {T : Tm} {H : Heap} {v : AV} {F : List Nat} (id : Nat) {segs : List Seg} (hb : hget H id = some ⟨true, segs⟩ := by rfl) (h : LOk P o T (H.set id (some ⟨false, segs⟩)) (H.set id (some ⟨false, segs⟩)) v F []) (hF : List.elem id F = true := by rfl) (ho : othersOk H id F = true := by rfl) (hv : v.plainB = true := by rfl) : LOk P o T H H v F [] := lok_tmp id hb h (List.mem_of_elem_eq_true hF) ho hv
end Go.Bx
namespace Go.Bx
section
variable {E : Env} {P : Program} {T : Tm} {H : Heap}
theorem lset_getD (l : List Int) (i : Nat) (v : Int) (j : Nat) : (l.set i v).getD j 0 = if i = j ∧ i < l.length then v else l.getD j 0 := by
  simp only [List.getD_eq_getElem?_getD, List.getElem?_set]
  by_cases h : i = j
  · subst h
    by_cases h2 : i < l.length
    · simp [h2]
    · simp [h2]
  · simp [h]
theorem weak_drop (id : Nat) {H' : Heap} (hH : H.set id none = H') : Weak E T H T H' := by
  subst hH
  rintro a w ⟨ρ, W, p, hn, hT, hE⟩
  refine ⟨ρ, W, ⟨p.le, p.rep.sub fun j b hj => ?_, p.size, p.defs, p.fr, p.sub, p.fresh, p.fzn, p.old⟩, fun i hi => hn i (by simpa using hi), hT, by simpa using hE⟩
  by_cases hlt : id < H.length
  · rw [hget_set hlt] at hj
    split at hj
    · cases hj
    · exact hj
  · rw [List.set_eq_of_length_le (by omega)] at hj; exact hj
theorem frz_ptr (t n : Nat) {id : Nat} {segs : List Seg} {H' : Heap} (hx : look T t = .s (.ptr id 0 0) := by rfl) (hb : hget H id = some ⟨true, segs⟩ := by rfl) (hn : sizeS segs = n := by rfl) (hid : segs.all (Seg.idB fun _ => false) = true := by rfl) (hH : H.set id none = H' := by repeat (first | exact hset_0 | apply hset_s)) : Weak E T H ((t, .s (.fptr n (cellsF segs) 0 0)) :: T) H' := by
  have hlt := hget_lt hb
  refine (weak_frz id hb rfl).trans ((weak_conv t hx (conv_ptr (k := ⟨false, segs⟩) (by rw [hget_set hlt, if_pos rfl]) rfl hn hid)).trans (weak_drop id ?_))
  rw [List.set_set]; exact hH
theorem frz_sl (t : Nat) {id base idx len cap n : Nat} {kk : IntKind} {l l' : List Int} {segs : List Seg} {H' : Heap} (hx : look T t = .s (.slice id base idx len cap) := by rfl) (hb : hget H id = some ⟨true, segs⟩ := by rfl) (hs : segAt segs base = some (.ints kk n l) := by rfl) (hn : idx + len ≤ n := by omega) (hc : len ≤ cap := by omega) (hl : l.length = n := by first | assumption | omega | simp [*]) (hl' : (l.drop idx).take len = l' := by rfl) (hH : H.set id none = H' := by repeat (first | exact hset_0 | apply hset_s)) : Weak E T H ((t, .s (.fzi kk l')) :: T) H' := by
  have hlt := hget_lt hb
  refine (weak_frz id hb rfl).trans ((weak_conv t hx (conv_sl (k := ⟨false, segs⟩) (by rw [hget_set hlt, if_pos rfl]) rfl hs hn hc hl hl')).trans (weak_drop id ?_))
  rw [List.set_set]; exact hH
theorem frz_gro (t : Nat) {id len n : Nat} {kk : IntKind} {l l' : List Int} {H' : Heap} (hx : look T t = .s (.gro id 1 len) := by rfl) (hb : hget H id = some ⟨true, [.ints kk n l]⟩ := by rfl) (hn : len ≤ n := by omega) (hl : l.length = n := by first | assumption | omega | simp [*]) (hl' : l.take len = l' := by rfl) (hH : H.set id none = H' := by repeat (first | exact hset_0 | apply hset_s)) : Weak E T H ((t, .s (.fzi kk l')) :: T) H' := by
  have hlt := hget_lt hb
  refine (weak_frz id hb rfl).trans ((weak_conv t hx (conv_gro (k := ⟨false, [.ints kk n l]⟩) (by rw [hget_set hlt, if_pos rfl]) rfl rfl hn hl hl')).trans (weak_drop id ?_))
  rw [List.set_set]; exact hH
end
end Go.Bx
end

section
/- Loops over functions: rounds. No program. -/
namespace Go.Bx
def FW (r : Option Nat) : Fence := { Fence.wide with round := r }
def noDefer (ops : Array Oper) : Bool := ops.toList.all fun o => match o.op with | .defer .. => false | _ => true
theorem noDefer_op {ops : Array Oper} (h : noDefer ops = true) {i : Nat} {o : Oper} (ho : ops[i]? = some o) : ∀ c, o.op ≠ .defer c := by
  intro c e
  have := List.all_eq_true.1 h o (List.mem_of_getElem? (i := i) (by simpa using ho))
  rw [e] at this; cases this
theorem upon_in {P : Program} {o : Oper} {a : Act} {next : Act → World → Prop} {Q : Exit → Act → World → Prop} {r : Result Next} {ro : Option Nat} (h : o.upon P a next Q r) : o.uponIn (FW ro) 0 P a next Q r := by
  cases r with
  | ok x w' =>
    cases x with
    | value v => exact h
    | skip => exact h
    | defer d => exact h
    | enter f args =>
      refine ⟨fun e => (by cases e), ?_⟩
      have h : Calls P f args w' _ := h
      exact CallsIn.mono (show CallsIn (FW ro) (0 - 1) P f args w' _ from (callsIn_wide (n := 0 - 1)).2 h) (fun e w hr => by cases e <;> exact hr)
    | row row args =>
      refine ⟨fun e => (by cases e), fun c cs _ => ?_⟩
      have h : Rows P row args w' _ := h
      obtain ⟨v, w2, r, s⟩ := h c cs
      exact ⟨v, w2, r, stepsIn_wide.2 s⟩
    | _ => exact h.elim
  | halt x w' => cases x <;> first | exact h | exact h.elim
theorem gives_in {P : Program} {o : Oper} {a : Act} {w : World} {R : Value → World → Prop} {next : Act → World → Prop} {Q : Exit → Act → World → Prop} {ro : Option Nat} (hd : ∀ c, o.op ≠ .defer c) (h : Gives P o a w R) (hk : ∀ v w', R v w' → next (a.put o.dst v) w') : o.wpIn (FW ro) 0 P a w next Q :=
  ⟨fun _ _ => trivial, by rw [show (FW ro).round = ro from rfl, Oper.semAt_eq _ _ _ hd]; exact upon_in (h next Q hk)⟩
theorem steps_opsIn {E : Env} {ops : Array Oper} {Q : Exit → Act → World → Prop} {ro : Option Nat} (hok : regionOk E.n ops = true) (hnd : noDefer ops = true) {l : List Oper} {fs : Trail} {T T' : Tm} {H H' : Heap} (hs : Steps E.P ops l T H fs T' H') :
    ∀ (k : Nat) (rest : List Nat), (∀ j, j < l.length → l[j]? = ops[k + j]?) → (∀ a w, Rep E T' H' a w → wpOpsIn (FW ro) 0 E.P ops Q rest a w) → ∀ a w, Rep E T H a w → wpOpsIn (FW ro) 0 E.P ops Q (List.range' k l.length ++ rest) a w := by
  induction hs with
  | nil => exact fun k rest _ hk a w hr => hk a w hr
  | @cons o r T H H1 v F M fs T' H' hg h _ ih =>
    intro k rest hl hk a w hr
    have h0 : ops[k]? = some o := by have := hl 0 (by simp); simpa using this.symm
    rw [List.length_cons, List.range'_succ, List.cons_append]
    obtain ⟨ρ, W, p, hn, hT, hE⟩ := hr
    have hw := hg.wanted (ρ := ρ) (a := a) (fun j b t e1 e2 => ⟨hT t, by rw [p.size]; exact regionOk_guard hok j t e2⟩)
    simp only [wpOpsIn, h0, hw, if_true]
    exact gives_in (noDefer_op hnd h0) (rep_lok h (regionOk_op hok h0) ⟨ρ, W, p, hn, hT, hE⟩) fun v' w' hr' => ih (k + 1) rest (fun j hj => by have := hl (j + 1) (by simpa using hj); simpa [Nat.add_assoc, Nat.add_comm 1 j] using this) hk _ _ hr'
  | @skip o r T H F fs T' H' hg _ ih =>
    intro k rest hl hk a w hr
    have h0 : ops[k]? = some o := by have := hl 0 (by simp); simpa using this.symm
    rw [List.length_cons, List.range'_succ, List.cons_append]
    obtain ⟨ρ, W, p, hn, hT, hE⟩ := hr
    have hw := hg.wanted (ρ := ρ) (a := a) (fun j b t e1 e2 => ⟨hT t, by rw [p.size]; exact regionOk_guard hok j t e2⟩)
    have hopk := regionOk_op hok h0
    simp only [wpOpsIn, h0, hw, Bool.false_eq_true, if_false]
    refine ⟨fun _ _ => trivial, ih (k + 1) rest (fun j hj => by have := hl (j + 1) (by simpa using hj); simpa [Nat.add_assoc, Nat.add_comm 1 j] using this) hk _ _ ⟨ρ, W, ⟨p.le, p.rep, (put_size _ _ _).trans p.size, (by rw [put_defers]; exact p.defs), p.fr, p.sub, p.fresh, p.fzn, p.old⟩, hn, hT.put (fun i hi => by rw [p.size]; exact opOk_dst hopk i hi) trivial, hE⟩⟩

def WpI (ro : Option Nat) (E : Env) (c : Code) (T : Tm) (H : Heap) (Q : Exit → Tm → Heap → Prop) : Prop :=
  ∀ a w, Rep E T H a w → c.wpIn (FW ro) 0 E.P (fun e a' w' => ∃ T' H', Q e T' H' ∧ Rep E T' H' a' w') a w
section code
variable {ro : Option Nat} {E : Env} {T : Tm} {H : Heap} {Q : Exit → Tm → Heap → Prop}
theorem i_skip (h : Q .normal T H) : WpI ro E .skip T H Q := fun _ _ hr => wpIn_skip ⟨T, H, h, hr⟩
theorem i_exit {i : Nat} (h : Q (.exit i) T H) : WpI ro E (.exit i) T H Q := fun _ _ hr => wpIn_exit ⟨T, H, h, hr⟩
theorem i_seq {x y : Code} (h : WpI ro E x T H (Thn (fun T H => WpI ro E y T H Q) Q)) : WpI ro E (.seq x y) T H Q := by
  intro a w hr
  refine wpIn_seq (wpIn_mono (h a w hr) ?_)
  rintro e a' w' ⟨T', H', h1, h2⟩
  cases e with
  | normal => exact h1 a' w' h2
  | exit i => exact ⟨T', H', h1, h2⟩
  | goto l => exact ⟨T', H', h1, h2⟩
  | ret => exact ⟨T', H', h1, h2⟩
  | panic ch => exact ⟨T', H', h1, h2⟩
  | outgrown => exact ⟨T', H', h1, h2⟩
theorem i_block {i : Nat} {c : Code} (h : WpI ro E c T H (Blo i Q)) : WpI ro E (.block i c) T H Q := by
  intro a w hr
  refine wpIn_block (wpIn_mono (h a w hr) ?_)
  rintro e a' w' ⟨T', H', h1, h2⟩
  cases e with
  | normal => exact ⟨T', H', h1, h2⟩
  | exit j =>
    simp only [Exit.inBlock]
    simp only [Blo] at h1
    split <;> rename_i hj
    · rw [if_pos hj] at h1; exact ⟨T', H', h1, h2⟩
    · rw [if_neg hj] at h1; exact ⟨T', H', h1, h2⟩
  | goto l => exact ⟨T', H', h1, h2⟩
  | ret => exact ⟨T', H', h1, h2⟩
  | panic ch => exact ⟨T', H', h1, h2⟩
  | outgrown => exact ⟨T', H', h1, h2⟩
theorem i_cond {t : Nat} {x y : Code} {b : Bool} (hc : look T t = .s (.bool b)) (h1 : b = true → WpI ro E x T H Q) (h2 : b = false → WpI ro E y T H Q) : WpI ro E (.cond (.tmp t) x y) T H Q := by
  intro a w hr
  have hr' := hr
  obtain ⟨ρ, W, p, hn, hT, _⟩ := hr
  exact wpIn_cond_split (eval_tmp hT hc) (fun e => h1 e a w hr') (fun e => h2 e a w hr')
theorem i_reg {id : Nat} {ops : Array Oper} {l : List Oper} (hok : regionOk E.n ops = true) (hnd : noDefer ops = true) (hl : ops.toList = l) (h : SK E.P ops l T H (fun _ => True) (Q .normal)) : WpI ro E (.region id ops false) T H Q := by
  obtain ⟨fs, T', H', hs, _, hq⟩ := h
  subst hl
  intro a w hr
  refine wpIn_region ?_
  have := steps_opsIn (ro := ro) (Q := fun e a' w' => ∃ T' H', Q e T' H' ∧ Rep E T' H' a' w') hok hnd hs 0 [] (fun j _ => by simp) (fun a w hr => ⟨T', H', hq, hr⟩) a w hr
  simpa [List.range_eq_range'] using this
theorem i_regY {id : Nat} {ops : Array Oper} {l1 l2 : List Oper} {y : Oper} (k : Nat) (hok : regionOk E.n ops = true) (hnd : noDefer ops = true) (hk : ops[k]? = some y) (hl1 : ops.toList.take k = l1) (hl2 : ops.toList.drop (k + 1) = l2) (hg : y.guard = none)
    (h1 : SK E.P ops l1 T H (fun _ => True) fun T1 H1 => ∃ T2 H2, (∀ a w, Rep E T1 H1 a w → ∀ (K : Act → World → Prop) (Q' : Exit → Act → World → Prop), (∀ a' w', Rep E T2 H2 a' w' → K a' w') → y.wpIn (FW ro) 0 E.P a w K Q') ∧ SK E.P ops l2 T2 H2 (fun _ => True) (Q .normal)) : WpI ro E (.region id ops false) T H Q := by
  obtain ⟨fs, T1, H1, hs, _, T2, H2, hy, fs2, T3, H3, hs2, _, hq⟩ := h1
  intro a w hr
  refine wpIn_region ?_
  have hks : k < ops.size := (Array.getElem?_eq_some_iff.1 hk).1
  have e1 : l1.length = k := by rw [← hl1, List.length_take, Array.length_toList]; omega
  have e2 : l2.length = ops.size - (k + 1) := by rw [← hl2, List.length_drop, Array.length_toList]
  have hr0 : List.range ops.size = List.range' 0 l1.length ++ k :: (List.range' (k + 1) l2.length ++ []) := by
    rw [List.range_eq_range', e1, e2, List.append_nil]
    have : ops.size = k + (1 + (ops.size - (k + 1))) := by omega
    rw [this, ← List.range'_append_1, Nat.zero_add, Nat.add_comm 1, List.range'_succ]
    congr 3
    omega
  rw [hr0]
  refine steps_opsIn hok hnd hs 0 _ (fun j hj => ?_) (fun a w hr => ?_) a w hr
  · rw [← hl1, List.getElem?_take_of_lt (by omega), Nat.zero_add]; simp
  · have hw : Region.wanted y (yielded ops a.tmps) = true := by simp [Region.wanted, hg]
    simp only [wpOpsIn, hk, hw, if_true]
    refine hy a w hr _ _ fun a' w' hr' => ?_
    refine steps_opsIn (Q := fun e a' w' => ∃ T' H', Q e T' H' ∧ Rep E T' H' a' w') hok hnd hs2 (k + 1) [] (fun j hj => ?_) (fun a w hr => ⟨T3, H3, hq, hr⟩) a' w' hr'
    rw [← hl2, List.getElem?_drop]; simp
theorem i_loop {c : Code} (I : Nat → Tm → Heap → Prop) (n0 : Nat) {T' : Tm} {H' : Heap} (h0 : I n0 T' H') (hw : Weak E T H T' H')
    (round : ∀ n T H, I n T H → WpI ro E c T H (Thn (fun T1 H1 => ∃ n', n' < n ∧ ∃ T2 H2, Weak E T1 H1 T2 H2 ∧ I n' T2 H2) Q)) : WpI ro E (.loop c) T H Q := by
  intro a w hr
  let J : Nat → Act → World → Prop := fun n a w => ∃ T H, I n T H ∧ Rep E T H a w
  refine wpIn_loop (fun a w => ∃ n, J n a w) (fun a w => leastOf (fun n => J n a w)) ⟨n0, T', H', h0, hw a w hr⟩ ?_
  intro a w hI
  obtain ⟨T, H, hI', hr⟩ := (leastOf_spec hI).1
  refine wpIn_mono (round _ T H hI' a w hr) ?_
  rintro e a' w' ⟨T1, H1, h1, h2⟩
  cases e with
  | normal =>
    obtain ⟨n', hlt, T2, H2, hw2, hI2⟩ := h1
    have hJ : J n' a' w' := ⟨T2, H2, hI2, hw2 _ _ h2⟩
    exact ⟨⟨n', hJ⟩, Nat.lt_of_le_of_lt ((leastOf_spec ⟨n', hJ⟩).2 n' hJ) hlt⟩
  | exit i => exact ⟨T1, H1, h1, h2⟩
  | goto l => exact ⟨T1, H1, h1, h2⟩
  | ret => exact ⟨T1, H1, h1, h2⟩
  | panic ch => exact ⟨T1, H1, h1, h2⟩
  | outgrown => exact ⟨T1, H1, h1, h2⟩
theorem ni_wp {y : Code} (h : WpI ro E y T H Q) : Thn (fun T H => WpI ro E y T H Q) Q .normal T H := h
end code
def roundT (ps : List Tmp) (vs : List AV) (T : Tm) : Tm := (ps.zip vs).foldl (fun t p => (p.1, p.2) :: t) T
def YRound (P : Program) (n : Nat) (assign body : Code) (T : Tm) (H H' : Heap) : Prop :=
  H.length ≤ H'.length ∧ ∃ Ta, ∀ (l : Nat) (E : Env), E.P = P → E.n = n → E.nE = H.length → WpI (some l) E assign T H (fun e T1 H1 => e = .normal ∧ Weak E T1 H1 Ta H) ∧ WpI (some l) E body Ta H (fun e T1 H1 => e = .normal ∧ Weak E T1 H1 [] H')
theorem HRep.put {W : Nat → Prop} {ρ : Rho} {h : Nat → Option Blk} {w : World} (hH : HRep W ρ h w) {l : Nat} {o : Obj} (o' : Obj) (hl : w.heap[l]? = some o) (ho : o.isCells = false) : HRep W ρ h (w.putObj l o') := by
  have hne : ∀ {b : Nat} {cs : Array Value} {t : TypeId} {fr : Nat × Nat}, w.heap[b]? = some (.cells cs t fr) → b ≠ l := by
    intro b cs t fr h e
    subst e
    rw [hl] at h
    cases h
    exact absurd ho (by simp [Obj.isCells])
  refine ⟨fun id b off e => by simpa using hH.lt id b off e, fun id b off k e hk => ?_, hH.apart, fun b cs e => ?_, fun b n e => ?_⟩
  · have hr := hH.rep id b off k e hk
    obtain ⟨cells, t, fr, g1, _⟩ := hr.1
    exact ⟨hr.1.world (World.putObj_heap_other (hne g1)), hr.2⟩
  · obtain ⟨q1, t, fr, q2⟩ := hH.fz b cs e
    exact ⟨q1, t, fr, by rw [World.putObj_heap_other (hne q2)]; exact q2⟩
  · obtain ⟨cs, t, fr, q1, q2⟩ := hH.sz b n e
    exact ⟨cs, t, fr, by rw [World.putObj_heap_other (hne q1)]; exact q1, q2⟩
theorem TRep.foldl {ρ : Rho} : ∀ (ps : List Tmp) (avs : List AV) (vs : List Value) (T : Tm) (t : Array Value), (∀ p ∈ ps, p < t.size) → ps.length = avs.length → avs.length = vs.length → TRep ρ T { tmps := t, defers := [] } → (∀ (i : Nat) (x : AV) (v : Value), avs[i]? = some x → vs[i]? = some v → x.rep ρ v) →
    TRep ρ (roundT ps avs T) { tmps := (ps.zip vs).foldl (fun t p => t.setIfInBounds p.1 p.2) t, defers := [] }
  | [], _, _, T, t, _, _, _, h, _ => h
  | p :: ps, [], _, _, _, _, h1, _, _, _ => by simp at h1
  | p :: ps, x :: avs, [], _, _, _, _, h2, _, _ => by simp at h2
  | p :: ps, x :: avs, v :: vs, T, t, hp, h1, h2, h, hv => by
    simp only [roundT, List.zip_cons_cons, List.foldl_cons]
    refine TRep.foldl ps avs vs ((p, x) :: T) (t.setIfInBounds p v) (fun q hq => by simpa using hp q (by simp [hq])) (by simpa using h1) (by simpa using h2) ?_ (fun i y u h3 h4 => hv (i + 1) y u (by simpa using h3) (by simpa using h4))
    have := TRep.put (d := some p) (a := { tmps := t, defers := [] }) h (fun i hi => by cases hi; exact hp p (by simp)) (hv 0 x v rfl rfl)
    exact this
theorem foldl_size (ps : List (Tmp × Value)) (t : Array Value) : (ps.foldl (fun t p => t.setIfInBounds p.1 p.2) t).size = t.size := by
  induction ps generalizing t with
  | nil => rfl
  | cons p r ih => rw [List.foldl_cons, ih]; simp
theorem round_in {P : Program} {n l : Nat} {fn : FuncId} {assign body : Code} {T : Tm} {H H' : Heap} {ps : Array Tmp} {avs : List AV} {vs : Array Value} {W : Nat → Prop} {ρ : Rho} {w : World} {tm : Array Value} {D : Nat}
    (hY : YRound P n assign body (roundT ps.toList avs T) H H') (hH : HRep W ρ (hget H) w) (hdom : ∀ id, H.length ≤ id → ρ.m id = none) (hW : ∀ b, w.heap.size ≤ b → W b) (hT : TRep ρ T { tmps := tm, defers := [] }) (hn : tm.size = n)
    (hl : w.heap[l]? = some (.loop { state := .ready, pending := none, fn, tmps := tm, params := ps, assign, body, defers := D })) (hps : ∀ p ∈ ps.toList, p < n) (hlen : ps.toList.length = avs.length) (hvs : avs.length = vs.toList.length) (hv : ∀ (i : Nat) (x : AV) (v : Value), avs[i]? = some x → vs.toList[i]? = some v → x.rep ρ v) :
    RoundIn (FW none) 0 P l fn ((ps.zip vs).foldl (fun tmps (t, a) => tmps.setIfInBounds t a) tm) assign body w fun e w' => e = .returned (.bool true) ∧ ∃ ρ' W', Nx H.length H'.length ρ ρ' W W' (hget H') w w' ∧ ∀ id, H'.length ≤ id → ρ'.m id = none := by
  obtain ⟨hHH, Ta, hY⟩ := hY
  let E1 : Env := ⟨P, W, w, ρ, n, H.length, hW, hdom, [], false⟩
  obtain ⟨hA, _⟩ := hY l E1 rfl rfl rfl
  refine roundIn_of_wpIn (F := FW none) trivial ?_
  have htm : (ps.zip vs).foldl (fun tmps (t, a) => tmps.setIfInBounds t a) tm = (ps.toList.zip vs.toList).foldl (fun t p => t.setIfInBounds p.1 p.2) tm := by
    rw [← Array.foldl_toList, Array.toList_zip]
  rw [htm]
  have hrep : Rep E1 (roundT ps.toList avs T) H { tmps := (ps.toList.zip vs.toList).foldl (fun t p => t.setIfInBounds p.1 p.2) tm, defers := [] } w :=
    ⟨ρ, W, ⟨.refl _, hH, by rw [foldl_size]; exact hn, DefT.nil _ _ _ _, .refl _ _, fun _ h => h, hW, fun _ _ h => .inl h, fun _ _ h => .inl h⟩, hdom, TRep.foldl _ _ _ T tm (fun p hp => by rw [hn]; exact hps p hp) hlen hvs hT hv, Nat.le_refl _⟩
  refine wpIn_mono (hA _ w hrep) ?_
  rintro e a1 w1 ⟨T1, H1, ⟨rfl, hwk⟩, hr1⟩
  obtain ⟨ρ1, W1, p1, hn1, hT1, _⟩ := hwk a1 w1 hr1
  have hl1 := p1.fr.others l _ hl rfl
  have hlt1 : l < w1.heap.size := (Array.getElem?_eq_some_iff.1 hl1).1
  refine ⟨_, run_beginRound hl1 rfl, ?_⟩
  have hltw : l < w.heap.size := (Array.getElem?_eq_some_iff.1 hl).1
  obtain ⟨busy, hbusy⟩ : ∃ busy : Obj, busy = .loop { state := .busy, pending := none, fn, tmps := tm, params := ps, assign, body, defers := D } := ⟨_, rfl⟩
  rw [← hbusy]
  let wz : World := w.putObj l busy
  let w2 : World := w1.putObj l busy
  have hl2 : wz.heap[l]? = some busy := World.putObj_heap_same hltw
  have hWz : ∀ b, wz.heap.size ≤ b → W b := fun b hb => hW b (by simpa [wz] using hb)
  let E2 : Env := ⟨P, W, wz, ρ, n, H.length, hWz, hdom, [], false⟩
  obtain ⟨_, hB⟩ := hY l E2 rfl rfl rfl
  have hpo : ∀ (u : World) k, k ≠ l → (u.putObj l busy).heap[k]? = u.heap[k]? := fun u k hk => World.putObj_heap_other hk
  have k7 : Fr W w w1 := p1.fr
  have hF2 : Fr W wz w2 := ⟨k7.os, k7.tape, k7.output, by have := k7.size; simpa [wz, w2] using this, fun k hk hnn => by
      by_cases hkl : k = l
      · subst hkl
        show (w1.putObj k busy).heap[k]? = (w.putObj k busy).heap[k]?
        rw [World.putObj_heap_same hlt1, World.putObj_heap_same hltw]
      · show (w1.putObj l busy).heap[k]? = (w.putObj l busy).heap[k]?
        rw [hpo _ _ hkl, hpo _ _ hkl]; exact k7.block k (by simpa [wz] using hk) hnn, fun k x hk hc => by
      by_cases hkl : k = l
      · subst hkl
        rw [hl2] at hk
        cases hk
        exact World.putObj_heap_same hlt1
      · have hk : (w.putObj l busy).heap[k]? = some x := hk
        rw [hpo _ _ hkl] at hk
        show (w1.putObj l busy).heap[k]? = some x
        rw [hpo _ _ hkl]; exact k7.others k x hk hc, fun k cs t fr hk => by
      have hkl : k ≠ l := by intro e; subst e; rw [hl2, hbusy] at hk; cases hk
      have hk : (w.putObj l busy).heap[k]? = _ := hk
      rw [hpo _ _ hkl] at hk
      show ∃ cs' t' fr', (w1.putObj l busy).heap[k]? = _ ∧ _
      rw [hpo _ _ hkl]; exact k7.sizes k cs t fr hk⟩
  have q1 : DefOk w a1.defers w1 := DefT.flat0 p1.defs
  have hd1 : DefT wz [] false a1.defers w2 := ⟨a1.defers, by simp, ⟨q1.nodup, fun d hd => by
    obtain ⟨D', e1, e2, e3⟩ := q1.mark d hd
    refine ⟨D', e1, by simpa [wz] using e2, ?_⟩
    show (w1.putObj l busy).heap[D']? = _
    rw [hpo _ _ (by intro e; subst e; rw [hl1] at e3; cases e3)]; exact e3⟩, fun h => by cases h⟩
  refine wpIn_mono (hB a1 w2 ⟨ρ1, W1, ⟨p1.le, p1.rep.put _ hl1 rfl, p1.size, hd1, hF2, p1.sub, fun b hb => p1.fresh b (by simpa [w2] using hb), p1.fzn, p1.old⟩, hn1, hT1, Nat.le_refl _⟩) ?_
  rintro e a3 w3 ⟨T3, H3, ⟨rfl, hwk3⟩, hr3⟩
  obtain ⟨ρ3, W3, p3, hn3, _, _⟩ := hwk3 a3 w3 hr3
  have hl3 := p3.fr.others l _ hl2 (by rw [hbusy]; rfl)
  have hlt3 : l < w3.heap.size := (Array.getElem?_eq_some_iff.1 hl3).1
  rw [hbusy] at hl3
  have m7 : Fr W wz w3 := p3.fr
  refine ⟨_, _, run_endRound none hl3, rfl, ρ3, W3, ⟨p3.le, fun id x e => ?_, p3.rep.put _ hl3 rfl, ?_, p3.sub, fun b hb => p3.fresh b (by simpa using hb), p3.fzn⟩, hn3⟩
  · rcases p3.old id x e with h4 | h4
    · exact .inl h4
    · refine .inr ⟨h4.1, ?_, h4.2⟩
      rcases Nat.lt_or_ge id H'.length with h5 | h5
      · exact h5
      · rw [hn3 id h5] at e; cases e
  -- what was ready is ready again
  refine ⟨m7.os, m7.tape, m7.output, by have := m7.size; simpa [wz] using this, fun k hk hnn => ?_, fun k x hk hc => ?_, fun k cs t fr hk => ?_⟩
  · by_cases hkl : k = l
    · subst hkl
      rw [hl]; exact World.putObj_heap_same hlt3
    · rw [World.putObj_heap_other hkl, m7.block k (by simpa [wz] using hk) hnn]
      exact hpo _ _ hkl
  · by_cases hkl : k = l
    · subst hkl
      rw [hl] at hk
      cases hk
      exact World.putObj_heap_same hlt3
    · rw [World.putObj_heap_other hkl]
      refine m7.others k x ?_ hc
      show (w.putObj l busy).heap[k]? = some x
      rw [hpo _ _ hkl]; exact hk
  · have hkl : k ≠ l := by intro e; subst e; rw [hl] at hk; cases hk
    rw [World.putObj_heap_other hkl]
    refine m7.sizes k cs t fr ?_
    show (w.putObj l busy).heap[k]? = _
    rw [hpo _ _ hkl]; exact hk
end Go.Bx
end

section
/- The call that asks for a round; the loop over a function. No program. -/
namespace Go.Bx
theorem yield_op {E : Env} {T1 Trow : Tm} {H H' : Heap} {d t n l D : Nat} {xs : Array Operand} {at_ : Array TypeId} {ty : TypeId} {pos : String} {af : Array Edge} {avs : List AV} {fn : FuncId} {assign body : Code} {ps : Array Tmp} {tm : Array Value}
    (ht : look T1 t = .s (.val (.func (.yield l) #[] #[]))) (hxs : xs.toList.map (ev T1) = avs) (hok : opOk E.n ⟨some d, .call ⟨.value (.tmp t), xs, at_⟩, ty, pos, af, none⟩ = true)
    (hrec : E.w0.heap[l]? = some (.loop { state := .ready, pending := none, fn, tmps := tm, params := ps, assign, body, defers := D })) (hTr : TRep E.ρ0 Trow { tmps := tm, defers := [] }) (htm : tm.size = n)
    (hps : ∀ p ∈ ps.toList, p < n) (hlen : ps.toList.length = avs.length) (hY : YRound E.P n assign body (roundT ps.toList avs Trow) H H') :
    ∀ a w, Rep E T1 H a w → ∀ (K : Act → World → Prop) (Q' : Exit → Act → World → Prop), (∀ a' w', Rep E ((d, .s (.bool true)) :: T1) H' a' w' → K a' w') → Oper.wpIn (FW none) 0 E.P ⟨some d, .call ⟨.value (.tmp t), xs, at_⟩, ty, pos, af, none⟩ a w K Q' := by
  intro a w ⟨ρ, W, p, hno, hT, hE⟩ K Q' hK
  refine ⟨fun _ _ => trivial, ?_⟩
  have hev : a.eval (.tmp t) = .func (.yield l) #[] #[] := by
    have := hT t
    rw [ht] at this
    exact this.1
  have hops := opOk_ops hok hT
  have hl := p.fr.others l _ hrec rfl
  have hsz : (xs.map a.eval).size = ps.size := by
    have := congrArg List.length hxs
    simp at this
    simp; rw [this, ← hlen]; simp
  have hrun : ((Oper.semAt (FW none).round a.eval ⟨some d, .call ⟨.value (.tmp t), xs, at_⟩, ty, pos, af, none⟩).run E.P w) = .ok (.round l fn ((ps.zip (xs.map a.eval)).foldl (fun tmps (t, a) => tmps.setIfInBounds t a) tm) assign body) w := by
    rw [show (FW none).round = none from rfl, Oper.semAt_none]
    have hy := run_yield (P := E.P) (args := xs.map a.eval) hl hsz
    simp only [execOp, resolve]
    rw [hev]
    simp only [Deferred.ofValue, Array.empty_append, Sem.run_bind, Sem.run_pure, Result.andThen_ok, invoke]
    exact hy
  rw [hrun]
  refine ⟨fun e => (by cases e), ?_⟩
  refine (round_in hY p.rep hno p.fresh (hTr.le p.le) htm hl hps hlen (by have := congrArg List.length hxs; simpa using this.symm) (fun i x v hx hv => ?_)).mono ?_
  · subst hxs
    simp only [List.getElem?_map, Option.map_eq_some_iff] at hx
    obtain ⟨y, hy, rfl⟩ := hx
    have hy' : xs[i]? = some y := by simpa using hy
    have hv' : v = a.eval y := by
      have : (xs.map a.eval).toList[i]? = some (a.eval y) := by simp [hy']
      rw [this] at hv
      exact (Option.some.inj hv).symm
    subst hv'
    refine hops y ?_
    simp only [Op.operands, Call.operands]
    exact Array.mem_append.2 (.inr (Array.mem_of_getElem? hy'))
  · rintro e w' ⟨rfl, ρ', W', k, hno'⟩
    exact hK _ _ ⟨ρ', W', p.nx (d := some d) hE k, hno', TRep.put (d := some d) (hT.le k.le) (fun i hi => by rw [p.size]; exact opOk_dst hok i hi) (show (AV.s (SV.bool true)).rep ρ' (.bool true) from rfl), Nat.le_trans hE hY.1⟩
def Iter (E : Env) (gf n : Nat) (q : Nat → SV) (ps : Array Tmp) (assign body : Code) (T : Tm) (H Hend : Heap) : Prop :=
  ∀ (l D : Nat) (ρ : Rho) (W : Nat → Prop) (tm : Array Value) (w1 : World) (fn : FuncId) (vs : Array Value), HRep W ρ (hget H) w1 → (∀ id, H.length ≤ id → ρ.m id = none) → TRep ρ T { tmps := tm, defers := [] } → tm.size = E.n → (∀ b, w1.heap.size ≤ b → W b) →
    w1.heap[l]? = some (.loop { state := .ready, pending := none, fn, tmps := tm, params := ps, assign, body, defers := D }) →
    (vs.size = n ∧ ∀ i, i < n → ∃ u, vs[i]? = some u ∧ (q i).rep ρ u) →
    Calls E.P gf (#[.func (.yield l) #[] #[]] ++ vs) w1 fun e w' => (∃ v, e = .returned v) ∧ ∃ ρ' W', Nx H.length Hend.length ρ ρ' W W' (hget Hend) w1 w' ∧ ∀ id, Hend.length ≤ id → ρ'.m id = none
theorem w_rangeFunc {E : Env} {T : Tm} {H Hend : Heap} {Q : Exit → Tm → Heap → Prop} {t gf n : Nat} {q : Nat → SV} {ps : Array Tmp} {assign body : Code} (hfl : E.flat = false) (ht : look T t = .s (.clo gf n q)) (hgf : Callable E.P gf) (hle : H.length ≤ Hend.length) (hit : Iter E gf n q ps assign body T H Hend) (hq : Q .normal T Hend) : Wp E (.rangeFunc (.tmp t) ps assign body) T H Q := by
  intro a w ⟨ρ, W, p, hno, hT, hE⟩
  refine (wpIn_wide (n := 0)).1 (wpIn_rangeFunc ?_)
  intro fn _
  have hx := hT t
  rw [ht] at hx
  obtain ⟨vs, e1, e2, e3⟩ := hx
  have hev : a.eval (.tmp t) = .func (.func gf) #[] vs := e1
  obtain ⟨rec, hrec⟩ : ∃ rec : Loop, rec = { state := .ready, pending := none, fn, tmps := a.tmps, params := ps, assign, body, defers := w.heap.size } := ⟨_, rfl⟩
  obtain ⟨W1, hW1⟩ : ∃ W1, (w.alloc (.deferred (some []))).alloc (.loop rec) = W1 := ⟨_, rfl⟩
  have hx1 : Ext w W1 := by rw [← hW1]; exact (Ext.alloc w _).trans (Ext.alloc _ _)
  have hs1 : W1.heap.size = w.heap.size + 2 := by rw [← hW1]; simp
  have hL1 : W1.heap[w.heap.size + 1]? = some (.loop rec) := by
    rw [← hW1]; have := World.alloc_heap_new (w.alloc (.deferred (some []))) (.loop rec); rwa [World.size_alloc] at this
  have hK1 : W1.heap[w.heap.size]? = some (.deferred (some [])) := by
    rw [← hW1]; exact (Go.RowKit.Below.heap_alloc _ _ _ (by simp)).trans (World.alloc_heap_new w _)
  refine ⟨w.heap.size + 1, [{ target := .collected w.heap.size, args := #[] }], W1, { target := .fn (.func gf) vs, args := #[.func (.yield (w.heap.size + 1)) #[] #[]] }, W1, gf, #[.func (.yield (w.heap.size + 1)) #[] #[]] ++ vs, W1, ?_, ?_, ?_, ?_, fun e => (by cases e), ?_⟩
  · rw [← hW1, hrec]; exact run_enterLoop_outer _ _ _ _ _
  · simp only [resolve, hev]
    simp [Deferred.ofValue]
    rfl
  · intro f' _; trivial
  · simp [invoke, Sem.run_bind, run_callFunc hgf]
  · have hc := hit (w.heap.size + 1) w.heap.size ρ W a.tmps W1 fn vs (p.rep.ext hx1) hno (fun i => hT i) p.size (fun b hb => p.fresh b (by omega)) (by rw [hL1, hrec]) ⟨e2, e3⟩
    refine ((callsIn_wide (n := 0 - 1)).2 hc).mono ?_
    rintro e w2 ⟨⟨v, rfl⟩, ρ', W', k, hno'⟩
    have m4 := k.fr
    have hl2 := m4.others _ _ hL1 rfl
    have hk2 := m4.others _ _ hK1 rfl
    have hlt2 : w.heap.size + 1 < w2.heap.size := (Array.getElem?_eq_some_iff.1 hl2).1
    have hne : ∀ {b : Nat} {cs : Array Value} {t : TypeId} {fr : Nat × Nat}, w2.heap[b]? = some (.cells cs t fr) → b ≠ w.heap.size + 1 := by
      intro b cs t fr h e; subst e; rw [hl2] at h; cases h
    refine ⟨none, _, by have := run_endLoop (P := E.P) hl2 (by rw [hrec]; simp); rw [show rec.pending = none by rw [hrec]] at this; exact this, ?_⟩
    have hsz := p.fr.size
    have hf : Fr W w w2 := ⟨m4.os.trans hx1.os, m4.tape.trans hx1.tape, m4.output.trans hx1.output, by have := m4.size; omega, fun j hj hnn => by rw [m4.block j (by omega) hnn]; exact (hx1.fr W).block j hj hnn, fun j o hj hc => m4.others j o (hx1.obj hj) hc, fun j cs t fr hj => m4.sizes j cs t fr (hx1.obj hj)⟩
    obtain ⟨ms, hms, hd0, _⟩ := p.defs.ex
    have hnx := p.nx (d := none) (v := .bool true) hE (⟨k.le, k.old, k.rep, hf, k.sub, k.fresh, k.fzn⟩ : Nx H.length Hend.length ρ ρ' W W' (hget Hend) w w2)
    refine ⟨T, Hend, hq, ρ', W', ⟨hnx.le, k.rep.put _ hl2 rfl, p.size, ⟨_ :: ms, by rw [hms]; rfl, ⟨?_, fun d hd => ?_⟩, fun h => by rw [hfl] at h; cases h⟩, ?_, hnx.sub, fun b hb => k.fresh b (by simpa using hb), hnx.fzn, hnx.old⟩, hno', fun i => AV.rep_le k.le (hT i), Nat.le_trans hE hle⟩
    · refine List.nodup_cons.2 ⟨fun hm => ?_, hd0.nodup⟩
      obtain ⟨D', f1, f2, f3⟩ := hd0.mark _ hm
      cases f1
      have := (Array.getElem?_eq_some_iff.1 f3).1
      omega
    · rcases List.mem_cons.1 hd with rfl | hd
      · exact ⟨w.heap.size, rfl, hsz, by rw [World.putObj_heap_other (by omega)]; exact hk2⟩
      · obtain ⟨D', f1, f2, f3⟩ := hd0.mark d hd
        have := (Array.getElem?_eq_some_iff.1 f3).1
        exact ⟨D', f1, f2, by rw [World.putObj_heap_other (by omega)]; exact m4.others _ _ (hx1.obj f3) rfl⟩
    · have hf := hnx.fr
      refine ⟨hf.os, hf.tape, hf.output, by simpa using hf.size, fun j hj hn => ?_, fun j o hj hc => ?_, fun j cs t fr hj => ?_⟩
      · rw [World.putObj_heap_other (by omega)]; exact hf.block j hj hn
      · have := (Array.getElem?_eq_some_iff.1 hj).1
        rw [World.putObj_heap_other (by omega)]; exact hf.others j o hj hc
      · have := (Array.getElem?_eq_some_iff.1 hj).1
        rw [World.putObj_heap_other (by omega)]; exact hf.sizes j cs t fr hj
end Go.Bx
namespace Go.Bx
theorem wrap_i64 {x : Int} (h : -9223372036854775808 ≤ x ∧ x < 9223372036854775808) : IntKind.i64.wrap x = x := by
  unfold IntKind.wrap; simp [IntKind.bits, IntKind.signed]; omega
theorem calls_none {P : Program} {f : FuncId} {fn : Func} {c : Code} {args : List AV} {H H' : Heap} {W : Nat → Prop} {ρ : Rho} {vals : Array Value} {w : World} (n : Nat) (hf : P.funcs[f]? = some fn) (hb : fn.body = some c) (hn : fn.ntmps = n) (hr : fn.results = #[]) (hl : args.length ≤ n)
    (hH : HRep W ρ (hget H) w) (hdom : ∀ id, H.length ≤ id → ρ.m id = none) (hW : ∀ b, w.heap.size ≤ b → W b) (hargs : ArgsRep ρ args vals)
    (h : ∀ E : Env, E.P = P → E.n = n → E.nE = H.length → E.w0 = w → E.ρ0 = ρ → WpI none E c (argT 0 args) H fun e T1 H1 => (e = .ret ∨ e = .normal) ∧ Weak E T1 H1 [] H') :
    Calls P f vals w fun e w' => (∃ v, e = .returned v) ∧ ∃ ρ' W', Nx H.length H'.length ρ ρ' W W' (hget H') w w' ∧ ∀ id, H'.length ≤ id → ρ'.m id = none := by
  subst hn
  let E : Env := ⟨P, W, w, ρ, fn.ntmps, H.length, hW, hdom, [], false⟩
  refine (callsIn_wide (n := 0)).1 (callsIn_of_wp_marks hf hb trivial (wpIn_mono (h E rfl rfl rfl rfl rfl _ w ⟨ρ, W, ⟨.refl _, hH, ?_, DefT.nil _ _ _ _, .refl _ _, fun _ h => h, hW, fun _ _ h => .inl h, fun _ _ h => .inl h⟩, hdom, fun t => ?_, Nat.le_refl _⟩) ?_))
  · have := hargs.1
    show _ = fn.ntmps
    simp; omega
  · rw [look_argT, if_pos (Nat.zero_le _), Nat.sub_zero]
    cases hx : args[t]? with
    | none => trivial
    | some x =>
      have hlt : t < vals.size := by
        rw [hargs.1]
        exact (List.getElem?_eq_some_iff.1 hx).1
      have := hargs.2 t x hx
      simp only [Option.getD_some]
      simp only [Array.getD_eq_getD_getElem?] at this ⊢
      rw [Array.getElem?_append_left hlt]
      exact this
  · rintro e a' w' ⟨T, H1, ⟨he, hwk⟩, hrep⟩
    obtain ⟨ρ', W', p, hno, hT, _⟩ := hwk a' w' hrep
    have hl : LeavesInM Fence.wide 0 P fn a'.tmps (fun e w' => (∃ v, e = .returned v) ∧ ∃ ρ' W', Nx H.length H'.length ρ ρ' W W' (hget H') w w' ∧ ∀ id, H'.length ≤ id → ρ'.m id = none) a'.defers .returning w' := by
      refine leaves_marks (w0 := w) (Φ := fun w2 => HRep W' ρ' (hget H') w2 ∧ Fr W w w2 ∧ ∀ b, w2.heap.size ≤ b → W' b) (fun w2 D ⟨h1, h2, h3⟩ hD hd => ⟨hrep_mark h1 hd, fr_mark h2 hD, fun b hb => h3 b (by simpa using hb)⟩) (fun w2 ⟨h1, h2, h3⟩ => ⟨.tuple #[], by simp [results, hr, Sem.run_bind], ⟨_, rfl⟩, ρ', W', ⟨p.le, fun id x e => ?_, h1, h2, p.sub, h3, p.fzn⟩, hno⟩) a'.defers w' (DefT.flat0 p.defs) ⟨p.rep, p.fr, p.fresh⟩
      rcases p.old id x e with h4 | h4
      · exact .inl h4
      · refine .inr ⟨h4.1, ?_, h4.2⟩
        rcases Nat.lt_or_ge id H'.length with h5 | h5
        · exact h5
        · rw [hno id h5] at e; cases e
    rcases he with rfl | rfl
    · exact hl
    · exact hl
section
variable {ro : Option Nat} {E : Env} {P : Program} {T : Tm} {H : Heap} {Q : Exit → Tm → Heap → Prop}
theorem ig_reg {n : Nat} (hP : E.P = P) (hn : E.n = n) {id : Nat} {ops : Array Oper} {l : List Oper} (h : SK P ops l T H (fun _ => True) (Q .normal)) (hok : regionOk n ops = true := by kernel_rfl) (hnd : noDefer ops = true := by kernel_rfl) (hl : ops.toList = l := by rfl) : WpI ro E (.region id ops false) T H Q := by subst hP; subst hn; exact i_reg hok hnd hl h
theorem iw_if {t : Nat} {x y : Code} {p : Prop} [Decidable p] (hc : look T t = .s (.bool (decide p))) (h1 : p → WpI ro E x T H Q) (h2 : ¬ p → WpI ro E y T H Q) : WpI ro E (.cond (.tmp t) x y) T H Q := i_cond hc (fun h => h1 (of_decide_eq_true h)) (fun h => h2 (of_decide_eq_false h))
theorem iw_F {t : Nat} {x y : Code} (hc : look T t = .s (.bool false)) (h : WpI ro E y T H Q) : WpI ro E (.cond (.tmp t) x y) T H Q := i_cond hc (fun e => by cases e) (fun _ => h)
end
end Go.Bx
namespace Go.Bx
section
variable {P : Program} {T : Tm} {H : Heap} {d : Option Tmp} {ty : TypeId} {pos : String} {af : Array Edge} {g : Option (Nat × Bool)}
theorem a_copy0 {x y : Operand} {t tx e rt : TypeId} {id base idx dl dc m : Nat} {u : SV} [hu : Und P t (.slice e)] [hs : Sz P e 1] (hx : ev T x = .s (.slice id base idx dl dc) := by rfl) (hy : ev T y = .s u := by rfl) (hl : u.len = some m := by rfl) (hm : min m dl = 0 := by first | omega | (simp; omega)) :
    LOk P ⟨d, .call ⟨.builtin .copy, #[x, y], #[t, tx]⟩, rt, pos, af, g⟩ T H H (.s (.int .i64 ((0 : Nat) : Int))) [] [] :=
  lok_pure fun ρ a w ho => by
    have k1 : (ev T x).rep ρ (a.eval x) := ho x (by simp [Op.operands, Call.operands])
    have k2 : (ev T y).rep ρ (a.eval y) := ho y (by simp [Op.operands, Call.operands])
    rw [hx] at k1
    rw [hy] at k2
    obtain ⟨b, o, hρ, k1⟩ := k1
    obtain ⟨aa, c, k2⟩ := len_val hl k2
    refine ⟨.int .i64 0, ?_, rfl⟩
    have hmin : Nat.min m dl = 0 := hm
    have hf : (Builtin.firstCells 1 0 (.slice aa m c)).run P w = .ok #[] w := by
      cases aa with
      | none => simp [Builtin.firstCells]
      | some ad => exact run_firstCells_some w 1 0 ad m c [] (by simp) (fun j v hj => by simp at hj)
    simp [execOp, resolve, invoke, builtin, k1, k2, Builtin.copy_, Sem.run_bind, run_underlying hu.h, Builtin.lenOf, hs.h, hmin, hm, hf, goInt, storeCells]
end
end Go.Bx
namespace Go.Bx
def AllEq (T : Tm) : Tm → Prop
  | [] => True
  | (i, v) :: r => look T i = v ∧ AllEq T r
theorem allEq {T T' : Tm} (h : AllEq T T') : ∀ p ∈ T', look T p.1 = p.2 := by
  induction T' with
  | nil => intro p hp; cases hp
  | cons q r ih =>
    intro p hp
    cases hp with
    | head => exact h.1
    | tail _ hm => exact ih h.2 p hm
theorem weak_tm {E : Env} {T T' : Tm} {H : Heap} (h : AllEq T T' := by repeat (first | exact trivial | refine ⟨rfl, ?_⟩)) : Weak E T H T' H := by
  rintro a w ⟨ρ, W, p, hn, hT, hE⟩
  refine ⟨ρ, W, p, hn, fun i => ?_, hE⟩
  rcases look_mem T' i with h1 | ⟨q, hq, rfl, h1⟩
  · rw [h1]; trivial
  · rw [h1, ← allEq h q hq]; exact hT q.1
end Go.Bx
namespace Go.Bx
section
variable {E : Env} {P : Program} {T : Tm} {H : Heap}
theorem d_retw {fn : Func} {v v0 : AV} {H' : Heap} {e : Exit} {n : Nat} (hP : E.P = P) (hn : E.n = n) (hr : Ret P fn T H v0) (hw : Weak E ((0, v0) :: T) H [(0, v)] H') (h0 : Nat.blt 0 n = true := by rfl) (he : e = .ret ∨ e = .normal := by first | exact .inl rfl | exact .inr rfl) : DoneD E fn v H' e T H := by
  subst hP; subst hn; exact ⟨he, 0, v0, Nat.blt_eq.mp h0, hr, hw⟩
end
end Go.Bx
namespace Go.Bx
theorem conv_slz {H : Heap} {id base idx cap : Nat} {k : IntKind} : AConv [] H (.s (.slice id base idx 0 cap)) (.s (.fzi k [])) := fun _ _ _ _ _ _ _ ⟨_, _, _, h⟩ => .inl ⟨rfl, _, _, h⟩
end Go.Bx
namespace Go.Bx
section
variable {P : Program} {T : Tm} {H : Heap} {d : Option Tmp} {ty : TypeId} {pos : String} {af : Array Edge} {g : Option (Nat × Bool)}
theorem k_slf {t e : TypeId} {x : Operand} {n : Nat} {k : IntKind} {xs : List Int} [hu : Und P t (.array n e)] [hs : Sz P e 1] (hx : ev T x = .s (.fptr n (cellsF [.ints k n xs]) 0 0) := by rfl) (hl : xs.length = n := by first | assumption | exact spl_len _ _ _ _ _ | simp [*]) : LOk P ⟨d, .slice t x none none none, ty, pos, af, g⟩ T H H (.s (.fzi k xs)) [] [] :=
  l_slf (l := 0) (h := n) (m := n) (xs := xs) hx rfl rfl rfl rfl hu.h hs.h (Nat.zero_le _) (Nat.le_refl _) (Nat.le_refl _) (by omega) (fun i hi => by
    have h := segAt_at (l := [Seg.ints k n xs]) (b := 0) (s := .ints k n xs) rfl i hi
    unfold cellsF
    rw [show 0 + 0 + i = 0 + i by omega, h]; rfl) hl (by rw [List.drop_zero, Nat.sub_zero, ← hl, List.take_length])
end
end Go.Bx
namespace Go.Bx
section
variable {P : Program} {T : Tm} {H : Heap} {d : Option Tmp} {ty : TypeId} {pos : String} {af : Array Edge} {g : Option (Nat × Bool)}
theorem a_loadf_aggI {t : TypeId} {x : Operand} {q base i n m : Nat} {kk : IntKind} {l : List Int} {segs : List Seg} (hx : ev T x = .s (.fptr q (cellsF segs) base i)) [ha : Ag P t true] [hz : Sz P t n] (hs : segAt segs base = some (.ints kk m l)) (hn : i + n ≤ m) (hq : base + i + n ≤ q) : LOk P ⟨d, .load t x, ty, pos, af, g⟩ T H H (.agg [.ints kk n ((l.drop i).take n)]) [] [] := l_loadf_agg hx hq (SubS.ints hs hn) ha.h hz.h
end
end Go.Bx
end
