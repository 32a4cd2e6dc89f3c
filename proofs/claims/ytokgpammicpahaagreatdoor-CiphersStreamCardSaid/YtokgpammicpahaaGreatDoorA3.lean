/- A part of the proofs of this claim: Bx17, Bx18, Bx19, Bx20, Bx21, Bx22, BShaS, BShaT, BRowS, BRowT, BShaS2, BMacS, BMacT, BAesS, BAesT, BAes1. No conditions. -/
import Derived.Test.YtokgpammicpahaaGreatDoorA2
import Derived.KernelRfl
import Derived.RangeFuncRecord
import Derived.RangeFuncCalls
import Derived.Test.YtokgpammicpahaaGreatDoorProg
set_option linter.unusedVariables false
set_option linter.unusedSimpArgs false
section
/- Kinds, the second part: writing, calls, slices, what grows; tests and loops. No program. -/
namespace Go.Bx
theorem spl_len (xs ys : List Int) (i n m : Nat) : (spl xs ys i n m).length = m := by simp [spl]
theorem app_0 {l : List Seg} : ([] : List Seg) ++ l = l := rfl
theorem app_s {s : Seg} {l m r : List Seg} (h : l ++ m = r) : (s :: l) ++ m = s :: r := by rw [← h]; rfl
theorem put_w {l sub : List Seg} {n : Nat} (h : dropS l n = some []) : putSegs l 0 n sub = some sub := by cases l <;> simp [putSegs, h]
theorem put_0 {l sub r t : List Seg} {n : Nat} (h : dropS l n = some r) (ht : sub ++ r = t) : putSegs l 0 n sub = some t := by cases l <;> simp [putSegs, h, ht]
theorem put_s {s : Seg} {l sub t : List Seg} {o n : Nat} (q : Nat) (h0 : Nat.beq o 0 = false) (hs : Nat.ble s.size o = true) (hz : Nat.beq s.size 0 = false) (hq : o - s.size = q) (h : putSegs l q n sub = some t) : putSegs (s :: l) o n sub = some (s :: t) := by
  cases o with
  | zero => cases h0
  | succ o => rw [putSegs, hs, hz, hq, h]; rfl
class Pl (P : Program) (t : TypeId) (places : outParam (Array (Nat × Nat))) : Prop where
  h : ∃ fields : Array Field, P.underlying t = some (.struct fields) ∧ ∀ w, (fields.mapM fun f => do pure (f.offset, ← sizeOf f.type) : Sem (Array (Nat × Nat))).run P w = .ok places w

theorem pc {T : Tm} {i : Nat} {x : Operand} {a : AV} {ps : List (Nat × Operand)} {l : List (Nat × AV)} (hx : ev T x = a := by first | exact (rfl : _ = AV.s _) | exact (rfl : _ = AV.agg _)) (hs : a.solid = true := by exact rfl) (k : PartL T ps l) : PartL T ((i, x) :: ps) ((i, a) :: l) := .cons hx hs k
def partsOf (T : Tm) (ps : List (Nat × Operand)) : List (Nat × AV) := ps.map fun p => (p.1, ev T p.2)
theorem partsOf_ok {T : Tm} : ∀ {ps : List (Nat × Operand)}, (partsOf T ps).all (fun p => p.2.solid) = true → PartL T ps (partsOf T ps)
  | [], _ => .nil
  | p :: r, h => by
    simp only [partsOf, List.map_cons, List.all_cons, Bool.and_eq_true] at h
    exact .cons rfl h.1 (partsOf_ok h.2)
class Zb (P : Program) (t : TypeId) (k : outParam IntKind) (n : outParam Nat) : Prop where
  h : ∃ z : Value, (∀ w, (zeroValue t).run P w = .ok z w) ∧ rowOk ((List.range n).map fun _ => .one (.int k 0)) z.cells = true
theorem aft_same {H H0 H1 : Heap} {σ : List Nat} (hm : muts σ H0 0 = []) (hd : H1.drop H0.length = []) : aftH H σ H0 H1 = H := by simp [aftH, hm, hd, setAll, renAll]
def capF (l : List SV) : Nat → SV := fun i => l.getD i .junk
theorem capF_ren (l : List SV) (f : Nat → Nat) : (fun i => (capF l i).ren f) = capF (l.map (SV.ren f)) := by
  funext i
  simp only [capF, List.getD_eq_getElem?_getD, List.getElem?_map]
  cases l[i]? <;> rfl
theorem clo_ren {fn n : Nat} {l l' : List SV} {f : Nat → Nat} (h : l.map (SV.ren f) = l') : AV.s (.clo fn n (capF l')) = (AV.s (.clo fn n (capF l))).ren f := by
  subst h
  show _ = AV.s (.clo fn n fun i => (capF l i).ren f)
  rw [capF_ren]
section rules
variable {P : Program} {T : Tm} {H : Heap} {d : Option Tmp} {ty : TypeId} {pos : String} {af : Array Edge} {g : Option (Nat × Bool)}
theorem a_build {t : TypeId} {places : Array (Nat × Nat)} {parts : Array (Nat × Operand)} {ps : List (Nat × Operand)} {l : List (Nat × AV)} {Z segs : List Seg} (hps : parts.toList = ps) (hl : PartL T ps l) [hp : Pl P t places] [hz : Zv P t Z] (hs : fillS (places[·]?) Z l = some segs) : LOk P ⟨d, .build t parts, ty, pos, af, g⟩ T H H (.agg segs) [] [] := let ⟨_, h1, h2⟩ := hz.h; let ⟨_, p1, p2⟩ := hp.h; l_build hps hl p1 h1 p2 h2 hs
theorem a_buildI {t e : TypeId} {n : Nat} {k : IntKind} {xs : List Int} {parts : Array (Nat × Operand)} {ps : List (Nat × Operand)} {l : List (Nat × AV)} {segs : List Seg} (hps : parts.toList = ps) (hl : PartL T ps l) [hu : Und P t (.array n e)] [hz : Zb P t k n] [he : Sz P e 1] (hs : fillS (fun i => some (i * 1, 1)) ((List.range n).map fun _ => .one (.int k 0)) l = some segs) (hi : intsOf k segs = some xs) (hn : xs.length = n) : LOk P ⟨d, .build t parts, ty, pos, af, g⟩ T H H (.agg [.ints k n xs]) [] [] := let ⟨_, h1, h2⟩ := hz.h; l_buildI hps hl hu.h h1 he.h h2 hs hi hn
theorem a_buildK {t e : TypeId} {n : Nat} {k : IntKind} (xs : List Int) {parts : Array (Nat × Operand)} [hu : Und P t (.array n e)] [hz : Zb P t k n] [he : Sz P e 1] (hl : (partsOf T parts.toList).all (fun p => p.2.solid) = true) (hs : (fillS (fun i => some (i * 1, 1)) ((List.range n).map fun _ => .one (.int k 0)) (partsOf T parts.toList)).bind (intsOf k) = some xs) (hn : xs.length = n) : LOk P ⟨d, .build t parts, ty, pos, af, g⟩ T H H (.agg [.ints k n xs]) [] [] := by
  obtain ⟨_, h1, h2⟩ := hz.h
  cases hq : fillS (fun i => some (i * 1, 1)) ((List.range n).map fun _ => .one (.int k 0)) (partsOf T parts.toList) with
  | none => rw [hq] at hs; cases hs
  | some segs => rw [hq] at hs; exact l_buildI rfl (partsOf_ok hl) hu.h h1 he.h h2 hq hs hn
theorem a_bslI {t e : TypeId} {n n0 : Nat} {k : IntKind} {parts : Array (Nat × Operand)} {ps : List (Nat × Operand)} {l : List (Nat × AV)} {segs : List Seg} {xs : List Int} (hps : parts.toList = ps) (hl : PartL T ps l) [hu : Und P t (.slice e)] [he : Sz P e 1] (hbig : n * 1 ≤ 16777216) [hz : Zi P e k] (hs : fillS (fun i => some (i * 1, 1)) ((List.range (n * 1)).map fun _ => .one (.int k 0)) l = some segs) (hZ1 : rowOk ((List.range (n * 1)).map fun _ => .one (.int k 0)) ((Array.range (n * 1)).map fun i => (Value.int k 0).cells[i % (Value.int k 0).cells.size]!) = true) (hi : intsOf k segs = some xs) (hxn : xs.length = n)
    (h0 : 0 < n * 1) (hn : H.length = n0) {H' : Heap} (hH : H ++ [some (Blk.mk true [.ints k n xs])] = H') : LOk P ⟨d, .buildSlice t n parts, ty, pos, af, g⟩ T H H' (.s (.slice n0 0 0 n n)) [] [] := l_bsl hps hl hu.h he.h hbig hz.h hZ1 hs h0 (fun _ _ h => rep_ints hi hxn h) hn hH
theorem a_app {x y : Operand} {t tx e rt : TypeId} {id len m size n0 : Nat} {u : SV} {segs sub segs' : List Seg} {inf : TypeInfo} {z : Value} {R : List Nat} {H' : Heap} (hx : ev T x = .s (.gro id size len)) (hy : ev T y = .s u) (hb : hget H id = some ⟨true, segs⟩) [hu : Und P t (.slice e)] [hi : Inf P e inf] (hsz : inf.size = size) (hz : inf.zero = some z) (hzs : z.cells.size = size) (hsrc : ASrc P tx size R H u m sub)
    (h1 : len * size ≤ sizeS segs) (hj : Joins segs (len * size) sub (m * size) segs') (hbig : (len + m) * inf.bytes ≤ 140737488355328) (hb1 : 0 < inf.bytes)
    (hRi : ∀ i ∈ R, i < H.length) (hn : H.length = n0) (hH : H.set id none ++ [some (Blk.mk true segs')] = H') :
    LOk P ⟨d, .call ⟨.builtin .append, #[x, y], #[t, tx]⟩, rt, pos, af, g⟩ T H H' (.s (.gro n0 size (len + m))) (id :: R) [id] := l_app hx hy hb hsrc hu.h hi.h hsz hz hzs h1 hj hbig hb1 hRi hn hH
end rules

theorem cv {R : List Nat} {H : Heap} {x y : AV} (h : AConv R H x y := by first | exact .eq rfl | exact conv_nil | exact conv_sl rfl rfl rfl (by omega) (by omega) (by first | assumption | omega | simp [*]) rfl | exact conv_gro rfl rfl rfl (by omega) (by first | assumption | omega | simp) rfl) : AConv R H x y := h
section kinds
variable {P : Program} {T : Tm} {H : Heap} {d : Option Tmp} {ty : TypeId} {pos : String} {af : Array Edge} {g : Option (Nat × Bool)} {v : AV} {H' : Heap} {F M : List Nat}
theorem k_st {t : TypeId} {x y : Operand} (h : LOk P ⟨d, .store t x y, ty, pos, af, g⟩ T H H' v F M := by first
    | exact a_store_one rfl rfl SV.noConfusion rfl rfl (hset_seg (by first | exact sset_0 | exact sset_s _ rfl rfl sset_0 | exact sset_s _ rfl rfl (sset_s _ rfl rfl sset_0) | exact sset_s _ rfl rfl (sset_s _ rfl rfl (sset_s _ rfl rfl sset_0)) | exact sset_s _ rfl rfl (sset_s _ rfl rfl (sset_s _ rfl rfl (sset_s _ rfl rfl sset_0))) | exact sset_s _ rfl rfl (sset_s _ rfl rfl (sset_s _ rfl rfl (sset_s _ rfl rfl (sset_s _ rfl rfl sset_0)))) | exact sset_s _ rfl rfl (sset_s _ rfl rfl (sset_s _ rfl rfl (sset_s _ rfl rfl (sset_s _ rfl rfl (sset_s _ rfl rfl sset_0))))) | exact sset_s _ rfl rfl (sset_s _ rfl rfl (sset_s _ rfl rfl (sset_s _ rfl rfl (sset_s _ rfl rfl (sset_s _ rfl rfl (sset_s _ rfl rfl sset_0)))))) | exact sset_s _ rfl rfl (sset_s _ rfl rfl (sset_s _ rfl rfl (sset_s _ rfl rfl (sset_s _ rfl rfl (sset_s _ rfl rfl (sset_s _ rfl rfl (sset_s _ rfl rfl sset_0)))))))) (by repeat (first | exact hset_0 | apply hset_s)))
    | exact a_store_nat rfl rfl rfl rfl (by omega) (by first | assumption | omega | exact spl_len _ _ _ _ _ | simp [*, spl_len]) (hset_seg (by first | exact sset_0 | exact sset_s _ rfl rfl sset_0 | exact sset_s _ rfl rfl (sset_s _ rfl rfl sset_0) | exact sset_s _ rfl rfl (sset_s _ rfl rfl (sset_s _ rfl rfl sset_0)) | exact sset_s _ rfl rfl (sset_s _ rfl rfl (sset_s _ rfl rfl (sset_s _ rfl rfl sset_0))) | exact sset_s _ rfl rfl (sset_s _ rfl rfl (sset_s _ rfl rfl (sset_s _ rfl rfl (sset_s _ rfl rfl sset_0)))) | exact sset_s _ rfl rfl (sset_s _ rfl rfl (sset_s _ rfl rfl (sset_s _ rfl rfl (sset_s _ rfl rfl (sset_s _ rfl rfl sset_0))))) | exact sset_s _ rfl rfl (sset_s _ rfl rfl (sset_s _ rfl rfl (sset_s _ rfl rfl (sset_s _ rfl rfl (sset_s _ rfl rfl (sset_s _ rfl rfl sset_0)))))) | exact sset_s _ rfl rfl (sset_s _ rfl rfl (sset_s _ rfl rfl (sset_s _ rfl rfl (sset_s _ rfl rfl (sset_s _ rfl rfl (sset_s _ rfl rfl (sset_s _ rfl rfl sset_0)))))))) (by repeat (first | exact hset_0 | apply hset_s)))
    | exact a_store_int rfl rfl rfl rfl (by omega) (by first | assumption | omega | exact spl_len _ _ _ _ _ | simp [*, spl_len]) (hset_seg (by first | exact sset_0 | exact sset_s _ rfl rfl sset_0 | exact sset_s _ rfl rfl (sset_s _ rfl rfl sset_0) | exact sset_s _ rfl rfl (sset_s _ rfl rfl (sset_s _ rfl rfl sset_0)) | exact sset_s _ rfl rfl (sset_s _ rfl rfl (sset_s _ rfl rfl (sset_s _ rfl rfl sset_0))) | exact sset_s _ rfl rfl (sset_s _ rfl rfl (sset_s _ rfl rfl (sset_s _ rfl rfl (sset_s _ rfl rfl sset_0)))) | exact sset_s _ rfl rfl (sset_s _ rfl rfl (sset_s _ rfl rfl (sset_s _ rfl rfl (sset_s _ rfl rfl (sset_s _ rfl rfl sset_0))))) | exact sset_s _ rfl rfl (sset_s _ rfl rfl (sset_s _ rfl rfl (sset_s _ rfl rfl (sset_s _ rfl rfl (sset_s _ rfl rfl (sset_s _ rfl rfl sset_0)))))) | exact sset_s _ rfl rfl (sset_s _ rfl rfl (sset_s _ rfl rfl (sset_s _ rfl rfl (sset_s _ rfl rfl (sset_s _ rfl rfl (sset_s _ rfl rfl (sset_s _ rfl rfl sset_0)))))))) (by repeat (first | exact hset_0 | apply hset_s)))
    | exact a_store_agg rfl rfl rfl (by first | exact put_w (by exact rfl) | exact put_0 (by exact rfl) (by repeat (first | exact app_0 | apply app_s)) | exact put_s _ rfl rfl rfl rfl (put_0 (by exact rfl) (by repeat (first | exact app_0 | apply app_s))) | exact put_s _ rfl rfl rfl rfl (put_s _ rfl rfl rfl rfl (put_0 (by exact rfl) (by repeat (first | exact app_0 | apply app_s)))) | exact put_s _ rfl rfl rfl rfl (put_s _ rfl rfl rfl rfl (put_s _ rfl rfl rfl rfl (put_0 (by exact rfl) (by repeat (first | exact app_0 | apply app_s))))) | exact put_s _ rfl rfl rfl rfl (put_s _ rfl rfl rfl rfl (put_s _ rfl rfl rfl rfl (put_s _ rfl rfl rfl rfl (put_0 (by exact rfl) (by repeat (first | exact app_0 | apply app_s)))))) | exact put_s _ rfl rfl rfl rfl (put_s _ rfl rfl rfl rfl (put_s _ rfl rfl rfl rfl (put_s _ rfl rfl rfl rfl (put_s _ rfl rfl rfl rfl (put_0 (by exact rfl) (by repeat (first | exact app_0 | apply app_s))))))) | exact put_s _ rfl rfl rfl rfl (put_s _ rfl rfl rfl rfl (put_s _ rfl rfl rfl rfl (put_s _ rfl rfl rfl rfl (put_s _ rfl rfl rfl rfl (put_s _ rfl rfl rfl rfl (put_0 (by exact rfl) (by repeat (first | exact app_0 | apply app_s))))))))) (by exact Nat.le_of_ble_eq_true rfl) (by exact rfl) (by repeat (first | exact hset_0 | apply hset_s))) : LOk P ⟨d, .store t x y, ty, pos, af, g⟩ T H H' v F M := h
theorem k_bd {t : TypeId} {parts : Array (Nat × Operand)} (h : LOk P ⟨d, .build t parts, ty, pos, af, g⟩ T H H v [] [] := by first
    | exact a_build rfl (by first | exact .nil | exact (pc (k := .nil)) | exact (pc (k := (pc (k := .nil)))) | exact (pc (k := (pc (k := (pc (k := .nil)))))) | exact (pc (k := (pc (k := (pc (k := (pc (k := .nil)))))))) | exact (pc (k := (pc (k := (pc (k := (pc (k := (pc (k := .nil)))))))))) | exact (pc (k := (pc (k := (pc (k := (pc (k := (pc (k := (pc (k := .nil)))))))))))) | exact (pc (k := (pc (k := (pc (k := (pc (k := (pc (k := (pc (k := (pc (k := .nil)))))))))))))) | exact (pc (k := (pc (k := (pc (k := (pc (k := (pc (k := (pc (k := (pc (k := (pc (k := .nil)))))))))))))))) | exact (pc (k := (pc (k := (pc (k := (pc (k := (pc (k := (pc (k := (pc (k := (pc (k := (pc (k := .nil)))))))))))))))))) | exact (pc (k := (pc (k := (pc (k := (pc (k := (pc (k := (pc (k := (pc (k := (pc (k := (pc (k := (pc (k := .nil)))))))))))))))))))) | exact (pc (k := (pc (k := (pc (k := (pc (k := (pc (k := (pc (k := (pc (k := (pc (k := (pc (k := (pc (k := (pc (k := .nil)))))))))))))))))))))) | exact (pc (k := (pc (k := (pc (k := (pc (k := (pc (k := (pc (k := (pc (k := (pc (k := (pc (k := (pc (k := (pc (k := (pc (k := .nil))))))))))))))))))))))))) (by exact rfl)
    | exact a_buildI rfl (by first | exact .nil | exact (pc (k := .nil)) | exact (pc (k := (pc (k := .nil)))) | exact (pc (k := (pc (k := (pc (k := .nil)))))) | exact (pc (k := (pc (k := (pc (k := (pc (k := .nil)))))))) | exact (pc (k := (pc (k := (pc (k := (pc (k := (pc (k := .nil)))))))))) | exact (pc (k := (pc (k := (pc (k := (pc (k := (pc (k := (pc (k := .nil)))))))))))) | exact (pc (k := (pc (k := (pc (k := (pc (k := (pc (k := (pc (k := (pc (k := .nil)))))))))))))) | exact (pc (k := (pc (k := (pc (k := (pc (k := (pc (k := (pc (k := (pc (k := (pc (k := .nil)))))))))))))))) | exact (pc (k := (pc (k := (pc (k := (pc (k := (pc (k := (pc (k := (pc (k := (pc (k := (pc (k := .nil)))))))))))))))))) | exact (pc (k := (pc (k := (pc (k := (pc (k := (pc (k := (pc (k := (pc (k := (pc (k := (pc (k := (pc (k := .nil)))))))))))))))))))) | exact (pc (k := (pc (k := (pc (k := (pc (k := (pc (k := (pc (k := (pc (k := (pc (k := (pc (k := (pc (k := (pc (k := .nil)))))))))))))))))))))) | exact (pc (k := (pc (k := (pc (k := (pc (k := (pc (k := (pc (k := (pc (k := (pc (k := (pc (k := (pc (k := (pc (k := (pc (k := .nil))))))))))))))))))))))))) (by exact rfl) (by exact rfl) (by exact rfl)) : LOk P ⟨d, .build t parts, ty, pos, af, g⟩ T H H v [] [] := h
theorem k_sl {t : TypeId} {x : Operand} {lo hi mx : Option Operand} (h : LOk P ⟨d, .slice t x lo hi mx, ty, pos, af, g⟩ T H H v F M := by first
    | exact a_sl rfl bnd_none bnd_none bnd_none rfl (by omega) (by omega) (by omega) (by omega)
    | exact a_sla rfl bnd_none bnd_none bnd_none rfl (by omega) (by omega) (by omega) (by omega)
    | exact a_sli rfl bnd_none bnd_none (by omega) (by omega)
    | exact a_sl rfl (bnd_some rfl) bnd_none bnd_none rfl (by omega) (by omega) (by omega) (by omega)
    | exact a_sla rfl (bnd_some rfl) bnd_none bnd_none rfl (by omega) (by omega) (by omega) (by omega)
    | exact a_sli rfl (bnd_some rfl) bnd_none (by omega) (by omega)
    | exact a_sl rfl bnd_none (bnd_some rfl) bnd_none rfl (by omega) (by omega) (by omega) (by omega)
    | exact a_sla rfl bnd_none (bnd_some rfl) bnd_none rfl (by omega) (by omega) (by omega) (by omega)
    | exact a_sli rfl bnd_none (bnd_some rfl) (by omega) (by omega)
    | exact a_sl rfl (bnd_some rfl) (bnd_some rfl) bnd_none rfl (by omega) (by omega) (by omega) (by omega)
    | exact a_sla rfl (bnd_some rfl) (bnd_some rfl) bnd_none rfl (by omega) (by omega) (by omega) (by omega)
    | exact a_sli rfl (bnd_some rfl) (bnd_some rfl) (by omega) (by omega)
    | exact a_sl rfl bnd_none (bnd_some rfl) (bnd_some rfl) rfl (by omega) (by omega) (by omega) (by omega)
    | exact a_sla rfl bnd_none (bnd_some rfl) (bnd_some rfl) rfl (by omega) (by omega) (by omega) (by omega)
    | exact a_slim rfl bnd_none (bnd_some rfl) rfl rfl (by omega) (by omega) (by omega)
    | exact a_sl rfl (bnd_some rfl) (bnd_some rfl) (bnd_some rfl) rfl (by omega) (by omega) (by omega) (by omega)
    | exact a_sla rfl (bnd_some rfl) (bnd_some rfl) (bnd_some rfl) rfl (by omega) (by omega) (by omega) (by omega)
    | exact a_slim rfl (bnd_some rfl) (bnd_some rfl) rfl rfl (by omega) (by omega) (by omega)) : LOk P ⟨d, .slice t x lo hi mx, ty, pos, af, g⟩ T H H v F M := h
theorem k_call {f : FuncId} {xs : Array Operand} {l : List Operand} {at_ : Array TypeId} {args0 : List AV} {H0 H1 H' : Heap} {v0 v : AV} {R : List Nat} (σ : List Nat) [hf : Clb P f] (hl : xs.toList = l := by rfl)
    (hargs : ConvL T H R l (args0.map (AV.ren (nmsF σ H.length))) := by first | exact .nil | exact .cons rfl cv .nil | exact .cons rfl cv (.cons rfl cv .nil) | exact .cons rfl cv (.cons rfl cv (.cons rfl cv .nil)) | exact .cons rfl cv (.cons rfl cv (.cons rfl cv (.cons rfl cv .nil))) | exact .cons rfl cv (.cons rfl cv (.cons rfl cv (.cons rfl cv (.cons rfl cv .nil)))) | exact .cons rfl cv (.cons rfl cv (.cons rfl cv (.cons rfl cv (.cons rfl cv (.cons rfl cv .nil))))) | exact .cons rfl cv (.cons rfl cv (.cons rfl cv (.cons rfl cv (.cons rfl cv (.cons rfl cv (.cons rfl cv .nil)))))) | exact .cons rfl cv (.cons rfl cv (.cons rfl cv (.cons rfl cv (.cons rfl cv (.cons rfl cv (.cons rfl cv (.cons rfl cv .nil)))))))) (con : Con P f args0 H0 v0 H1) (hok : callOk σ R args0 H0 H1 v0 H.length = true := by rfl) (hσ : AllIn H (nmsF σ H.length) σ 0 H0 := by repeat (first | exact trivial | refine ⟨rfl, ?_⟩)) (hR : frozenIn H R = true := by rfl) (hv : v0.ren (nmsF σ H.length) = v := by first | exact AV.ren_self rfl | exact (clo_ren rfl).symm | exact (rfl : _ = AV.s _) | exact (rfl : _ = AV.agg _) | exact (rfl : _ = AV.tup _)) (hH : aftH H σ H0 H1 = H' := by first | exact aft_same rfl rfl | rfl) :
    LOk P ⟨d, .call ⟨.value (.func f), xs, at_⟩, ty, pos, af, g⟩ T H H' v (σ ++ R) ((muts σ H0 0).map (·.1)) := l_call σ hf.h con hl hargs hok hσ hR hv hH
end kinds

section code
variable {E : Env} {P : Program} {T : Tm} {H : Heap} {Q : Exit → Tm → Heap → Prop}
theorem g_reg {n : Nat} (hP : E.P = P) (hn : E.n = n) {id : Nat} {ops : Array Oper} {l : List Oper} (h : SK P ops l T H (fun _ => True) (Q .normal)) (hok : regionOk n ops = true := by kernel_rfl) (hl : ops.toList = l := by rfl) : Wp E (.region id ops false) T H Q := by subst hP; subst hn; exact c_reg hok hl h
theorem g_any {n : Nat} (hP : E.P = P) (hn : E.n = n) [hm : Mix P] {id : Nat} {ops : Array Oper} {l : List Oper} (h : SK P ops l T H (fun fs => ordOk ops H.length fs = true) (Q .normal)) (hok : regionOk n ops = true := by kernel_rfl) (hl : ops.toList = l := by rfl) : Wp E (.region id ops true) T H Q := by subst hP; subst hn; exact c_any hm.h hok hl h
theorem w_t {t : Nat} {x y : Code} {b : Bool} (hc : look T t = .s (.bool b)) (hb : b = true) (h : Wp E x T H Q) : Wp E (.cond (.tmp t) x y) T H Q := w_cond hc (fun _ => h) (fun e => by rw [hb] at e; cases e)
theorem w_f {t : Nat} {x y : Code} {b : Bool} (hc : look T t = .s (.bool b)) (hb : b = false) (h : Wp E y T H Q) : Wp E (.cond (.tmp t) x y) T H Q := w_cond hc (fun e => by rw [hb] at e; cases e) (fun _ => h)
theorem wk {T' : Tm} {H' : Heap} {m : Nat} (hN : E.nE = m) (π : List Nat) (hT : AllLook T π T' := by repeat (first | exact trivial | refine ⟨rfl, ?_⟩ | refine ⟨clo_ren rfl, ?_⟩)) (hH : AllGet H π 0 H' := by repeat (first | exact trivial | refine ⟨rfl, ?_⟩)) (hk : knownAll T' H' = true := by rfl) (hd : distinct ((List.range H'.length).map (rn π)) = true := by rfl) (hE : m ≤ H'.length ∧ ((List.range m).all fun k => Nat.beq (rn π k) k) = true := by exact ⟨Nat.le_of_ble_eq_true rfl, rfl⟩) : Weak E T H T' H' := by subst hN; exact weak π hT hH hk hd hE
end code
end Go.Bx
namespace Go.Bx
section code
variable {E : Env} {T : Tm} {H : Heap} {Q : Exit → Tm → Heap → Prop}
theorem w_T {t : Nat} {x y : Code} {b : Bool} (hc : look T t = .s (.bool b)) (h : Wp E x T H Q) (hb : b = true := by first | rfl | assumption | exact decide_eq_true (by omega) | (simp only [Bool.or_eq_true, Bool.and_eq_true, Bool.not_eq_true', decide_eq_true_eq, decide_eq_false_iff_not]; omega)) : Wp E (.cond (.tmp t) x y) T H Q := w_t hc hb h
theorem w_F {t : Nat} {x y : Code} {b : Bool} (hc : look T t = .s (.bool b)) (h : Wp E y T H Q) (hb : b = false := by first | rfl | assumption | exact decide_eq_false (by omega) | (simp only [Bool.or_eq_false_iff, Bool.and_eq_false_imp, Bool.not_eq_false', decide_eq_true_eq, decide_eq_false_iff_not]; omega)) : Wp E (.cond (.tmp t) x y) T H Q := w_f hc hb h
theorem w_if {t : Nat} {x y : Code} {p : Prop} [Decidable p] (hc : look T t = .s (.bool (decide p))) (h1 : p → Wp E x T H Q) (h2 : ¬ p → Wp E y T H Q) : Wp E (.cond (.tmp t) x y) T H Q := w_cond hc (fun h => h1 (of_decide_eq_true h)) (fun h => h2 (of_decide_eq_false h))
end code
end Go.Bx
end

section
/- Contracts whose results are read ahead of what is told at the end. No program. -/
namespace Go.Bx
theorem hrep_mark {W : Nat → Prop} {ρ : Rho} {h : Nat → Option Blk} {w2 : World} {D : Nat} (h1 : HRep W ρ h w2) (hd : w2.heap[D]? = some (.deferred (some []))) : HRep W ρ h (w2.putObj D (.deferred none)) := by
  have ho : ∀ k, k ≠ D → (w2.putObj D (.deferred none)).heap[k]? = w2.heap[k]? := fun k hk => World.putObj_heap_other hk
  refine ⟨fun id b o e => by simpa using h1.lt id b o e, fun id b o k e1 e2 => ?_, h1.apart, fun b cs e => ?_, fun b n e => ?_⟩
  · have hr := h1.rep id b o k e1 e2
    refine ⟨hr.1.world (ho b ?_), hr.2⟩
    intro e
    subst e
    obtain ⟨cells, t, fr, g1, _⟩ := hr.1
    rw [hd] at g1; cases g1
  · obtain ⟨q1, t, fr, q2⟩ := h1.fz b cs e
    refine ⟨q1, t, fr, ?_⟩
    rw [ho b ?_]; exact q2
    intro e'
    subst e'
    rw [hd] at q2; cases q2
  · obtain ⟨cs, t, fr, q1, q2⟩ := h1.sz b n e
    refine ⟨cs, t, fr, ?_, q2⟩
    rw [ho b ?_]; exact q1
    intro e'
    subst e'
    rw [hd] at q1; cases q1
theorem fr_mark {W : Nat → Prop} {w w2 : World} {D : Nat} (h2 : Fr W w w2) (hD : w.heap.size ≤ D) : Fr W w (w2.putObj D (.deferred none)) := by
  have ho : ∀ k, k ≠ D → (w2.putObj D (.deferred none)).heap[k]? = w2.heap[k]? := fun k hk => World.putObj_heap_other hk
  refine ⟨h2.os, h2.tape, h2.output, by simpa using h2.size, fun k hk hn => ?_, fun k o hk hc => ?_, fun k cs t fr hk => ?_⟩
  · rw [ho k (by omega)]; exact h2.block k hk hn
  · have : k < w.heap.size := (Array.getElem?_eq_some_iff.1 hk).1
    rw [ho k (by omega)]; exact h2.others k o hk hc
  · have : k < w.heap.size := (Array.getElem?_eq_some_iff.1 hk).1
    rw [ho k (by omega)]; exact h2.sizes k cs t fr hk
def DoneD (E : Env) (fn : Func) (v : AV) (H' : Heap) : Exit → Tm → Heap → Prop := fun e T H => (e = .ret ∨ e = .normal) ∧ ∃ t v0, t < E.n ∧ Ret E.P fn T H v0 ∧ Weak E ((t, v0) :: T) H [(t, v)] H'

theorem con_inF {P : Program} {f : FuncId} {fn : Func} {c : Code} {args : List AV} {H H' : Heap} {v : AV} (n : Nat) (hf : P.funcs[f]? = some fn) (hb : fn.body = some c) (hn : fn.ntmps = n) {m : Nat} (hm : H.length = m)
    (h : ∀ E : Env, E.P = P → E.n = n → E.nE = m → E.flat = false → Wp E c (argT 0 args) H (DoneD E fn v H')) (hl : args.length ≤ n := by exact Nat.le_of_ble_eq_true rfl) (hlen : H.length ≤ H'.length := by exact Nat.le_of_ble_eq_true rfl) : Con P f args H v H' := by
  subst hn; subst hm
  refine ⟨hlen, fun W ρ vals w hH hdom hW hargs => ?_⟩
  let E : Env := ⟨P, W, w, ρ, fn.ntmps, H.length, hW, hdom, [], false⟩
  refine (callsIn_wide (n := 0)).1 (callsIn_of_wp_marks hf hb trivial (wpIn_wide.2 (wp_mono (h E rfl rfl rfl rfl _ w ⟨ρ, W, ⟨.refl _, hH, ?_, DefT.nil _ _ _ _, .refl _ _, fun _ h => h, hW, fun _ _ h => .inl h, fun _ _ h => .inl h⟩, hdom, fun t => ?_, Nat.le_refl _⟩) ?_)))
  · have := hargs.1
    show _ = fn.ntmps
    simp; omega
  · rw [look_argT, if_pos (Nat.zero_le _), Nat.sub_zero]
    cases hx : args[t]? with
    | none => trivial
    | some x =>
      have hlt : t < vals.size := by
        rw [hargs.1]
        exact (List.getElem?_eq_some_iff.1 hx).1
      have := hargs.2 t x hx
      simp only [Option.getD_some]
      simp only [Array.getD_eq_getD_getElem?] at this ⊢
      rw [Array.getElem?_append_left hlt]
      exact this
  · rintro e a' w' ⟨T, H1, ⟨he, t, v0, ht, hret, hwk⟩, ρ0, W0, p0, hno0, hT0, hE0⟩
    have hl : LeavesInM Fence.wide 0 P fn a'.tmps (fun e w' => ∃ v' ρ' W', e = .returned v' ∧ Nx H.length H'.length ρ ρ' W W' (hget H') w w' ∧ v.rep ρ' v') a'.defers .returning w' := by
      refine leaves_marks (w0 := w) (Φ := fun w2 => HRep W0 ρ0 (hget H1) w2 ∧ Fr W w w2 ∧ (∀ b, w2.heap.size ≤ b → W0 b) ∧ w2.heap.size = w'.heap.size) (fun w2 D ⟨h1, h2, h3, h4⟩ hD hd => ⟨hrep_mark h1 hd, fr_mark h2 hD, fun b hb => h3 b (by simpa using hb), by simpa using h4⟩) (fun w2 ⟨h1, h2, h3, h4⟩ => ?_) a'.defers w' (DefT.flat0 p0.defs) ⟨p0.rep, p0.fr, p0.fresh, rfl⟩
      obtain ⟨v', hv, hrv⟩ := hret W0 ρ0 a' w2 h1 hT0
      -- the world behind the marks, the value in a slot
      have hrep2 : Rep E ((t, v0) :: T) H1 ({ a' with defers := [] }.put (some t) v') w2 := by
        refine ⟨ρ0, W0, ⟨p0.le, h1, (put_size _ _ _).trans p0.size, ?_, h2, p0.sub, h3, p0.fzn, p0.old⟩, hno0, ?_, hE0⟩
        · rw [put_defers]; exact DefT.nil _ _ _ []
        · exact TRep.put (d := some t) (a := { a' with defers := [] }) hT0 (fun i hi => by cases hi; show t < a'.tmps.size; rw [p0.size]; exact ht) hrv
      obtain ⟨ρ', W', p, hno, hT, _⟩ := hwk _ w2 hrep2
      refine ⟨v', hv, v', ρ', W', rfl, ⟨p.le, fun id x e => ?_, p.rep, p.fr, p.sub, p.fresh, p.fzn⟩, ?_⟩
      · rcases p.old id x e with h4 | h4
        · exact .inl h4
        · refine .inr ⟨h4.1, ?_, h4.2⟩
          rcases Nat.lt_or_ge id H'.length with h5 | h5
          · exact h5
          · rw [hno id h5] at e; cases e
      · have := hT t
        rw [look_cons, if_pos rfl] at this
        have hg : ({ a' with defers := [] }.put (some t) v').tmps.getD t undef = v' := by
          have hs : t < a'.tmps.size := by rw [p0.size]; exact ht
          simp [Act.put, hs]
        rwa [hg] at this
    rcases he with rfl | rfl
    · exact hl
    · exact hl
section
variable {E : Env} {P : Program} {T : Tm} {H : Heap}
theorem con_in {P : Program} {f : FuncId} {fn : Func} {c : Code} {args : List AV} {H H' : Heap} {v : AV} (n : Nat) (hf : P.funcs[f]? = some fn) (hb : fn.body = some c) (hn : fn.ntmps = n) {m : Nat} (hm : H.length = m)
    (h : ∀ E : Env, E.P = P → E.n = n → E.nE = m → Wp E c (argT 0 args) H (DoneD E fn v H')) (hl : args.length ≤ n := by exact Nat.le_of_ble_eq_true rfl) (hlen : H.length ≤ H'.length := by exact Nat.le_of_ble_eq_true rfl) : Con P f args H v H' := con_inF n hf hb hn hm (fun E h1 h2 h3 _ => h E h1 h2 h3) hl hlen
theorem d_ret {fn : Func} {v v0 : AV} {H' : Heap} {e : Exit} {m n : Nat} (hP : E.P = P) (hn : E.n = n) (hN : E.nE = m) (π : List Nat) (hr : Ret P fn T H v0) (h0 : Nat.blt 0 n = true := by rfl) (hT : AllLook ((0, v0) :: T) π [(0, v)] := by first | exact ⟨rfl, trivial⟩ | exact ⟨clo_ren rfl, trivial⟩) (hH : AllGet H π 0 H' := by repeat (first | exact trivial | refine ⟨rfl, ?_⟩)) (hk : knownAll [(0, v)] H' = true := by rfl) (hd : distinct ((List.range H'.length).map (rn π)) = true := by rfl) (hE : m ≤ H'.length ∧ ((List.range m).all fun k => Nat.beq (rn π k) k) = true := by exact ⟨Nat.le_of_ble_eq_true rfl, rfl⟩) (he : e = .ret ∨ e = .normal := by first | exact .inl rfl | exact .inr rfl) : DoneD E fn v H' e T H := by
  subst hP; subst hN; subst hn; exact ⟨he, 0, v0, Nat.blt_eq.mp h0, hr, weak π hT hH hk hd hE⟩
theorem r_tmp {fn : Func} {t : Nat} {v : SV} (hr : fn.results = #[.tmp t]) (hv : look T t = .s v := by rfl) : Ret P fn T H (.s v) := ret_tmp hr hv
theorem r_tmpa {fn : Func} {t : Nat} {v : List Seg} (hr : fn.results = #[.tmp t]) (hv : look T t = .agg v := by rfl) : Ret P fn T H (.agg v) := ret_tmp hr hv
theorem r_cell {fn : Func} {p id n : Nat} {ty : TypeId} {k : Blk} {segs : List Seg} (hr : fn.results = #[.cell p ty]) [ha : Ag P ty true] [hz : Sz P ty n] (hp : look T p = .s (.ptr id 0 0) := by rfl) (hb : hget H id = some k := by rfl) (hs : SubS k.segs 0 n segs := by first | exact .whole rfl | exact .part rfl rfl) : Ret P fn T H (.agg segs) := ret_cell hr hp hb hs ha.h hz.h
theorem r_cella {p id n : Nat} {ty : TypeId} {k : Blk} {segs : List Seg} [ha : Ag P ty true] [hz : Sz P ty n] (hp : look T p = .s (.ptr id 0 0) := by rfl) (hb : hget H id = some k := by rfl) (hs : SubS k.segs 0 n segs := by first | exact .whole rfl | exact .part rfl rfl) : RetI P T H (.cell p ty) (.agg segs) := ri_cella hp hb hs ha.h hz.h
end
end Go.Bx
end

section
/- What an operation makes, and nobody writes: a value. Integers copied, appended. No program. -/
namespace Go.Bx
section
variable {P : Program} {T : Tm} {H : Heap}
theorem lok_val {o : Oper} {F M : List Nat} {segs : List Seg} {y x : SV} (h : LOk P o T H (H ++ [some ⟨true, segs⟩]) (.s y) F M) (hc : AConv [H.length] (H ++ [some ⟨false, segs⟩]) (.s y) (.s x)) : LOk P o T H (H ++ [none]) (.s x) F M := by
  refine ⟨by simp, fun j hj hn => ?_, h.sub, h.lt, ?_⟩
  · have := h.keep j hj hn
    rw [hget_app, if_pos hj] at this ⊢
  · have hrun := h.run
    rw [msk_app] at hrun ⊢
    generalize hH0 : msk F H.length H = H0 at *
    have hl0 : H0.length = H.length := by rw [← hH0, msk_len]
    intro W ρ a w hH hn hW ho next Q hq
    refine hrun W ρ a w hH (fun i a1 a2 => hn i a1 (by simpa using a2)) hW ho next Q ?_
    rintro v' w' ⟨ρ', W', k, hv⟩
    have hb : hget (H0 ++ [some ⟨true, segs⟩]) H0.length = some ⟨true, segs⟩ := by rw [hget_app, if_neg (by omega)]; simp [hget]
    obtain ⟨ρ2, W2, h1, h2, h3, h4, h5, h6⟩ := hrep_frz k.rep hb k.fresh
    have hset : (H0 ++ [some (⟨true, segs⟩ : Blk)]).set H0.length (some ⟨false, segs⟩) = H0 ++ [some ⟨false, segs⟩] := by simp
    rw [hset] at h3
    refine hq v' w' ⟨ρ2, W2, ?_, ?_⟩
    · refine ⟨k.le.trans h1, fun i x e => ?_, h3.sub fun j b hj => ?_, k.fr, fun b hb => k.sub b (h4 b hb), h5, fun b c e => ?_⟩
      · rw [h2] at e; simpa using k.old i x e
      · rw [hget_app] at hj ⊢
        split at hj
        · rename_i h7; rw [if_pos h7]; exact hj
        · have h8 : ∀ k, hget ([none] : Heap) k = none := fun k => by unfold hget; cases k <;> simp
          rw [h8] at hj; cases hj
      · rcases h6 b c e with h7 | h7
        · exact k.fzn b c h7
        · exact .inr (k.sub b h7)
    · refine hc _ W2 ρ2 w' v' (fun i hi => ?_) h3 (AV.rep_le h1 hv)
      simp only [List.mem_singleton] at hi
      subst hi
      rw [hget_app, hget_app, if_neg (by omega), if_neg (by omega), hl0]
end
end Go.Bx
namespace Go.Bx
section
variable {P : Program} {T : Tm} {H : Heap} {d : Option Tmp} {ty : TypeId} {pos : String} {af : Array Edge} {g : Option (Nat × Bool)}
theorem lok_val' {o : Oper} {F M : List Nat} {segs : List Seg} {y x : SV} {H' : Heap} (h : LOk P o T H (H ++ [some ⟨true, segs⟩]) (.s y) F M) (hc : AConv [H.length] (H ++ [some ⟨false, segs⟩]) (.s y) (.s x)) (hH : H ++ [none] = H') : LOk P o T H H' (.s x) F M := hH ▸ lok_val h hc
theorem hget_last (H : Heap) (b : Blk) : hget (H ++ [some b]) H.length = some b := by rw [hget_app, if_neg (by omega)]; simp [hget]
theorem a_bslF {t e : TypeId} {n : Nat} {k : IntKind} {parts : Array (Nat × Operand)} {ps : List (Nat × Operand)} {l : List (Nat × AV)} {segs : List Seg} {xs : List Int} (hps : parts.toList = ps) (hl : PartL T ps l) [hu : Und P t (.slice e)] [he : Sz P e 1] (hbig : n * 1 ≤ 16777216) [hz : Zi P e k] (hs : fillS (fun i => some (i * 1, 1)) ((List.range (n * 1)).map fun _ => .one (.int k 0)) l = some segs) (hZ1 : rowOk ((List.range (n * 1)).map fun _ => .one (.int k 0)) ((Array.range (n * 1)).map fun i => (Value.int k 0).cells[i % (Value.int k 0).cells.size]!) = true) (hi : intsOf k segs = some xs) (hxn : xs.length = n)
    (h0 : 0 < n * 1) {H' : Heap} (hH : H ++ [none] = H') : LOk P ⟨d, .buildSlice t n parts, ty, pos, af, g⟩ T H H' (.s (.fzi k xs)) [] [] :=
  lok_val' (a_bslI hps hl hbig hs hZ1 hi hxn h0 rfl rfl) (conv_sl (k := ⟨false, [.ints k n xs]⟩) (n := n) (hget_last _ _) rfl rfl (by omega) (Nat.le_refl _) hxn (by rw [List.drop_zero, ← hxn, List.take_length])) hH
class Zn (P : Program) (t : TypeId) : Prop where
  h : ∀ w, (zeroValue t).run P w = .ok (.slice none 0 0) w
end
section kinds
variable {P : Program} {T : Tm} {H : Heap} {d : Option Tmp} {ty : TypeId} {pos : String} {af : Array Edge} {g : Option (Nat × Bool)} {v : AV} {H' : Heap} {F M : List Nat}
theorem k_bsf {t : TypeId} {n : Nat} {parts : Array (Nat × Operand)} (h : LOk P ⟨d, .buildSlice t n parts, ty, pos, af, g⟩ T H H' v [] [] := by
    first
    | exact a_bslF rfl (by first | exact .nil | exact (pc (k := .nil)) | exact (pc (k := (pc (k := .nil)))) | exact (pc (k := (pc (k := (pc (k := .nil)))))) | exact (pc (k := (pc (k := (pc (k := (pc (k := .nil)))))))) | exact (pc (k := (pc (k := (pc (k := (pc (k := (pc (k := .nil)))))))))) | exact (pc (k := (pc (k := (pc (k := (pc (k := (pc (k := (pc (k := .nil)))))))))))) | exact (pc (k := (pc (k := (pc (k := (pc (k := (pc (k := (pc (k := (pc (k := .nil)))))))))))))) | exact (pc (k := (pc (k := (pc (k := (pc (k := (pc (k := (pc (k := (pc (k := (pc (k := .nil)))))))))))))))) | exact (pc (k := (pc (k := (pc (k := (pc (k := (pc (k := (pc (k := (pc (k := (pc (k := (pc (k := .nil)))))))))))))))))) | exact (pc (k := (pc (k := (pc (k := (pc (k := (pc (k := (pc (k := (pc (k := (pc (k := (pc (k := (pc (k := .nil)))))))))))))))))))) | exact (pc (k := (pc (k := (pc (k := (pc (k := (pc (k := (pc (k := (pc (k := (pc (k := (pc (k := (pc (k := (pc (k := .nil)))))))))))))))))))))) | exact (pc (k := (pc (k := (pc (k := (pc (k := (pc (k := (pc (k := (pc (k := (pc (k := (pc (k := (pc (k := (pc (k := (pc (k := .nil))))))))))))))))))))))))) (by exact Nat.le_of_ble_eq_true rfl) (by exact rfl) (by kernel_rfl) (by exact rfl) (by exact rfl) (by exact Nat.le_of_ble_eq_true rfl) (by repeat (first | exact happ_0 | apply happ_s))) : LOk P ⟨d, .buildSlice t n parts, ty, pos, af, g⟩ T H H' v [] [] := h
theorem k_mk {t : TypeId} {x y : Operand} (h : LOk P ⟨d, .makeSlice t x y, ty, pos, af, g⟩ T H H' v F M := by exact a_make rfl rfl (by exact rfl) (by exact rfl) (by omega) (by first | (show 1 * _ ≤ _; omega) | (show 8 * _ ≤ _; omega) | (show 4 * _ ≤ _; omega) | (show 2 * _ ≤ _; omega)) (by omega) LenN.h (by repeat (first | exact happ_0 | apply happ_s))) : LOk P ⟨d, .makeSlice t x y, ty, pos, af, g⟩ T H H' v F M := h
end kinds
end Go.Bx
namespace Go.Bx
section
variable {P : Program} {T : Tm} {H : Heap} {d : Option Tmp} {ty : TypeId} {pos : String} {af : Array Edge} {g : Option (Nat × Bool)} {v : AV} {H' : Heap} {F M : List Nat}
end
end Go.Bx
end

section
/- A block that may be written, told as a value for one call's time. No program. -/
namespace Go.Bx
def SV.plainB : SV → Bool
  | .int .. => true | .bool _ => true | .nilp => true | .nils => true | .val _ => true | .ptr .. => true | .slice .. => true | .slx .. => true | .gro .. => true | .junk => true
  | _ => false
def Seg.plainB : Seg → Bool
  | .ints .. => true
  | .one v => v.plainB
  | .rows .. => false
def AV.plainB : AV → Bool
  | .s v => v.plainB
  | .agg l => l.all Seg.plainB
  | .tup l => l.all fun | .s v => v.plainB | .agg l => l.all Seg.plainB | .tup _ => true
theorem SV.rep_plain {ρ ρ' : Rho} (hm : ρ'.m = ρ.m) (hs : ρ'.sz = ρ.sz) {x : SV} {v : Value} (hx : x.plainB = true) (h : x.rep ρ v) : x.rep ρ' v := by
  cases x <;> first | exact h | (cases hx; done) | (simp only [SV.rep] at h ⊢; rw [hm]; exact h) | (simp only [SV.rep] at h ⊢; rw [hm, hs]; exact h)
theorem atS_plain : ∀ {l : List Seg} {i : Nat} {x : SV}, l.all Seg.plainB = true → atS l i = some x → x.plainB = true
  | [], _, _, _, h => by simp [atS] at h
  | s :: r, i, x, hb, h => by
    simp only [List.all_cons, Bool.and_eq_true] at hb
    simp only [atS] at h
    by_cases hi : i < s.size
    · rw [if_pos hi] at h
      have h := Option.some.inj h
      subst h
      cases s with
      | one v => exact hb.1
      | ints k m l => rfl
      | rows n w g => cases hb.1
    · rw [if_neg hi] at h
      exact atS_plain hb.2 h
theorem RowRep.plain {ρ ρ' : Rho} (hm : ρ'.m = ρ.m) (hs : ρ'.sz = ρ.sz) {l : List Seg} {g : Nat → Option Value} (hl : l.all Seg.plainB = true) (h : RowRep ρ l g) : RowRep ρ' l g := fun i x hx => by
  obtain ⟨v, h1, h2, h3⟩ := h i x hx
  exact ⟨v, h1, SV.rep_plain hm hs (atS_plain hl hx) h2, h3⟩
theorem AV.rep_plain {ρ ρ' : Rho} (hm : ρ'.m = ρ.m) (hs : ρ'.sz = ρ.sz) {x : AV} {v : Value} (hx : x.plainB = true) (h : x.rep ρ v) : x.rep ρ' v := by
  cases x with
  | s x => exact SV.rep_plain hm hs hx h
  | agg l => obtain ⟨cs, e1, e2, e3⟩ := h; exact ⟨cs, e1, e2, e3.plain hm hs hx⟩
  | tup l =>
    obtain ⟨vs, e1, e2⟩ := h
    simp only [AV.plainB, List.all_eq_true] at hx
    refine ⟨vs, e1, fun i y hy => ?_⟩
    obtain ⟨u, hu, hr⟩ := e2 i y hy
    have hp := hx y (List.mem_of_getElem? hy)
    refine ⟨u, hu, ?_⟩
    cases y with
    | s x => exact SV.rep_plain hm hs hp hr
    | agg l => obtain ⟨cs, e1, e2, e3⟩ := hr; exact ⟨cs, e1, e2, e3.plain hm hs hp⟩
    | tup q => exact hr.elim
def othersOk (H : Heap) (id : Nat) (F : List Nat) : Bool := F.all fun j => Nat.beq j id || match hget H j with | some b => !b.rw || b.segs.all Seg.plainB | none => true
theorem othersOk_at {H : Heap} {id : Nat} {F : List Nat} (h : othersOk H id F = true) {j : Nat} (hj : j ∈ F) (hn : j ≠ id) {b : Blk} (hb : hget H j = some b) : b.rw = false ∨ b.segs.all Seg.plainB = true := by
  simp only [othersOk, List.all_eq_true] at h
  have := h j hj
  rw [hb] at this
  simp only [Bool.or_eq_true, Bool.not_eq_true'] at this
  rcases this with h1 | h1
  · exact absurd (Nat.eq_of_beq_eq_true h1) hn
  · exact h1

theorem lok_tmp {P : Program} {o : Oper} {T : Tm} {H : Heap} {v : AV} {F : List Nat} (id : Nat) {segs : List Seg} (hb : hget H id = some ⟨true, segs⟩) (h : LOk P o T (H.set id (some ⟨false, segs⟩)) (H.set id (some ⟨false, segs⟩)) v F []) (hF : id ∈ F) (ho : othersOk H id F = true) (hv : v.plainB = true) : LOk P o T H H v F [] := by
  have hlt := hget_lt hb
  refine ⟨Nat.le_refl _, fun _ _ _ => rfl, fun _ h => (by cases h), fun j hj => by have := h.lt j hj; simpa using this, ?_⟩
  have hrun := h.run
  rw [List.length_set, msk_set _ _ _ hF] at hrun
  have hbm : hget (msk F H.length H) id = some ⟨true, segs⟩ := by rw [hget_msk, if_pos (.inl hF)]; exact hb
  have hom : ∀ j b, j ≠ id → hget (msk F H.length H) j = some b → b.rw = false ∨ b.segs.all Seg.plainB = true := by
    intro j b hj hg
    rw [hget_msk] at hg
    split at hg
    · rename_i h1
      rcases h1 with h1 | h1
      · exact othersOk_at ho h1 hj hg
      · have := hget_lt hg; omega
    · cases hg
  generalize hH0 : msk F H.length H = H0 at *
  have hl0 : H0.length = H.length := by rw [← hH0, msk_len]
  intro W ρ a w hH hn hW hops next Q hq
  have hlt0 := hget_lt hbm
  cases hm : ρ.m id with
  | none =>
    have hHf : HRep W ρ (hget (H0.set id (some ⟨false, segs⟩))) w := by
      refine ⟨hH.lt, fun j b o k e1 e2 => ?_, fun j j' b o o' k k' hne e1 e2 e3 e4 => ?_, hH.fz, hH.sz⟩
      · rw [hget_set hlt0] at e2
        by_cases hj : j = id
        · subst hj; rw [hm] at e1; cases e1
        · rw [if_neg hj] at e2; exact hH.rep j b o k e1 e2
      · rw [hget_set hlt0] at e3 e4
        by_cases hj : j = id
        · subst hj; rw [hm] at e1; cases e1
        · by_cases hj' : j' = id
          · subst hj'; rw [hm] at e2; cases e2
          · rw [if_neg hj] at e3; rw [if_neg hj'] at e4; exact hH.apart j j' b o o' k k' hne e1 e2 e3 e4
    refine hrun W ρ a w hHf (fun i a1 a2 => by rw [List.length_set] at a1 a2; omega) hW hops next Q ?_
    rintro v' w' ⟨ρ', W', k, hv'⟩
    rw [List.length_set] at k
    have hmm : ∀ i x, ρ'.m i = some x → ρ.m i = some x := fun i x e => by
      rcases k.old i x e with h1 | h1
      · exact h1
      · omega
    refine hq v' w' ⟨ρ', W', ⟨k.le, k.old, ⟨k.rep.lt, fun j b o k' e1 e2 => ?_, fun j j' b o o' k1 k2 hne e1 e2 e3 e4 => ?_, k.rep.fz, k.rep.sz⟩, k.fr, k.sub, k.fresh, k.fzn⟩, hv'⟩
    · refine k.rep.rep j b o k' e1 ?_
      rw [hget_set hlt0, if_neg]; exact e2
      intro e; subst e; have := hmm _ _ e1; rw [hm] at this; cases this
    · exact hH.apart j j' b o o' k1 k2 hne (hmm _ _ e1) (hmm _ _ e2) e3 e4
  | some x =>
    obtain ⟨b0, o0⟩ := x
    obtain ⟨hB0, hW0⟩ := hH.rep id b0 o0 _ hm hbm
    have hW0 := hW0 rfl
    have hnone : ρ.fz b0 = none := by
      cases h : ρ.fz b0 with
      | none => rfl
      | some c => exact absurd hW0 (hH.fz b0 c h).1
    obtain ⟨ρ1, W1, h1, h2, h3, h4, h5, h6⟩ := hrep_frz hH hbm hW
    have hf1 : ∃ cells, ρ1.fz b0 = some cells := by
      obtain ⟨⟨cells, t, fr, g1, g2, g3, g4⟩, _⟩ := h3.rep id b0 o0 ⟨false, segs⟩ (by rw [h2]; exact hm) (by rw [hget_set hlt0, if_pos rfl])
      exact ⟨cells, g3 rfl⟩
    obtain ⟨cells1, hf1⟩ := hf1
    have hnW1 : ¬ W1 b0 := (h3.fz b0 _ hf1).1
    refine hrun W1 ρ1 a w h3 (fun i a1 a2 => by rw [List.length_set] at a1 a2; omega) h5 (fun x hx => AV.rep_le h1 (hops x hx)) next Q ?_
    rintro v' w' ⟨ρ', W', k, hv'⟩
    rw [List.length_set] at k
    have hmm : ρ'.m = ρ.m := by
      funext i
      cases h7 : ρ'.m i with
      | none =>
        cases h8 : ρ.m i with
        | none => rfl
        | some x => have := k.le.m i x (h1.m i x h8); rw [h7] at this; cases this
      | some x =>
        rcases k.old i x h7 with h8 | h8
        · rw [h2] at h8; exact h8.symm
        · omega
    let ρ2 : Rho := ⟨ρ'.m, fun b => if b = b0 then none else ρ'.fz b, ρ'.sz⟩
    have hle2 : Rle ρ ρ2 := ⟨fun i x e => by show ρ'.m i = some x; rw [hmm]; exact e, fun b x e => by
      show (if b = b0 then none else ρ'.fz b) = some x
      by_cases hbb : b = b0
      · subst hbb; rw [hnone] at e; cases e
      · rw [if_neg hbb]; exact k.le.fz b x (h1.fz b x e), fun b x e => k.le.sz b x (h1.sz b x e)⟩
    have hfz2 : ∀ b x, ρ2.fz b = some x → b ≠ b0 ∧ ρ'.fz b = some x := fun b x e => by
      have e : (if b = b0 then none else ρ'.fz b) = some x := e
      by_cases hbb : b = b0
      · rw [if_pos hbb] at e; cases e
      · rw [if_neg hbb] at e; exact ⟨hbb, e⟩
    have hsame : ∀ b, b < w.heap.size → ¬ W1 b → w'.heap[b]? = w.heap[b]? := fun b h7 h8 => k.fr.block b h7 h8
    refine hq v' w' ⟨ρ2, fun b => W' b ∨ b = b0, ⟨hle2, fun i x e => .inl (by have e : ρ'.m i = some x := e; rwa [hmm] at e), ⟨fun j b o e => k.rep.lt j b o e, fun j b o kk e1 e2 => ?_, fun j j' b o o' k1 k2 hne e1 e2 e3 e4 => ?_, fun b cs e => ?_, k.rep.sz⟩, k.fr.mono h4, fun b hb => ?_, fun b hb => .inl (k.fresh b hb), fun b c e => ?_⟩, AV.rep_plain (ρ := ρ') (ρ' := ρ2) rfl rfl hv hv'⟩
    · have e1 : ρ'.m j = some (b, o) := e1
      have e1' : ρ.m j = some (b, o) := by rwa [hmm] at e1
      by_cases hj : j = id
      · subst hj
        rw [hm] at e1'; cases e1'
        obtain ⟨q1, q2⟩ := hH.rep j b0 o0 kk hm e2
        exact ⟨(q1.world (hsame b0 (hH.lt _ _ _ hm) hnW1)).le hle2, fun _ => .inr rfl⟩
      · rcases hom j kk hj e2 with hk | hk
        · obtain ⟨q1, q2⟩ := hH.rep j b o kk e1' e2
          obtain ⟨cells, t, fr, g1, g2, g3, g4⟩ := q1
          have hnW : ¬ W1 b := fun h7 => (hH.fz b _ (g3 hk)).1 (h4 b h7)
          have q1 : BRep ρ kk w b o := ⟨cells, t, fr, g1, g2, g3, g4⟩
          exact ⟨(q1.world (hsame b (hH.lt _ _ _ e1') hnW)).le hle2, fun h7 => (by rw [hk] at h7; cases h7)⟩
        · obtain ⟨⟨cells, t, fr, g1, g2, g3, g4⟩, q2⟩ := k.rep.rep j b o kk e1 (by rw [hget_set hlt0, if_neg hj]; exact e2)
          refine ⟨⟨cells, t, fr, g1, g2, fun h7 => ?_, g4.plain (ρ := ρ') (ρ' := ρ2) rfl rfl hk⟩, fun h7 => .inl (q2 h7)⟩
          show (if b = b0 then none else ρ'.fz b) = some cells
          rw [if_neg ?_]; exact g3 h7
          intro e
          subst e
          have := (hH.apart j id b o o0 kk _ hj e1' hm e2 hbm).2
          cases this
    · have e1 : ρ'.m j = some (b, o) := e1
      have e2 : ρ'.m j' = some (b, o') := e2
      rw [hmm] at e1 e2
      exact hH.apart j j' b o o' k1 k2 hne e1 e2 e3 e4
    · obtain ⟨h7, h8⟩ := hfz2 b cs e
      exact ⟨fun h9 => h9.elim (k.rep.fz b cs h8).1 h7, (k.rep.fz b cs h8).2⟩
    · rcases hb with h7 | h7
      · exact h4 b (k.sub b h7)
      · subst h7; exact hW0
    · obtain ⟨h7, h8⟩ := hfz2 b c e
      rcases k.fzn b c h8 with h9 | h9
      · exact h6 b c h9
      · exact .inr (h4 b h9)
end Go.Bx
namespace Go.Bx
theorem k_tmp {P : Program} {o : Oper} {T : Tm} {H : Heap} {v : AV} {F : List Nat} (id : Nat) {segs : List Seg} (hb : hget H id = some ⟨true, segs⟩ := by rfl) (h : LOk P o T (H.set id (some ⟨false, segs⟩)) (H.set id (some ⟨false, segs⟩)) v F []) (hF : List.elem id F = true := by rfl) (ho : othersOk H id F = true := by rfl) (hv : v.plainB = true := by rfl) : LOk P o T H H v F [] := lok_tmp id hb h (List.mem_of_elem_eq_true hF) ho hv
end Go.Bx
namespace Go.Bx
section
variable {E : Env} {P : Program} {T : Tm} {H : Heap}
theorem weak_drop (id : Nat) {H' : Heap} (hH : H.set id none = H') : Weak E T H T H' := by
  subst hH
  rintro a w ⟨ρ, W, p, hn, hT, hE⟩
  refine ⟨ρ, W, ⟨p.le, p.rep.sub fun j b hj => ?_, p.size, p.defs, p.fr, p.sub, p.fresh, p.fzn, p.old⟩, fun i hi => hn i (by simpa using hi), hT, by simpa using hE⟩
  by_cases hlt : id < H.length
  · rw [hget_set hlt] at hj
    split at hj
    · cases hj
    · exact hj
  · rw [List.set_eq_of_length_le (by omega)] at hj; exact hj
theorem frz_ptr (t n : Nat) {id : Nat} {segs : List Seg} {H' : Heap} (hx : look T t = .s (.ptr id 0 0) := by rfl) (hb : hget H id = some ⟨true, segs⟩ := by rfl) (hn : sizeS segs = n := by rfl) (hid : segs.all (Seg.idB fun _ => false) = true := by rfl) (hH : H.set id none = H' := by repeat (first | exact hset_0 | apply hset_s)) : Weak E T H ((t, .s (.fptr n (cellsF segs) 0 0)) :: T) H' := by
  have hlt := hget_lt hb
  refine (weak_frz id hb rfl).trans ((weak_conv t hx (conv_ptr (k := ⟨false, segs⟩) (by rw [hget_set hlt, if_pos rfl]) rfl hn hid)).trans (weak_drop id ?_))
  rw [List.set_set]; exact hH
theorem frz_gro (t : Nat) {id len n : Nat} {kk : IntKind} {l l' : List Int} {H' : Heap} (hx : look T t = .s (.gro id 1 len) := by rfl) (hb : hget H id = some ⟨true, [.ints kk n l]⟩ := by rfl) (hn : len ≤ n := by omega) (hl : l.length = n := by first | assumption | omega | simp [*]) (hl' : l.take len = l' := by rfl) (hH : H.set id none = H' := by repeat (first | exact hset_0 | apply hset_s)) : Weak E T H ((t, .s (.fzi kk l')) :: T) H' := by
  have hlt := hget_lt hb
  refine (weak_frz id hb rfl).trans ((weak_conv t hx (conv_gro (k := ⟨false, [.ints kk n l]⟩) (by rw [hget_set hlt, if_pos rfl]) rfl rfl hn hl hl')).trans (weak_drop id ?_))
  rw [List.set_set]; exact hH
end
end Go.Bx
end

section
/- Loops over functions: rounds. No program. -/
namespace Go.Bx
def FW (r : Option Nat) : Fence := { Fence.wide with round := r }
def noDefer (ops : Array Oper) : Bool := ops.toList.all fun o => match o.op with | .defer .. => false | _ => true
def WpI (ro : Option Nat) (E : Env) (c : Code) (T : Tm) (H : Heap) (Q : Exit → Tm → Heap → Prop) : Prop :=
  ∀ a w, Rep E T H a w → c.wpIn (FW ro) 0 E.P (fun e a' w' => ∃ T' H', Q e T' H' ∧ Rep E T' H' a' w') a w
section code
variable {ro : Option Nat} {E : Env} {T : Tm} {H : Heap} {Q : Exit → Tm → Heap → Prop}
end code
def roundT (ps : List Tmp) (vs : List AV) (T : Tm) : Tm := (ps.zip vs).foldl (fun t p => (p.1, p.2) :: t) T
def YRound (P : Program) (n : Nat) (assign body : Code) (T : Tm) (H H' : Heap) : Prop :=
  H.length ≤ H'.length ∧ ∃ Ta, ∀ (l : Nat) (E : Env), E.P = P → E.n = n → E.nE = H.length → WpI (some l) E assign T H (fun e T1 H1 => e = .normal ∧ Weak E T1 H1 Ta H) ∧ WpI (some l) E body Ta H (fun e T1 H1 => e = .normal ∧ Weak E T1 H1 [] H')
theorem HRep.put {W : Nat → Prop} {ρ : Rho} {h : Nat → Option Blk} {w : World} (hH : HRep W ρ h w) {l : Nat} {o : Obj} (o' : Obj) (hl : w.heap[l]? = some o) (ho : o.isCells = false) : HRep W ρ h (w.putObj l o') := by
  have hne : ∀ {b : Nat} {cs : Array Value} {t : TypeId} {fr : Nat × Nat}, w.heap[b]? = some (.cells cs t fr) → b ≠ l := by
    intro b cs t fr h e
    subst e
    rw [hl] at h
    cases h
    exact absurd ho (by simp [Obj.isCells])
  refine ⟨fun id b off e => by simpa using hH.lt id b off e, fun id b off k e hk => ?_, hH.apart, fun b cs e => ?_, fun b n e => ?_⟩
  · have hr := hH.rep id b off k e hk
    obtain ⟨cells, t, fr, g1, _⟩ := hr.1
    exact ⟨hr.1.world (World.putObj_heap_other (hne g1)), hr.2⟩
  · obtain ⟨q1, t, fr, q2⟩ := hH.fz b cs e
    exact ⟨q1, t, fr, by rw [World.putObj_heap_other (hne q2)]; exact q2⟩
  · obtain ⟨cs, t, fr, q1, q2⟩ := hH.sz b n e
    exact ⟨cs, t, fr, by rw [World.putObj_heap_other (hne q1)]; exact q1, q2⟩
theorem TRep.foldl {ρ : Rho} : ∀ (ps : List Tmp) (avs : List AV) (vs : List Value) (T : Tm) (t : Array Value), (∀ p ∈ ps, p < t.size) → ps.length = avs.length → avs.length = vs.length → TRep ρ T { tmps := t, defers := [] } → (∀ (i : Nat) (x : AV) (v : Value), avs[i]? = some x → vs[i]? = some v → x.rep ρ v) →
    TRep ρ (roundT ps avs T) { tmps := (ps.zip vs).foldl (fun t p => t.setIfInBounds p.1 p.2) t, defers := [] }
  | [], _, _, T, t, _, _, _, h, _ => h
  | p :: ps, [], _, _, _, _, h1, _, _, _ => by simp at h1
  | p :: ps, x :: avs, [], _, _, _, _, h2, _, _ => by simp at h2
  | p :: ps, x :: avs, v :: vs, T, t, hp, h1, h2, h, hv => by
    simp only [roundT, List.zip_cons_cons, List.foldl_cons]
    refine TRep.foldl ps avs vs ((p, x) :: T) (t.setIfInBounds p v) (fun q hq => by simpa using hp q (by simp [hq])) (by simpa using h1) (by simpa using h2) ?_ (fun i y u h3 h4 => hv (i + 1) y u (by simpa using h3) (by simpa using h4))
    have := TRep.put (d := some p) (a := { tmps := t, defers := [] }) h (fun i hi => by cases hi; exact hp p (by simp)) (hv 0 x v rfl rfl)
    exact this
end Go.Bx
end

section
/- The call that asks for a round; the loop over a function. No program. -/
namespace Go.Bx
def Iter (E : Env) (gf n : Nat) (q : Nat → SV) (ps : Array Tmp) (assign body : Code) (T : Tm) (H Hend : Heap) : Prop :=
  ∀ (l D : Nat) (ρ : Rho) (W : Nat → Prop) (tm : Array Value) (w1 : World) (fn : FuncId) (vs : Array Value), HRep W ρ (hget H) w1 → (∀ id, H.length ≤ id → ρ.m id = none) → TRep ρ T { tmps := tm, defers := [] } → tm.size = E.n → (∀ b, w1.heap.size ≤ b → W b) →
    w1.heap[l]? = some (.loop { state := .ready, pending := none, fn, tmps := tm, params := ps, assign, body, defers := D }) →
    (vs.size = n ∧ ∀ i, i < n → ∃ u, vs[i]? = some u ∧ (q i).rep ρ u) →
    Calls E.P gf (#[.func (.yield l) #[] #[]] ++ vs) w1 fun e w' => (∃ v, e = .returned v) ∧ ∃ ρ' W', Nx H.length Hend.length ρ ρ' W W' (hget Hend) w1 w' ∧ ∀ id, Hend.length ≤ id → ρ'.m id = none
end Go.Bx
namespace Go.Bx
theorem wrap_i64 {x : Int} (h : -9223372036854775808 ≤ x ∧ x < 9223372036854775808) : IntKind.i64.wrap x = x := by
  unfold IntKind.wrap; simp [IntKind.bits, IntKind.signed]; omega
section
variable {ro : Option Nat} {E : Env} {P : Program} {T : Tm} {H : Heap} {Q : Exit → Tm → Heap → Prop}
end
end Go.Bx
namespace Go.Bx
section
variable {P : Program} {T : Tm} {H : Heap} {d : Option Tmp} {ty : TypeId} {pos : String} {af : Array Edge} {g : Option (Nat × Bool)}
end
end Go.Bx
namespace Go.Bx
def AllEq (T : Tm) : Tm → Prop
  | [] => True
  | (i, v) :: r => look T i = v ∧ AllEq T r
theorem allEq {T T' : Tm} (h : AllEq T T') : ∀ p ∈ T', look T p.1 = p.2 := by
  induction T' with
  | nil => intro p hp; cases hp
  | cons q r ih =>
    intro p hp
    cases hp with
    | head => exact h.1
    | tail _ hm => exact ih h.2 p hm
theorem weak_tm {E : Env} {T T' : Tm} {H : Heap} (h : AllEq T T' := by repeat (first | exact trivial | refine ⟨rfl, ?_⟩)) : Weak E T H T' H := by
  rintro a w ⟨ρ, W, p, hn, hT, hE⟩
  refine ⟨ρ, W, p, hn, fun i => ?_, hE⟩
  rcases look_mem T' i with h1 | ⟨q, hq, rfl, h1⟩
  · rw [h1]; trivial
  · rw [h1, ← allEq h q hq]; exact hT q.1
end Go.Bx
namespace Go.Bx
section
variable {E : Env} {P : Program} {T : Tm} {H : Heap}
theorem d_retw {fn : Func} {v v0 : AV} {H' : Heap} {e : Exit} {n : Nat} (hP : E.P = P) (hn : E.n = n) (hr : Ret P fn T H v0) (hw : Weak E ((0, v0) :: T) H [(0, v)] H') (h0 : Nat.blt 0 n = true := by rfl) (he : e = .ret ∨ e = .normal := by first | exact .inl rfl | exact .inr rfl) : DoneD E fn v H' e T H := by
  subst hP; subst hn; exact ⟨he, 0, v0, Nat.blt_eq.mp h0, hr, hw⟩
end
end Go.Bx
namespace Go.Bx
end Go.Bx
namespace Go.Bx
section
variable {P : Program} {T : Tm} {H : Heap} {d : Option Tmp} {ty : TypeId} {pos : String} {af : Array Edge} {g : Option (Nat × Bool)}
end
end Go.Bx
namespace Go.Bx
section
variable {P : Program} {T : Tm} {H : Heap} {d : Option Tmp} {ty : TypeId} {pos : String} {af : Array Edge} {g : Option (Nat × Bool)}
theorem a_loadf_aggI {t : TypeId} {x : Operand} {q base i n m : Nat} {kk : IntKind} {l : List Int} {segs : List Seg} (hx : ev T x = .s (.fptr q (cellsF segs) base i)) [ha : Ag P t true] [hz : Sz P t n] (hs : segAt segs base = some (.ints kk m l)) (hn : i + n ≤ m) (hq : base + i + n ≤ q) : LOk P ⟨d, .load t x, ty, pos, af, g⟩ T H H (.agg [.ints kk n ((l.drop i).take n)]) [] [] := l_loadf_agg hx hq (SubS.ints hs hn) ha.h hz.h
end
end Go.Bx
end

section
/- What the program's sums compute, on lists. No program. -/
open Go Go.Bx
namespace Go.Proofs.X
def z (n : Nat) : List Int := List.replicate n 0
theorem z_len (n : Nat) : (z n).length = n := List.length_replicate
def rs (k : Int) : Int := andK .u64 (IntKind.u64.wrap k) 31
def rotI (x k : Int) : Int := orK .u32 (shlK .u32 x (rs k)) (shrK .u32 x (IntKind.u64.wrap (32 - rs k)))
def dnI (x : Int) (ps : List Int) : Nat → Int
  | 0 => 0
  | i + 1 => xorK .u32 (dnI x ps i) (rotI x (IntKind.i64.wrap (0 - ps.getD i 0)))
def KS : List Int := [1116352408, 1899447441, 3049323471, 3921009573, 961987163, 1508970993, 2453635748, 2870763221, 3624381080, 310598401, 607225278, 1426881987, 1925078388, 2162078206, 2614888103, 3248222580, 3835390401, 4022224774, 264347078, 604807628, 770255983, 1249150122, 1555081692, 1996064986, 2554220882, 2821834349, 2952996808, 3210313671, 3336571891, 3584528711, 113926993, 338241895, 666307205, 773529912, 1294757372, 1396182291, 1695183700, 1986661051, 2177026350, 2456956037, 2730485921, 2820302411, 3259730800, 3345764771, 3516065817, 3600352804, 4094571909, 275423344, 430227734, 506948616, 659060556, 883997877, 958139571, 1322822218, 1537002063, 1747873779, 1955562222, 2024104815, 2227730452, 2361852424, 2428436474, 2756734187, 3204031479, 3329325298]
def gI (w : List Int) : Nat → Int
  | 0 => 0
  | i + 1 => IntKind.u64.wrap (IntKind.u64.wrap (256 * gI w i) + IntKind.u64.wrap (w.getD i 0))
def getI (B : List Int) (m : Nat) : Int := gI (spl (z 8) (B.take m) (8 - m) m 8) 8
theorem spl_len (xs ys : List Int) (i n m : Nat) : (spl xs ys i n m).length = m := by simp [spl]
def wn1 (w : List Int) (t : Nat) : List Int := w.set (t % 16) (IntKind.u32.wrap (w.getD (t % 16) 0 + xorK .u32 (dnI (w.getD ((t + 1) % 16) 0) [7, 18] 2) (shrK .u32 (w.getD ((t + 1) % 16) 0) 3)))
def wn2 (w : List Int) (zz : Int) (t : Nat) : List Int := w.set (t % 16) (IntKind.u32.wrap (w.getD (t % 16) 0 + xorK .u32 (dnI zz [17, 19] 2) (shrK .u32 zz 10)))
def wn3 (w : List Int) (t : Nat) : List Int := w.set (t % 16) (IntKind.u32.wrap (w.getD (t % 16) 0 + w.getD ((t + 9) % 16) 0))
def wn (b w : List Int) (t : Nat) : List Int :=
  if t < 16 then w.set (t % 16) (IntKind.u32.wrap (getI ((b.drop (4 * t)).take (64 - 4 * t)) 4))
  else wn3 (wn2 (wn1 w t) (w.getD ((t + 14) % 16) 0) t) t
def ws (b : List Int) : Nat → List Int
  | 0 => z 16
  | i + 1 => wn b (ws b i) i
def comK (k : IntKind) (m : Int) : Int := xorK k (if k.signed then -1 else k.max) m
def rP (l : List Int) (k x : Int) : Int := IntKind.u32.wrap (IntKind.u32.wrap (IntKind.u32.wrap (IntKind.u32.wrap (l.getD 7 0 + dnI (l.getD 4 0) [6, 11, 25] 3) + orK .u32 (andK .u32 (l.getD 4 0) (l.getD 5 0)) (andK .u32 (comK .u32 (l.getD 4 0)) (l.getD 6 0))) + k) + x)
def rQ (l : List Int) : Int := IntKind.u32.wrap (dnI (l.getD 0 0) [2, 13, 22] 3 + xorK .u32 (andK .u32 (l.getD 0 0) (xorK .u32 (l.getD 1 0) (l.getD 2 0))) (andK .u32 (l.getD 1 0) (l.getD 2 0)))
def rS (l : List Int) : List Int := spl l ((l.drop 0).take 7) (0 + 1) 7 8
def rnd (l : List Int) (k x : Int) : List Int := ((rS l).set 4 (IntKind.u32.wrap ((rS l).getD 4 0 + rP l k x))).set 0 (IntKind.u32.wrap (rP l k x + rQ l))
def ls (s b : List Int) : Nat → List Int
  | 0 => s
  | i + 1 => rnd (ls s b i) (KS.getD i 0) ((ws b (i + 1)).getD (i % 16) 0)
def fin (s l : List Int) : Nat → List Int
  | 0 => l
  | i + 1 => (fin s l i).set i (IntKind.u32.wrap ((fin s l i).getD i 0 + s.getD i 0))
def aft (s b : List Int) : List Int := fin s (ls s b 64) 8
abbrev RUN (s b : List Int) (n l : Int) : List Seg := [.one (.fptr 8 (cellsF [.ints .u32 8 s]) 0 0), .ints .u8 64 b, .one (.int .i64 n), .one (.int .u64 l)]
end Go.Proofs.X
end

section
/- The types and functions of sums, as instances. -/
open Go Go.Bx Go.Proofs
namespace Go.Proofs.X
instance : Mix Tryz.prog := ⟨by kernel_rfl⟩
instance : Clb Tryz.prog 180 := ⟨_, Tryz.func180, by kernel_rfl, rfl⟩
instance : Clb Tryz.prog 177 := ⟨_, Tryz.func177, by kernel_rfl, rfl⟩
instance : Clb Tryz.prog 103 := ⟨_, Tryz.func103, by kernel_rfl, rfl⟩
instance : Clb Tryz.prog 176 := ⟨_, Tryz.func176, by kernel_rfl, rfl⟩
instance : Clb Tryz.prog 175 := ⟨_, Tryz.func175, by kernel_rfl, rfl⟩
instance : Clb Tryz.prog 179 := ⟨_, Tryz.func179, by kernel_rfl, rfl⟩
instance : Clb Tryz.prog 171 := ⟨_, Tryz.func171, by kernel_rfl, rfl⟩
instance : Clb Tryz.prog 152 := ⟨_, Tryz.func152, by kernel_rfl, rfl⟩
instance : Clb Tryz.prog 166 := ⟨_, Tryz.func166, by kernel_rfl, rfl⟩
instance : Clb Tryz.prog 153 := ⟨_, Tryz.func153, by kernel_rfl, rfl⟩
instance : Clb Tryz.prog 154 := ⟨_, Tryz.func154, by kernel_rfl, rfl⟩
instance : Clb Tryz.prog 150 := ⟨_, Tryz.func150, by kernel_rfl, rfl⟩
instance : Und Tryz.prog 3 (.int .i64) := ⟨Tryz.underlying3⟩
instance : Sz Tryz.prog 3 1 := ⟨Tryz.sizeOf3⟩
instance : Ag Tryz.prog 3 false := ⟨Tryz.isAgg3⟩
instance : Zv Tryz.prog 3 [.one (.int .i64 0)] := ⟨_, Tryz.zeroValue3, by kernel_rfl⟩
instance : Zi Tryz.prog 3 .i64 := ⟨Tryz.zeroValue3⟩
instance : Inf Tryz.prog 3 Tryz.t3 := ⟨by kernel_rfl⟩
instance : Und Tryz.prog 5 (.int .u8) := ⟨Tryz.underlying5⟩
instance : Sz Tryz.prog 5 1 := ⟨Tryz.sizeOf5⟩
instance : Ag Tryz.prog 5 false := ⟨Tryz.isAgg5⟩
instance : Zv Tryz.prog 5 [.one (.int .u8 0)] := ⟨_, Tryz.zeroValue5, by kernel_rfl⟩
instance : Zi Tryz.prog 5 .u8 := ⟨Tryz.zeroValue5⟩
instance : Inf Tryz.prog 5 Tryz.t5 := ⟨by kernel_rfl⟩
instance : Und Tryz.prog 23 (.slice 5) := ⟨Tryz.underlying23⟩
instance : Sz Tryz.prog 23 1 := ⟨Tryz.sizeOf23⟩
instance : Ag Tryz.prog 23 false := ⟨Tryz.isAgg23⟩
instance : Zv Tryz.prog 23 [.one .nils] := ⟨_, Tryz.zeroValue23, by kernel_rfl⟩
instance : Zn Tryz.prog 23 := ⟨Tryz.zeroValue23⟩
instance : Inf Tryz.prog 23 Tryz.t23 := ⟨by kernel_rfl⟩
instance : Und Tryz.prog 47 (.int .u64) := ⟨Tryz.underlying47⟩
instance : Sz Tryz.prog 47 1 := ⟨Tryz.sizeOf47⟩
instance : Ag Tryz.prog 47 false := ⟨Tryz.isAgg47⟩
instance : Zv Tryz.prog 47 [.one (.int .u64 0)] := ⟨_, Tryz.zeroValue47, by kernel_rfl⟩
instance : Zi Tryz.prog 47 .u64 := ⟨Tryz.zeroValue47⟩
instance : Inf Tryz.prog 47 Tryz.t47 := ⟨by kernel_rfl⟩
instance : Und Tryz.prog 51 (.array 32 5) := ⟨Tryz.underlying51⟩
instance : Sz Tryz.prog 51 32 := ⟨Tryz.sizeOf51⟩
instance : Ag Tryz.prog 51 true := ⟨Tryz.isAgg51⟩
instance : Zv Tryz.prog 51 [.ints .u8 32 (zs (List.replicate 32 0))] := ⟨_, Tryz.zeroValue51, by kernel_rfl⟩
instance : Zb Tryz.prog 51 .u8 32 := ⟨_, Tryz.zeroValue51, by kernel_rfl⟩
instance : Inf Tryz.prog 51 Tryz.t51 := ⟨by kernel_rfl⟩
instance : Und Tryz.prog 62 (.int .u32) := ⟨Tryz.underlying62⟩
instance : Sz Tryz.prog 62 1 := ⟨Tryz.sizeOf62⟩
instance : Ag Tryz.prog 62 false := ⟨Tryz.isAgg62⟩
instance : Zv Tryz.prog 62 [.one (.int .u32 0)] := ⟨_, Tryz.zeroValue62, by kernel_rfl⟩
instance : Zi Tryz.prog 62 .u32 := ⟨Tryz.zeroValue62⟩
instance : Inf Tryz.prog 62 Tryz.t62 := ⟨by kernel_rfl⟩
instance : Und Tryz.prog 83 (.slice 23) := ⟨Tryz.underlying83⟩
instance : Sz Tryz.prog 83 1 := ⟨Tryz.sizeOf83⟩
instance : Ag Tryz.prog 83 false := ⟨Tryz.isAgg83⟩
instance : Zv Tryz.prog 83 [.one .nils] := ⟨_, Tryz.zeroValue83, by kernel_rfl⟩
instance : Zn Tryz.prog 83 := ⟨Tryz.zeroValue83⟩
instance : Inf Tryz.prog 83 Tryz.t83 := ⟨by kernel_rfl⟩
instance : Und Tryz.prog 144 (.slice 3) := ⟨Tryz.underlying144⟩
instance : Sz Tryz.prog 144 1 := ⟨Tryz.sizeOf144⟩
instance : Ag Tryz.prog 144 false := ⟨Tryz.isAgg144⟩
instance : Zv Tryz.prog 144 [.one .nils] := ⟨_, Tryz.zeroValue144, by kernel_rfl⟩
instance : Zn Tryz.prog 144 := ⟨Tryz.zeroValue144⟩
instance : Inf Tryz.prog 144 Tryz.t144 := ⟨by kernel_rfl⟩
instance : Und Tryz.prog 173 (.slice 62) := ⟨Tryz.underlying173⟩
instance : Sz Tryz.prog 173 1 := ⟨Tryz.sizeOf173⟩
instance : Ag Tryz.prog 173 false := ⟨Tryz.isAgg173⟩
instance : Zv Tryz.prog 173 [.one .nils] := ⟨_, Tryz.zeroValue173, by kernel_rfl⟩
instance : Zn Tryz.prog 173 := ⟨Tryz.zeroValue173⟩
instance : Inf Tryz.prog 173 Tryz.t173 := ⟨by kernel_rfl⟩
instance : Und Tryz.prog 226 (.array 64 5) := ⟨Tryz.underlying226⟩
instance : Sz Tryz.prog 226 64 := ⟨Tryz.sizeOf226⟩
instance : Ag Tryz.prog 226 true := ⟨Tryz.isAgg226⟩
instance : Zv Tryz.prog 226 [.ints .u8 64 (zs (List.replicate 64 0))] := ⟨_, Tryz.zeroValue226, by kernel_rfl⟩
instance : Zb Tryz.prog 226 .u8 64 := ⟨_, Tryz.zeroValue226, by kernel_rfl⟩
instance : Inf Tryz.prog 226 Tryz.t226 := ⟨by kernel_rfl⟩
instance : Und Tryz.prog 229 (.pointer 253) := ⟨Tryz.underlying229⟩
instance : Sz Tryz.prog 229 1 := ⟨Tryz.sizeOf229⟩
instance : Ag Tryz.prog 229 false := ⟨Tryz.isAgg229⟩
instance : Zv Tryz.prog 229 [.one .nilp] := ⟨_, Tryz.zeroValue229, by kernel_rfl⟩
instance : Inf Tryz.prog 229 Tryz.t229 := ⟨by kernel_rfl⟩
instance : Und Tryz.prog 236 (.array 8 5) := ⟨Tryz.underlying236⟩
instance : Sz Tryz.prog 236 8 := ⟨Tryz.sizeOf236⟩
instance : Ag Tryz.prog 236 true := ⟨Tryz.isAgg236⟩
instance : Zv Tryz.prog 236 [.ints .u8 8 (zs (List.replicate 8 0))] := ⟨_, Tryz.zeroValue236, by kernel_rfl⟩
instance : Zb Tryz.prog 236 .u8 8 := ⟨_, Tryz.zeroValue236, by kernel_rfl⟩
instance : Inf Tryz.prog 236 Tryz.t236 := ⟨by kernel_rfl⟩
instance : Und Tryz.prog 244 (.int .u64) := ⟨Tryz.underlying244⟩
instance : Sz Tryz.prog 244 1 := ⟨Tryz.sizeOf244⟩
instance : Ag Tryz.prog 244 false := ⟨Tryz.isAgg244⟩
instance : Zv Tryz.prog 244 [.one (.int .u64 0)] := ⟨_, Tryz.zeroValue244, by kernel_rfl⟩
instance : Zi Tryz.prog 244 .u64 := ⟨Tryz.zeroValue244⟩
instance : Inf Tryz.prog 244 Tryz.t244 := ⟨by kernel_rfl⟩
instance : Und Tryz.prog 247 (.pointer 249) := ⟨Tryz.underlying247⟩
instance : Sz Tryz.prog 247 1 := ⟨Tryz.sizeOf247⟩
instance : Ag Tryz.prog 247 false := ⟨Tryz.isAgg247⟩
instance : Zv Tryz.prog 247 [.one .nilp] := ⟨_, Tryz.zeroValue247, by kernel_rfl⟩
instance : Inf Tryz.prog 247 Tryz.t247 := ⟨by kernel_rfl⟩
instance : Und Tryz.prog 249 (.array 8 62) := ⟨Tryz.underlying249⟩
instance : Sz Tryz.prog 249 8 := ⟨Tryz.sizeOf249⟩
instance : Ag Tryz.prog 249 true := ⟨Tryz.isAgg249⟩
instance : Zv Tryz.prog 249 [.ints .u32 8 (zs (List.replicate 8 0))] := ⟨_, Tryz.zeroValue249, by kernel_rfl⟩
instance : Zb Tryz.prog 249 .u32 8 := ⟨_, Tryz.zeroValue249, by kernel_rfl⟩
instance : Inf Tryz.prog 249 Tryz.t249 := ⟨by kernel_rfl⟩
instance : Und Tryz.prog 251 (.struct #[{ name := "b", type := 226, offset := 0, embedded := false, tag := "", pkgPath := "burrow/shas", byteOffset := 0 }, { name := "many", type := 3, offset := 64, embedded := false, tag := "", pkgPath := "burrow/shas", byteOffset := 64 }]) := ⟨Tryz.underlying251⟩
instance : Sz Tryz.prog 251 65 := ⟨Tryz.sizeOf251⟩
instance : Ag Tryz.prog 251 true := ⟨Tryz.isAgg251⟩
instance : Zv Tryz.prog 251 [.ints .u8 64 (zs (List.replicate 64 0)), .one (.int .i64 0)] := ⟨_, Tryz.zeroValue251, by kernel_rfl⟩
instance : FldC Tryz.prog 251 0 0 := ⟨_, _, _, Tryz.underlying251, rfl, Tryz.sizeOf226, by decide, rfl⟩
instance : FldC Tryz.prog 251 1 64 := ⟨_, _, _, Tryz.underlying251, rfl, Tryz.sizeOf3, by decide, rfl⟩
instance : Pl Tryz.prog 251 #[(0, 64), (64, 1)] := ⟨_, Tryz.underlying251, fun w => by kernel_rfl⟩
instance : Inf Tryz.prog 251 Tryz.t251 := ⟨by kernel_rfl⟩
instance : Und Tryz.prog 253 (.struct #[{ name := "s", type := 247, offset := 0, embedded := false, tag := "", pkgPath := "burrow/shas", byteOffset := 0 }, { name := "x", type := 251, offset := 1, embedded := false, tag := "", pkgPath := "burrow/shas", byteOffset := 8 }, { name := "many", type := 47, offset := 66, embedded := false, tag := "", pkgPath := "burrow/shas", byteOffset := 80 }]) := ⟨Tryz.underlying253⟩
instance : Sz Tryz.prog 253 67 := ⟨Tryz.sizeOf253⟩
instance : Ag Tryz.prog 253 true := ⟨Tryz.isAgg253⟩
instance : Zv Tryz.prog 253 [.one .nilp, .ints .u8 64 (zs (List.replicate 64 0)), .one (.int .i64 0), .one (.int .u64 0)] := ⟨_, Tryz.zeroValue253, by kernel_rfl⟩
instance : FldC Tryz.prog 253 0 0 := ⟨_, _, _, Tryz.underlying253, rfl, Tryz.sizeOf247, by decide, rfl⟩
instance : FldC Tryz.prog 253 1 1 := ⟨_, _, _, Tryz.underlying253, rfl, Tryz.sizeOf251, by decide, rfl⟩
instance : FldC Tryz.prog 253 2 66 := ⟨_, _, _, Tryz.underlying253, rfl, Tryz.sizeOf47, by decide, rfl⟩
instance : Pl Tryz.prog 253 #[(0, 1), (1, 65), (66, 1)] := ⟨_, Tryz.underlying253, fun w => by kernel_rfl⟩
instance : Inf Tryz.prog 253 Tryz.t253 := ⟨by kernel_rfl⟩
instance : Und Tryz.prog 260 (.pointer 251) := ⟨Tryz.underlying260⟩
instance : Sz Tryz.prog 260 1 := ⟨Tryz.sizeOf260⟩
instance : Ag Tryz.prog 260 false := ⟨Tryz.isAgg260⟩
instance : Zv Tryz.prog 260 [.one .nilp] := ⟨_, Tryz.zeroValue260, by kernel_rfl⟩
instance : Inf Tryz.prog 260 Tryz.t260 := ⟨by kernel_rfl⟩
instance : Und Tryz.prog 262 (.array 64 62) := ⟨Tryz.underlying262⟩
instance : Sz Tryz.prog 262 64 := ⟨Tryz.sizeOf262⟩
instance : Ag Tryz.prog 262 true := ⟨Tryz.isAgg262⟩
instance : Zv Tryz.prog 262 [.ints .u32 64 (zs (List.replicate 64 0))] := ⟨_, Tryz.zeroValue262, by kernel_rfl⟩
instance : Zb Tryz.prog 262 .u32 64 := ⟨_, Tryz.zeroValue262, by kernel_rfl⟩
instance : Inf Tryz.prog 262 Tryz.t262 := ⟨by kernel_rfl⟩
instance : Und Tryz.prog 268 (.array 16 62) := ⟨Tryz.underlying268⟩
instance : Sz Tryz.prog 268 16 := ⟨Tryz.sizeOf268⟩
instance : Ag Tryz.prog 268 true := ⟨Tryz.isAgg268⟩
instance : Zv Tryz.prog 268 [.ints .u32 16 (zs (List.replicate 16 0))] := ⟨_, Tryz.zeroValue268, by kernel_rfl⟩
instance : Zb Tryz.prog 268 .u32 16 := ⟨_, Tryz.zeroValue268, by kernel_rfl⟩
instance : Inf Tryz.prog 268 Tryz.t268 := ⟨by kernel_rfl⟩
end Go.Proofs.X
end

section
/- What nums.row computes, on lists. No program. -/
open Go Go.Bx
namespace Go.Proofs.X
def rb (out : List Int) (at_ : Nat) (v : Int) : Nat → List Int × Int
  | 0 => (out, v)
  | j + 1 => ((rb out at_ v j).1.set (at_ - (j + 1)) (IntKind.u8.wrap (rb out at_ v j).2), IntKind.u64.wrap ((rb out at_ v j).2.tdiv 256))
def rr (tot each N : Nat) (ws : List Int) : Nat → List Int
  | 0 => List.replicate tot 0
  | k + 1 => (rb (rr tot each N ws k) (tot - each * k) (ws.getD (N - 1 - k) 0) each).1
def rowL (tot : Nat) (B : List Int) (len each N : Nat) (ws : List Int) : List Int := if len = 0 then rr tot each N ws N else spl (rr tot each N ws N) (B.take len) 0 len tot
end Go.Proofs.X
end

section
/- Types and functions of rows, as instances. -/
open Go Go.Bx Go.Proofs
namespace Go.Proofs.X
instance : Clb Tryz.prog 167 := ⟨_, Tryz.func167, by kernel_rfl, rfl⟩
instance : Clb Tryz.prog 172 := ⟨_, Tryz.func172, by kernel_rfl, rfl⟩
instance : Clb Tryz.prog 155 := ⟨_, Tryz.func155, by kernel_rfl, rfl⟩
instance : Clb Tryz.prog 97 := ⟨_, Tryz.func97, by kernel_rfl, rfl⟩
instance : Und Tryz.prog 4 (.bool) := ⟨Tryz.underlying4⟩
instance : Sz Tryz.prog 4 1 := ⟨Tryz.sizeOf4⟩
instance : Ag Tryz.prog 4 false := ⟨Tryz.isAgg4⟩
instance : Zv Tryz.prog 4 [.one (.bool false)] := ⟨_, Tryz.zeroValue4, by kernel_rfl⟩
instance : Inf Tryz.prog 4 Tryz.t4 := ⟨by kernel_rfl⟩
instance : Und Tryz.prog 169 (.slice 47) := ⟨Tryz.underlying169⟩
instance : Sz Tryz.prog 169 1 := ⟨Tryz.sizeOf169⟩
instance : Ag Tryz.prog 169 false := ⟨Tryz.isAgg169⟩
instance : Zv Tryz.prog 169 [.one .nils] := ⟨_, Tryz.zeroValue169, by kernel_rfl⟩
instance : Zn Tryz.prog 169 := ⟨Tryz.zeroValue169⟩
instance : Inf Tryz.prog 169 Tryz.t169 := ⟨by kernel_rfl⟩
end Go.Proofs.X
end

section
/- What the program's sums compute of bytes, one by one. No program. -/
open Go Go.Bx
namespace Go.Proofs.X
structure Run where
  s : List Int
  b : List Int
  m : Nat
structure RunOk (q : Run) : Prop where
  s : q.s.length = 8
  b : q.b.length = 64
  m : q.m < 64
def put1 (q : Run) (x : Int) : Run := if q.m + 1 = 64 then ⟨aft q.s (q.b.set q.m x), q.b.set q.m x, 0⟩ else ⟨q.s, q.b.set q.m x, q.m + 1⟩
def tk (q : Run) (l : List Int) : Run := l.foldl put1 q
def chunk (q : Run) (c : List Int) (n : Nat) : Run := if q.m + n = 64 then ⟨aft q.s (spl q.b c (q.m) n 64), spl q.b c (q.m) n 64, 0⟩ else ⟨q.s, spl q.b c (q.m) n 64, q.m + n⟩
theorem eq_getD {a b : List Int} {n : Nat} (ha : a.length = n) (hb : b.length = n) (h : ∀ k, k < n → a.getD k 0 = b.getD k 0) : a = b := by
  apply List.ext_getElem (by omega)
  intro i h1 h2
  have := h i (by omega)
  simpa [List.getD_eq_getElem?_getD, h1, h2] using this
theorem spl_getD (xs ys : List Int) (i n m k : Nat) (hk : k < m) : (spl xs ys i n m).getD k 0 = if i ≤ k ∧ k < i + n then ys.getD (k - i) 0 else xs.getD k 0 := by
  simp [spl, List.getD_eq_getElem?_getD, hk]
def S0 : List Int := [1779033703, 3144134277, 1013904242, 2773480762, 1359893119, 2600822924, 528734635, 1541459225]
def run0 : Run := ⟨S0, z 64, 0⟩
abbrev RQ (q : Run) (tot : Nat) : Blk := ⟨true, RUN q.s q.b ((q.m : Nat) : Int) ((tot : Nat) : Int)⟩
abbrev ROWS (L : List (List Int)) : SV := .fz L.length 1 fun i _ => (L.map (SV.fzi .u8)).getD i .nils
end Go.Proofs.X
end

section
/- What sums, and sums by a key, are, on lists. No program. -/
open Go Go.Bx
namespace Go.Proofs.X
def ob (s : List Int) : Nat → List Int
  | 0 => []
  | i + 1 => rowL (4 * i + 4) (ob s i) (4 * i) 4 1 [IntKind.u64.wrap (s.getD i 0)]
def sumQ (q : Run) (tot : Nat) : Run := tk (tk (tk q [128]) (List.replicate ((119 - q.m) % 64) 0)) (rr 8 8 1 [IntKind.u64.wrap (8 * ((tot : Nat) : Int))] 1)
def sumL (q : Run) (tot : Nat) : List Int := spl (z 32) ((ob (sumQ q tot).s 8).take 32) 0 32 32
def xk (k : List Int) (v : Int) : Nat → List Int
  | 0 => k
  | i + 1 => (xk k v i).set i (xorK .u8 ((xk k v i).getD i 0) v)
def k64 (K : List Int) : List Int := spl (z 64) (K.take K.length) 0 K.length 64
def hmI (K : List Int) : Run := tk run0 (xk (k64 K) 54 64)
def hmO (K : List Int) (q : Run) (tot : Nat) : List Int := sumL (tk (tk run0 (xk (k64 K) 92 64)) (sumL q tot)) 96
end Go.Proofs.X
end

section
/- Types and functions of sums by a key, as instances. -/
open Go Go.Bx Go.Proofs
namespace Go.Proofs.X
instance : Clb Tryz.prog 93 := ⟨_, Tryz.func93, by kernel_rfl, rfl⟩
instance : Clb Tryz.prog 151 := ⟨_, Tryz.func151, by kernel_rfl, rfl⟩
instance : Clb Tryz.prog 102 := ⟨_, Tryz.func102, by kernel_rfl, rfl⟩
end Go.Proofs.X
end

section
/- What the ciphers compute, on lists. No program. -/
open Go Go.Bx
namespace Go.Proofs.X
theorem wrap_u8_range (x : Int) : 0 ≤ IntKind.u8.wrap x ∧ IntKind.u8.wrap x < 256 := by
  show 0 ≤ x % 256 ∧ x % 256 < 256
  omega
theorem xorK_u8_range (m n : Int) : 0 ≤ xorK .u8 m n ∧ xorK .u8 m n < 256 := wrap_u8_range _
def twiceI (x : Int) : Int := if shrK .u8 x 7 = 1 then xorK .u8 (shlK .u8 x 1) 27 else shlK .u8 x 1
def xorTo (a b : List Int) : Nat → List Int
  | 0 => a
  | k + 1 => (xorTo a b k).set k (xorK .u8 ((xorTo a b k).getD k 0) (b.getD k 0))
theorem xorTo_len (a b : List Int) (k : Nat) : (xorTo a b k).length = a.length := by
  induction k with
  | zero => rfl
  | succ k ih => simp [xorTo, ih]
def p1 : Nat → Int × List Int × List Int
  | 0 => (1, z 256, z 256)
  | k + 1 => (xorK .u8 (p1 k).1 (twiceI (p1 k).1), (p1 k).2.1.set k (p1 k).1, (p1 k).2.2.set (p1 k).1.toNat k)
theorem p1_range (k : Nat) : 0 ≤ (p1 k).1 ∧ (p1 k).1 < 256 := by
  cases k with
  | zero => simp [p1]
  | succ k => exact xorK_u8_range _ _
theorem p1_len (k : Nat) : (p1 k).2.1.length = 256 ∧ (p1 k).2.2.length = 256 := by
  induction k with
  | zero => exact ⟨z_len _, z_len _⟩
  | succ k ih => simp [p1, ih]
def boxY (P L : List Int) (k : Nat) : Int := if 0 < k then P.getD ((255 - L.getD k 0) % 255).toNat 0 else 0
def boxO (y : Int) : Nat → Int
  | 0 => 99
  | n + 1 => xorK .u8 (boxO y n) (orK .u8 (shlK .u8 y n) (shrK .u8 y (8 - n)))
theorem boxO_range (y : Int) (n : Nat) : 0 ≤ boxO y n ∧ boxO y n < 256 := by
  cases n with
  | zero => simp [boxO]
  | succ n => exact xorK_u8_range _ _
def p2 (P L : List Int) : Nat → List Int × List Int
  | 0 => (z 256, z 256)
  | k + 1 => ((p2 P L k).1.set k (boxO (boxY P L k) 5), (p2 P L k).2.set (boxO (boxY P L k) 5).toNat k)
theorem p2_len (P L : List Int) (k : Nat) : (p2 P L k).1.length = 256 ∧ (p2 P L k).2.length = 256 := by
  induction k with
  | zero => exact ⟨z_len _, z_len _⟩
  | succ k ih => simp [p2, ih]
def SB : List Int := [99, 124, 119, 123, 242, 107, 111, 197, 48, 1, 103, 43, 254, 215, 171, 118, 202, 130, 201, 125, 250, 89, 71, 240, 173, 212, 162, 175, 156, 164, 114, 192, 183, 253, 147, 38, 54, 63, 247, 204, 52, 165, 229, 241, 113, 216, 49, 21, 4, 199, 35, 195, 24, 150, 5, 154, 7, 18, 128, 226, 235, 39, 178, 117, 9, 131, 44, 26, 27, 110, 90, 160, 82, 59, 214, 179, 41, 227, 47, 132, 83, 209, 0, 237, 32, 252, 177, 91, 106, 203, 190, 57, 74, 76, 88, 207, 208, 239, 170, 251, 67, 77, 51, 133, 69, 249, 2, 127, 80, 60, 159, 168, 81, 163, 64, 143, 146, 157, 56, 245, 188, 182, 218, 33, 16, 255, 243, 210, 205, 12, 19, 236, 95, 151, 68, 23, 196, 167, 126, 61, 100, 93, 25, 115, 96, 129, 79, 220, 34, 42, 144, 136, 70, 238, 184, 20, 222, 94, 11, 219, 224, 50, 58, 10, 73, 6, 36, 92, 194, 211, 172, 98, 145, 149, 228, 121, 231, 200, 55, 109, 141, 213, 78, 169, 108, 86, 244, 234, 101, 122, 174, 8, 186, 120, 37, 46, 28, 166, 180, 198, 232, 221, 116, 31, 75, 189, 139, 138, 112, 62, 181, 102, 72, 3, 246, 14, 97, 53, 87, 185, 134, 193, 29, 158, 225, 248, 152, 17, 105, 217, 142, 148, 155, 30, 135, 233, 206, 85, 40, 223, 140, 161, 137, 13, 191, 230, 66, 104, 65, 153, 45, 15, 176, 84, 187, 22]
def BK : List Int := [82, 9, 106, 213, 48, 54, 165, 56, 191, 64, 163, 158, 129, 243, 215, 251, 124, 227, 57, 130, 155, 47, 255, 135, 52, 142, 67, 68, 196, 222, 233, 203, 84, 123, 148, 50, 166, 194, 35, 61, 238, 76, 149, 11, 66, 250, 195, 78, 8, 46, 161, 102, 40, 217, 36, 178, 118, 91, 162, 73, 109, 139, 209, 37, 114, 248, 246, 100, 134, 104, 152, 22, 212, 164, 92, 204, 93, 101, 182, 146, 108, 112, 72, 80, 253, 237, 185, 218, 94, 21, 70, 87, 167, 141, 157, 132, 144, 216, 171, 0, 140, 188, 211, 10, 247, 228, 88, 5, 184, 179, 69, 6, 208, 44, 30, 143, 202, 63, 15, 2, 193, 175, 189, 3, 1, 19, 138, 107, 58, 145, 17, 65, 79, 103, 220, 234, 151, 242, 207, 206, 240, 180, 230, 115, 150, 172, 116, 34, 231, 173, 53, 133, 226, 249, 55, 232, 28, 117, 223, 110, 71, 241, 26, 113, 29, 41, 197, 137, 111, 183, 98, 14, 170, 24, 190, 27, 252, 86, 62, 75, 198, 210, 121, 32, 154, 219, 192, 254, 120, 205, 90, 244, 31, 221, 168, 51, 136, 7, 199, 49, 177, 18, 16, 89, 39, 128, 236, 95, 96, 81, 127, 169, 25, 181, 74, 13, 45, 229, 122, 159, 147, 201, 156, 239, 160, 224, 59, 77, 174, 42, 245, 176, 200, 235, 187, 60, 131, 83, 153, 97, 23, 43, 4, 126, 186, 119, 214, 38, 225, 105, 20, 99, 85, 33, 12, 125]
theorem boxes_eq : p2 (p1 255).2.1 (p1 255).2.2 256 = (SB, BK) := by decide +kernel
def logsOk (L : List Int) : Bool := (List.range 256).all fun k => decide (0 ≤ L.getD k 0 ∧ L.getD k 0 ≤ 255)
theorem logs_ok : logsOk (p1 255).2.2 = true := by decide +kernel
theorem logsOk_at {L : List Int} (h : logsOk L = true) {k : Nat} (hk : k < 256) : 0 ≤ L.getD k 0 ∧ L.getD k 0 ≤ 255 := by
  simp only [logsOk, List.all_eq_true, List.mem_range, decide_eq_true_eq] at h
  exact h k hk
def kw (was wd : List Int) (K : List Int) (n : Nat) : Nat → List Int × List Int
  | 0 => (wd, K)
  | i + 1 => ((kw was wd K n i).1.set (i % 4) (xorK .u8 ((kw was wd K n i).1.getD (i % 4) 0) (was.getD i 0)),
      (kw was wd K n i).2.set (n * 16 + i) (((kw was wd K n i).1.set (i % 4) (xorK .u8 ((kw was wd K n i).1.getD (i % 4) 0) (was.getD i 0))).getD (i % 4) 0))
theorem kw_len (was wd K : List Int) (n i : Nat) : (kw was wd K n i).1.length = wd.length ∧ (kw was wd K n i).2.length = K.length := by
  induction i with
  | zero => exact ⟨rfl, rfl⟩
  | succ i ih => simp [kw, ih]
def kwas (K : List Int) (n : Nat) : List Int := (K.drop (n * 16)).take 16
def word (S K : List Int) (n : Nat) (by_ : Int) : List Int :=
  [xorK .u8 (S.getD ((kwas K n).getD 13 0).toNat 0) by_, S.getD ((kwas K n).getD 14 0).toNat 0, S.getD ((kwas K n).getD 15 0).toNat 0, S.getD ((kwas K n).getD 12 0).toNat 0]
def ks (S key : List Int) : Nat → Int × List Int
  | 0 => (1, spl (z 176) key 0 16 176)
  | n + 1 => (twiceI (ks S key n).1, (kw (kwas (ks S key n).2 n) (word S (ks S key n).2 n (ks S key n).1) (ks S key n).2 (n + 1) 16).2)
theorem ks_len (S key : List Int) (n : Nat) : (ks S key n).2.length = 176 := by
  induction n with
  | zero => simp [ks, spl]
  | succ n ih => simp only [ks]; rw [(kw_len _ _ _ _ _).2, ih]
def U8 (l : List Int) : Prop := ∀ i, 0 ≤ l.getD i 0 ∧ l.getD i 0 < 256
def mixR (b : List Int) (k : Nat) (all first : Int) : Nat → List Int
  | 0 => b
  | i + 1 => (mixR b k all first i).set (k + i) (xorK .u8 ((mixR b k all first i).getD (k + i) 0) (xorK .u8 all (twiceI (xorK .u8 ((mixR b k all first i).getD (k + i) 0) (if i < 3 then (mixR b k all first i).getD (k + i + 1) 0 else first)))))
theorem mixR_len (b : List Int) (k : Nat) (all first : Int) (i : Nat) : (mixR b k all first i).length = b.length := by
  induction i with
  | zero => rfl
  | succ i ih => simp [mixR, ih]
def mixC (b : List Int) (k : Nat) : List Int :=
  mixR b k (xorK .u8 (xorK .u8 (xorK .u8 (b.getD k 0) (b.getD (k + 1) 0)) (b.getD (k + 2) 0)) (b.getD (k + 3) 0)) (b.getD k 0) 4
def mixN (b : List Int) : Nat → List Int
  | 0 => b
  | j + 1 => mixC (mixN b j) (4 * j)
theorem mixN_len (b : List Int) (j : Nat) : (mixN b j).length = b.length := by
  induction j with
  | zero => rfl
  | succ j ih => simp [mixN, mixC, mixR_len, ih]
def mixI (b : List Int) : List Int := mixN b 4
def subTo (S b : List Int) : Nat → List Int
  | 0 => z 16
  | i + 1 => (subTo S b i).set i (S.getD (b.getD ((i + 4 * (i % 4)) % 16) 0).toNat 0)
theorem subTo_len (S b : List Int) (i : Nat) : (subTo S b i).length = 16 := by
  induction i with
  | zero => exact z_len _
  | succ i ih => simp [subTo, ih]
def xor16 (a b : List Int) : List Int := xorTo a b 16
theorem xor16_len (a b : List Int) : (xor16 a b).length = a.length := xorTo_len _ _ _
def rk (K : List Int) (n : Nat) : List Int := kwas K n
def enc (S K b : List Int) : Nat → List Int
  | 0 => xor16 b (rk K 0)
  | n + 1 => xor16 (mixI (subTo S (enc S K b n) 16)) (rk K (n + 1))
theorem enc_len (S K b : List Int) (h : b.length = 16) (n : Nat) : (enc S K b n).length = 16 := by
  cases n with
  | zero => simp [enc, xor16_len, h]
  | succ n => simp [enc, xor16_len, mixI, mixN_len, subTo_len]
def blockL (S K b : List Int) : List Int := xor16 (subTo S (enc S K b 9) 16) (rk K 10)
theorem blockL_len (S K b : List Int) : (blockL S K b).length = 16 := by simp [blockL, xor16_len, subTo_len]
def subBack (S b : List Int) : Nat → List Int
  | 0 => z 16
  | i + 1 => (subBack S b i).set ((i + 4 * (i % 4)) % 16) (S.getD (b.getD i 0).toNat 0)
theorem subBack_len (S b : List Int) (i : Nat) : (subBack S b i).length = 16 := by
  induction i with
  | zero => exact z_len _
  | succ i ih => simp [subBack, ih]
def keysOf (key : List Int) : List Int := (ks SB key 10).2
def blockI (key b : List Int) : List Int := blockL SB (keysOf key) b
theorem blockI_len (key b : List Int) : (blockI key b).length = 16 := blockL_len _ _ _
theorem getD_set (l : List Int) (i : Nat) (v : Int) (j : Nat) : (l.set i v).getD j 0 = if i = j ∧ i < l.length then v else l.getD j 0 := by
  simp only [List.getD_eq_getElem?_getD, List.getElem?_set]
  by_cases h : i = j
  · subst h
    by_cases h2 : i < l.length
    · simp [h2]
    · simp [h2, List.getElem?_eq_none (show l.length ≤ i by omega)]
  · simp [h]
theorem U8.set {l : List Int} (h : U8 l) (i : Nat) {v : Int} (hv : 0 ≤ v ∧ v < 256) : U8 (l.set i v) := fun j => by
  rw [getD_set]; split
  · exact hv
  · exact h j
theorem U8_z (n : Nat) : U8 (z n) := fun j => by
  simp only [z, List.getD_eq_getElem?_getD, List.getElem?_replicate]
  split <;> simp
theorem U8_mem {l : List Int} (h : ∀ x ∈ l, 0 ≤ x ∧ x < 256) : U8 l := fun j => by
  simp only [List.getD_eq_getElem?_getD]
  cases hj : l[j]? with
  | none => simp
  | some x => exact h x (List.mem_of_getElem? hj)
theorem U8.mem {l : List Int} (h : U8 l) {x : Int} (hx : x ∈ l) : 0 ≤ x ∧ x < 256 := by
  obtain ⟨j, hj⟩ := List.getElem?_of_mem hx
  have := h j
  simp only [List.getD_eq_getElem?_getD, hj] at this
  exact this
theorem U8.cut {l : List Int} (h : U8 l) (a n : Nat) : U8 ((l.drop a).take n) := U8_mem fun x hx => h.mem (List.mem_of_mem_drop (List.mem_of_mem_take hx))
theorem U8_xorTo {a b : List Int} (h : U8 a) (k : Nat) : U8 (xorTo a b k) := by
  induction k with
  | zero => exact h
  | succ k ih => exact ih.set _ (xorK_u8_range _ _)
theorem U8_spl {xs ys : List Int} (hx : U8 xs) (hy : U8 ys) (i n m : Nat) : U8 (spl xs ys i n m) := U8_mem fun x h => by
  simp only [spl, List.mem_map, List.mem_range] at h
  obtain ⟨j, _, rfl⟩ := h
  split
  · exact hy _
  · exact hx _
theorem U8_kw {was wd K : List Int} (h1 : U8 wd) (h2 : U8 K) (n i : Nat) : U8 (kw was wd K n i).1 ∧ U8 (kw was wd K n i).2 := by
  induction i with
  | zero => exact ⟨h1, h2⟩
  | succ i ih =>
    have h3 : U8 ((kw was wd K n i).1.set (i % 4) (xorK .u8 ((kw was wd K n i).1.getD (i % 4) 0) (was.getD i 0))) := ih.1.set _ (xorK_u8_range _ _)
    exact ⟨h3, ih.2.set _ (h3 _)⟩
theorem U8_word {S K : List Int} (hS : U8 S) (n : Nat) (by_ : Int) : U8 (word S K n by_) := U8_mem fun x hx => by
  simp only [word, List.mem_cons, List.not_mem_nil, or_false] at hx
  rcases hx with rfl | rfl | rfl | rfl
  · exact xorK_u8_range _ _
  all_goals exact hS _
theorem U8_ks {S key : List Int} (hS : U8 S) (hk : U8 key) (n : Nat) : U8 (ks S key n).2 := by
  induction n with
  | zero => exact U8_spl (U8_z _) hk _ _ _
  | succ n ih => exact (U8_kw (U8_word hS _ _) ih _ _).2
theorem U8_mixR {b : List Int} (h : U8 b) (k : Nat) (all first : Int) (i : Nat) : U8 (mixR b k all first i) := by
  induction i with
  | zero => exact h
  | succ i ih => exact ih.set _ (xorK_u8_range _ _)
theorem U8_mixN {b : List Int} (h : U8 b) (j : Nat) : U8 (mixN b j) := by
  induction j with
  | zero => exact h
  | succ j ih => exact U8_mixR ih _ _ _ _
theorem U8_subTo {S b : List Int} (h : U8 S) (i : Nat) : U8 (subTo S b i) := by
  induction i with
  | zero => exact U8_z _
  | succ i ih => exact ih.set _ (h _)
theorem U8_subBack {S b : List Int} (h : U8 S) (i : Nat) : U8 (subBack S b i) := by
  induction i with
  | zero => exact U8_z _
  | succ i ih => exact ih.set _ (h _)
theorem U8_enc {S K b : List Int} (hS : U8 S) (hb : U8 b) (n : Nat) : U8 (enc S K b n) := by
  cases n with
  | zero => exact U8_xorTo hb _
  | succ n => exact U8_xorTo (U8_mixN (U8_subTo hS _) _) _
def u8B (l : List Int) : Bool := l.all fun x => decide (0 ≤ x) && decide (x < 256)
theorem u8B_U8 {l : List Int} (h : u8B l = true) : U8 l := U8_mem fun x hx => by
  have := List.all_eq_true.1 h x hx
  simpa using this
theorem U8_SB : U8 SB := u8B_U8 (by decide +kernel)
theorem U8_BK : U8 BK := u8B_U8 (by decide +kernel)
theorem blockL_def (S K b : List Int) : blockL S K b = xor16 (subTo S (enc S K b 9) 16) (kwas K 10) := rfl
theorem mixI_len (b : List Int) : (mixI b).length = b.length := mixN_len _ _
def decX (y : List Int) (r : Nat) : List Int := if 0 < r then mixI (mixI (mixI y)) else y
def dec (S K b : List Int) : Nat → List Int
  | 0 => b
  | r + 1 => subBack S (decX (xor16 (dec S K b r) (kwas K (10 - r))) r) 16
theorem decX_len (y : List Int) (r : Nat) : (decX y r).length = y.length := by
  unfold decX; split
  · exact (mixI_len _).trans ((mixI_len _).trans (mixI_len _))
  · rfl
theorem dec_len (S K b : List Int) (h : b.length = 16) (r : Nat) : (dec S K b r).length = 16 := by
  cases r with
  | zero => exact h
  | succ r => exact subBack_len _ _ _
theorem U8_decX {y : List Int} (h : U8 y) (r : Nat) : U8 (decX y r) := by
  unfold decX; split
  · exact U8_mixN (U8_mixN (U8_mixN h _) _) _
  · exact h
theorem U8_dec {S K b : List Int} (hS : U8 S) (hb : U8 b) (r : Nat) : U8 (dec S K b r) := by
  cases r with
  | zero => exact hb
  | succ r => exact U8_subBack hS _
theorem U8_xor16 {a b : List Int} (h : U8 a) : U8 (xor16 a b) := U8_xorTo h _
def backL (S K b : List Int) : List Int := xor16 (dec S K b 10) (kwas K 0)
def backI (key b : List Int) : List Int := backL BK (keysOf key) b
attribute [irreducible] xor16 mixI blockL keysOf decX
def incF (l : List Int) : Nat → List Int
  | 0 => l
  | i + 1 => if (l.set i (IntKind.u8.wrap (l.getD i 0 + 1))).getD i 0 = 0 then incF (l.set i (IntKind.u8.wrap (l.getD i 0 + 1))) i else l.set i (IntKind.u8.wrap (l.getD i 0 + 1))
def inc16 (l : List Int) : List Int := incF l 16
theorem incF_len (l : List Int) (i : Nat) : (incF l i).length = l.length := by
  induction i generalizing l with
  | zero => rfl
  | succ i ih => simp only [incF]; split <;> simp [ih]
theorem U8_incF {l : List Int} (h : U8 l) (i : Nat) : U8 (incF l i) := by
  induction i generalizing l with
  | zero => exact h
  | succ i ih =>
    have h2 := h.set i (wrap_u8_range (l.getD i 0 + 1))
    simp only [incF]; split
    · exact ih h2
    · exact h2
def ctr (first : List Int) : Nat → List Int
  | 0 => first
  | q + 1 => inc16 (ctr first q)
theorem ctr_len (first : List Int) (q : Nat) : (ctr first q).length = first.length := by
  induction q with
  | zero => rfl
  | succ q ih => simp [ctr, inc16, incF_len, ih]
theorem U8_ctr {first : List Int} (h : U8 first) (q : Nat) : U8 (ctr first q) := by
  induction q with
  | zero => exact h
  | succ q ih => exact U8_incF ih _
def str1 (B s out : List Int) (at_ : Nat) : Nat → List Int
  | 0 => out
  | r + 1 => (str1 B s out at_ r).set (at_ + r) (xorK .u8 (B.getD (at_ + r) 0) (s.getD r 0))
theorem str1_len (B s out : List Int) (at_ r : Nat) : (str1 B s out at_ r).length = out.length := by
  induction r with
  | zero => rfl
  | succ r ih => simp [str1, ih]
def strN (key first B : List Int) (n : Nat) : Nat → List Int
  | 0 => z n
  | q + 1 => str1 B (blockI key (ctr first q)) (strN key first B n q) (16 * q) (min 16 (n - 16 * q))
theorem strN_len (key first B : List Int) (n q : Nat) : (strN key first B n q).length = n := by
  induction q with
  | zero => exact z_len _
  | succ q ih => simp [strN, str1_len, ih]
def streamI (key first B : List Int) : List Int := strN key first B B.length ((B.length + 15) / 16)

end Go.Proofs.X
end

section
/- Types and functions of ciphers, as instances. -/
open Go Go.Bx Go.Proofs
namespace Go.Proofs.X
instance : Clb Tryz.prog 113 := ⟨_, Tryz.func113, by kernel_rfl, rfl⟩
instance : Clb Tryz.prog 115 := ⟨_, Tryz.func115, by kernel_rfl, rfl⟩
instance : Clb Tryz.prog 114 := ⟨_, Tryz.func114, by kernel_rfl, rfl⟩
instance : Clb Tryz.prog 112 := ⟨_, Tryz.func112, by kernel_rfl, rfl⟩
instance : Clb Tryz.prog 116 := ⟨_, Tryz.func116, by kernel_rfl, rfl⟩
instance : Clb Tryz.prog 43 := ⟨_, Tryz.func43, by kernel_rfl, rfl⟩
instance : Clb Tryz.prog 44 := ⟨_, Tryz.func44, by kernel_rfl, rfl⟩
instance : Clb Tryz.prog 9 := ⟨_, Tryz.func9, by kernel_rfl, rfl⟩
instance : Und Tryz.prog 22 (.array 16 5) := ⟨Tryz.underlying22⟩
instance : Sz Tryz.prog 22 16 := ⟨Tryz.sizeOf22⟩
instance : Ag Tryz.prog 22 true := ⟨Tryz.isAgg22⟩
instance : Zv Tryz.prog 22 [.ints .u8 16 (zs (List.replicate 16 0))] := ⟨_, Tryz.zeroValue22, by kernel_rfl⟩
instance : Zb Tryz.prog 22 .u8 16 := ⟨_, Tryz.zeroValue22, by kernel_rfl⟩
instance : Inf Tryz.prog 22 Tryz.t22 := ⟨by kernel_rfl⟩
instance : Und Tryz.prog 96 (.pointer 129) := ⟨Tryz.underlying96⟩
instance : Sz Tryz.prog 96 1 := ⟨Tryz.sizeOf96⟩
instance : Ag Tryz.prog 96 false := ⟨Tryz.isAgg96⟩
instance : Zv Tryz.prog 96 [.one .nilp] := ⟨_, Tryz.zeroValue96, by kernel_rfl⟩
instance : Inf Tryz.prog 96 Tryz.t96 := ⟨by kernel_rfl⟩
instance : Und Tryz.prog 126 (.array 256 5) := ⟨Tryz.underlying126⟩
instance : Sz Tryz.prog 126 256 := ⟨Tryz.sizeOf126⟩
instance : Ag Tryz.prog 126 true := ⟨Tryz.isAgg126⟩
instance : Zv Tryz.prog 126 [.ints .u8 256 (zs (List.replicate 256 0))] := ⟨_, Tryz.zeroValue126, by kernel_rfl⟩
instance : Inf Tryz.prog 126 Tryz.t126 := ⟨by kernel_rfl⟩
instance : Und Tryz.prog 127 (.array 11 22) := ⟨Tryz.underlying127⟩
instance : Sz Tryz.prog 127 176 := ⟨Tryz.sizeOf127⟩
instance : Ag Tryz.prog 127 true := ⟨Tryz.isAgg127⟩
instance : Zv Tryz.prog 127 [.ints .u8 176 (zs (List.replicate 176 0))] := ⟨_, Tryz.zeroValue127, by kernel_rfl⟩
instance : Inf Tryz.prog 127 Tryz.t127 := ⟨by kernel_rfl⟩
instance : Und Tryz.prog 129 (.struct #[{ name := "s", type := 126, offset := 0, embedded := false, tag := "", pkgPath := "burrow/ciphers", byteOffset := 0 }, { name := "back", type := 126, offset := 256, embedded := false, tag := "", pkgPath := "burrow/ciphers", byteOffset := 256 }, { name := "keys", type := 127, offset := 512, embedded := false, tag := "", pkgPath := "burrow/ciphers", byteOffset := 512 }]) := ⟨Tryz.underlying129⟩
instance : Sz Tryz.prog 129 688 := ⟨Tryz.sizeOf129⟩
instance : Ag Tryz.prog 129 true := ⟨Tryz.isAgg129⟩
instance : Zv Tryz.prog 129 [.ints .u8 256 (zs (List.replicate 256 0)), .ints .u8 256 (zs (List.replicate 256 0)), .ints .u8 176 (zs (List.replicate 176 0))] := ⟨_, Tryz.zeroValue129, by kernel_rfl⟩
instance : FldC Tryz.prog 129 0 0 := ⟨_, _, _, Tryz.underlying129, rfl, Tryz.sizeOf126, by decide, rfl⟩
instance : FldC Tryz.prog 129 1 256 := ⟨_, _, _, Tryz.underlying129, rfl, Tryz.sizeOf126, by decide, rfl⟩
instance : FldC Tryz.prog 129 2 512 := ⟨_, _, _, Tryz.underlying129, rfl, Tryz.sizeOf127, by decide, rfl⟩
instance : Pl Tryz.prog 129 #[(0, 256), (256, 256), (512, 176)] := ⟨_, Tryz.underlying129, fun w => by kernel_rfl⟩
instance : Inf Tryz.prog 129 Tryz.t129 := ⟨by kernel_rfl⟩
instance : Und Tryz.prog 132 (.array 4 5) := ⟨Tryz.underlying132⟩
instance : Sz Tryz.prog 132 4 := ⟨Tryz.sizeOf132⟩
instance : Ag Tryz.prog 132 true := ⟨Tryz.isAgg132⟩
instance : Zv Tryz.prog 132 [.ints .u8 4 (zs (List.replicate 4 0))] := ⟨_, Tryz.zeroValue132, by kernel_rfl⟩
instance : Zb Tryz.prog 132 .u8 4 := ⟨_, Tryz.zeroValue132, by kernel_rfl⟩
instance : Inf Tryz.prog 132 Tryz.t132 := ⟨by kernel_rfl⟩
end Go.Proofs.X
end

section
open Go Go.Bx Go.Proofs
namespace Go.Proofs.X
set_option maxRecDepth 100000 in
set_option maxHeartbeats 4000000 in
theorem twiceA_c (x : Int) (h : shrK .u8 x 7 = 1) : Con Tryz.prog 113 [.s (.int .u8 x)] [] (.s (.int .u8 (xorK .u8 (shlK .u8 x 1) 27))) [] := by
 refine con_in 11 Tryz.func113 rfl rfl (m := 0) rfl ?_
 intro E hP hn hE
 refine w_seq ?_
 refine g_reg hP hn ?_
 refine s_op k_as ?_
 refine s_nil trivial ?_
 refine n_wp ?_
 refine w_seq ?_
 refine w_seq ?_
 refine g_reg hP hn ?_
 refine s_op k_mv ?_
 refine s_op k_shr ?_
 refine s_op k_eql ?_
 refine s_nil trivial ?_
 refine n_wp ?_
 refine w_T rfl ?_ (decide_eq_true h)
 refine w_seq ?_
 refine g_reg hP hn ?_
 refine s_op k_mv ?_
 refine s_op k_shl ?_
 refine s_op k_xor ?_
 refine s_op k_as ?_
 refine s_nil trivial ?_
 refine n_wp ?_
 refine w_ret ?_
 refine r_thn ?_
 exact d_ret hP hn hE [] (by first | exact r_tmp Tryz.results113 | exact r_tmpa Tryz.results113)

set_option maxRecDepth 100000 in
set_option maxHeartbeats 4000000 in
theorem twiceB_c (x : Int) (h : ¬ shrK .u8 x 7 = 1) : Con Tryz.prog 113 [.s (.int .u8 x)] [] (.s (.int .u8 (shlK .u8 x 1))) [] := by
 refine con_in 11 Tryz.func113 rfl rfl (m := 0) rfl ?_
 intro E hP hn hE
 refine w_seq ?_
 refine g_reg hP hn ?_
 refine s_op k_as ?_
 refine s_nil trivial ?_
 refine n_wp ?_
 refine w_seq ?_
 refine w_seq ?_
 refine g_reg hP hn ?_
 refine s_op k_mv ?_
 refine s_op k_shr ?_
 refine s_op k_eql ?_
 refine s_nil trivial ?_
 refine n_wp ?_
 refine w_F rfl ?_ (decide_eq_false h)
 refine w_skip ?_
 refine n_wp ?_
 refine w_seq ?_
 refine g_reg hP hn ?_
 refine s_op k_mv ?_
 refine s_op k_shl ?_
 refine s_op k_as ?_
 refine s_nil trivial ?_
 refine n_wp ?_
 refine w_ret ?_
 exact d_ret hP hn hE [] (by first | exact r_tmp Tryz.results113 | exact r_tmpa Tryz.results113)

theorem twice_c (x : Int) : Con Tryz.prog 113 [.s (.int .u8 x)] [] (.s (.int .u8 (twiceI x))) [] := by
 unfold twiceI; split
 · exact twiceA_c x ‹_›
 · exact twiceB_c x ‹_›

set_option maxRecDepth 100000 in
set_option maxHeartbeats 4000000 in
theorem place_c (i : Nat) (hi : i < 1000) : Con Tryz.prog 115 [.s (.int .i64 ((i : Nat) : Int))] [] (.s (.int .i64 (((i + 4 * (i % 4)) % 16 : Nat) : Int))) [] := by
 refine con_in 9 Tryz.func115 rfl rfl (m := 0) rfl ?_
 intro E hP hn hE
 refine w_seq ?_
 refine g_reg hP hn ?_
 refine s_op k_as ?_
 refine s_nil trivial ?_
 refine n_wp ?_
 refine w_seq ?_
 refine g_reg hP hn ?_
 refine s_op k_mv ?_
 refine s_op k_mv ?_
 refine s_op k_rem ?_
 refine s_op k_mul ?_
 refine s_op k_add ?_
 refine s_op k_rem ?_
 refine s_op k_as ?_
 refine s_nil trivial ?_
 refine n_wp ?_
 refine w_ret ?_
 exact d_ret hP hn hE [] (by first | exact r_tmp Tryz.results115 | exact r_tmpa Tryz.results115)

set_option maxRecDepth 100000 in
set_option maxHeartbeats 4000000 in
theorem against_c (a b : List Int) (ha : a.length = 16) : Con Tryz.prog 114 [.agg [.ints .u8 16 a], .agg [.ints .u8 16 b]] [] (.agg [.ints .u8 16 (xor16 a b)]) [] := by
 refine con_in 19 Tryz.func114 rfl rfl (m := 0) rfl ?_
 intro E hP hn hE
 refine w_seq ?_
 refine g_reg hP hn ?_
 refine s_op k_bx ?_
 refine s_op k_bx ?_
 refine s_op k_al ?_
 refine s_nil trivial ?_
 refine n_wp ?_
 refine w_seq ?_
 refine w_seq ?_
 refine g_reg hP hn ?_
 refine s_op k_mv ?_
 refine s_nil trivial ?_
 refine n_wp ?_
 refine w_block ?_
 refine c_loop (fun m T H => ∃ i, i ≤ 16 ∧ m = 16 - i ∧ T = [(2, .s (.ptr 0 0 0)), (3, .s (.ptr 1 0 0)), (4, .s (.ptr 2 0 0)), (6, .s (.int .i64 ((i : Nat) : Int)))] ∧ H = [some ⟨true, [.ints .u8 16 (xorTo a b i)]⟩, some ⟨true, [.ints .u8 16 b]⟩, some ⟨true, [.ints .u8 16 (z 16)]⟩]) (16) ⟨0, by omega, rfl, rfl, rfl⟩ (wk hE []) ?_
 rintro n_ T_ H_ ⟨i, hi, rfl, rfl, rfl⟩
 have hx := (xorTo_len a b i).trans ha
 refine w_seq ?_
 refine g_reg hP hn ?_
 refine s_op k_lss ?_
 refine s_nil trivial ?_
 refine n_wp ?_
 refine w_seq ?_
 refine w_if rfl (fun h_t7 => ?_) (fun h_t7 => ?_)
 · skip
   refine w_skip ?_
   refine n_wp ?_
   refine w_seq ?_
   refine w_block ?_
   refine w_seq ?_
   refine g_reg hP hn ?_
   refine s_op k_mv ?_
   refine s_op k_as ?_
   refine s_nil trivial ?_
   refine n_wp ?_
   refine g_any hP hn ?_
   refine s_op k_mv ?_
   refine s_op k_ix ?_
   refine s_op k_ld ?_
   refine s_op k_mv ?_
   refine s_op k_ix ?_
   refine s_op k_ld ?_
   refine s_op k_xor ?_
   refine s_op k_ix ?_
   refine s_st k_st ?_
   refine s_nil (by kernel_rfl) ?_
   refine n_blo ?_
   refine n_wp ?_
   refine g_reg hP hn ?_
   refine s_op k_add ?_
   refine s_op k_mv ?_
   refine s_nil trivial ?_
   exact n_round (16 - (i + 1)) (by omega) ⟨i + 1, by omega, rfl, rfl, rfl⟩ (wk hE [])
 · skip
   have hi : i = 16 := by omega
   rw [show xorTo a b i = xor16 a b by rw [hi, xor16]]
   refine w_exit ?_
   refine x_thn ?_
   refine x_thn ?_
   refine x_eq ?_
   refine n_wp ?_
   refine w_seq ?_
   refine g_reg hP hn ?_
   refine s_op k_ld ?_
   refine s_st k_st ?_
   refine s_nil trivial ?_
   refine n_wp ?_
   refine w_ret ?_
   exact d_ret hP hn hE [] (r_cell Tryz.results114)

set_option maxRecDepth 100000 in
set_option maxHeartbeats 4000000 in
theorem mixed_c (b : List Int) (hb : b.length = 16) : Con Tryz.prog 116 [.agg [.ints .u8 16 b]] [] (.agg [.ints .u8 16 (mixI b)]) [] := by
 refine con_in 64 Tryz.func116 rfl rfl (m := 0) rfl ?_
 intro E hP hn hE
 refine w_seq ?_
 refine g_reg hP hn ?_
 refine s_op k_bx ?_
 refine s_op k_al ?_
 refine s_nil trivial ?_
 refine n_wp ?_
 refine w_seq ?_
 refine w_seq ?_
 refine g_reg hP hn ?_
 refine s_op k_as ?_
 refine s_nil trivial ?_
 refine n_wp ?_
 refine w_block ?_
 refine c_loop (fun m T H => ∃ j, j ≤ 4 ∧ m = 4 - j ∧ T = [(1, .s (.ptr 0 0 0)), (2, .s (.ptr 1 0 0)), (3, .s (.int .i64 ((4 * j : Nat) : Int)))] ∧ H = [some ⟨true, [.ints .u8 16 (mixN b j)]⟩, some ⟨true, [.ints .u8 16 (z 16)]⟩]) (4) ⟨0, by omega, rfl, rfl, rfl⟩ (wk hE []) ?_
 rintro n_ T_ H_ ⟨j, hj, rfl, rfl, rfl⟩
 have hx := (mixN_len b j).trans hb
 refine w_seq ?_
 refine w_seq ?_
 refine g_reg hP hn ?_
 refine s_op k_mv ?_
 refine s_op k_lss ?_
 refine s_nil trivial ?_
 refine n_wp ?_
 refine w_if rfl (fun h_t9 => ?_) (fun h_t9 => ?_)
 · skip
   refine w_skip ?_
   refine n_wp ?_
   refine w_seq ?_
   refine w_block ?_
   refine w_seq ?_
   refine g_any hP hn ?_
   refine s_op k_mv ?_
   refine s_op k_ix ?_
   refine s_op k_ld ?_
   refine s_op k_mv ?_
   refine s_op k_add ?_
   refine s_op k_ix ?_
   refine s_op k_ld ?_
   refine s_op k_xor ?_
   refine s_op k_mv ?_
   refine s_op k_add ?_
   refine s_op k_ix ?_
   refine s_op k_ld ?_
   refine s_op k_xor ?_
   refine s_op k_mv ?_
   refine s_op k_add ?_
   refine s_op k_ix ?_
   refine s_op k_ld ?_
   refine s_op k_xor ?_
   refine s_op k_as ?_
   refine s_nil (by kernel_rfl) ?_
   refine n_wp ?_
   refine w_seq ?_
   refine g_reg hP hn ?_
   refine s_op k_mv ?_
   refine s_op k_ix ?_
   refine s_op k_ld ?_
   refine s_op k_as ?_
   refine s_nil trivial ?_
   refine n_wp ?_
   refine w_seq ?_
   refine g_reg hP hn ?_
   refine s_op k_mv ?_
   refine s_nil trivial ?_
   refine n_wp ?_
   refine w_block ?_
   refine c_loop (fun m T H => ∃ i, i ≤ 4 ∧ m = 4 - i ∧ T = [(1, .s (.ptr 0 0 0)), (2, .s (.ptr 1 0 0)), (3, .s (.int .i64 ((4 * j : Nat) : Int))), (4, .s (.int .u8 (xorK .u8 (xorK .u8 (xorK .u8 ((mixN b j).getD (4 * j) 0) ((mixN b j).getD (4 * j + 1) 0)) ((mixN b j).getD (4 * j + 2) 0)) ((mixN b j).getD (4 * j + 3) 0)))), (5, .s (.int .u8 ((mixN b j).getD (4 * j) 0))), (33, .s (.int .i64 ((i : Nat) : Int)))] ∧ H = [some ⟨true, [.ints .u8 16 (mixR (mixN b j) (4 * j) (xorK .u8 (xorK .u8 (xorK .u8 ((mixN b j).getD (4 * j) 0) ((mixN b j).getD (4 * j + 1) 0)) ((mixN b j).getD (4 * j + 2) 0)) ((mixN b j).getD (4 * j + 3) 0)) ((mixN b j).getD (4 * j) 0) i)]⟩, some ⟨true, [.ints .u8 16 (z 16)]⟩]) (4) ⟨0, by omega, rfl, rfl, rfl⟩ (wk hE []) ?_
   rintro n_ T_ H_ ⟨i, hi, rfl, rfl, rfl⟩
   have hy := (mixR_len (mixN b j) (4 * j) (xorK .u8 (xorK .u8 (xorK .u8 ((mixN b j).getD (4 * j) 0) ((mixN b j).getD (4 * j + 1) 0)) ((mixN b j).getD (4 * j + 2) 0)) ((mixN b j).getD (4 * j + 3) 0)) ((mixN b j).getD (4 * j) 0) i).trans hx
   refine w_seq ?_
   refine g_reg hP hn ?_
   refine s_op k_lss ?_
   refine s_nil trivial ?_
   refine n_wp ?_
   refine w_seq ?_
   refine w_if rfl (fun h_t34 => ?_) (fun h_t34 => ?_)
   · skip
     refine w_skip ?_
     refine n_wp ?_
     refine w_seq ?_
     refine w_block ?_
     refine w_seq ?_
     refine g_reg hP hn ?_
     refine s_op k_mv ?_
     refine s_op k_as ?_
     refine s_nil trivial ?_
     refine n_wp ?_
     refine w_seq ?_
     refine g_reg hP hn ?_
     refine s_op k_mv ?_
     refine s_op k_as ?_
     refine s_nil trivial ?_
     refine n_wp ?_
     refine w_seq ?_
     refine w_seq ?_
     refine g_reg hP hn ?_
     refine s_op k_mv ?_
     refine s_op k_lss ?_
     refine s_nil trivial ?_
     refine n_wp ?_
     refine w_if rfl (fun h_t38 => ?_) (fun h_t38 => ?_)
     · skip
       have hsel : ∀ x y : Int, (if i < 3 then x else y) = x := fun x y => if_pos h_t38
       refine g_reg hP hn ?_
       refine s_op k_mv ?_
       refine s_op k_mv ?_
       refine s_op k_add ?_
       refine s_op k_add ?_
       refine s_op k_ix ?_
       refine s_op k_ld ?_
       refine s_op k_as ?_
       refine s_nil trivial ?_
       refine n_wp ?_
       refine g_any hP hn ?_
       refine s_op k_mv ?_
       refine s_op k_mv ?_
       refine s_op k_add ?_
       refine s_op k_ix ?_
       refine s_op k_ld ?_
       refine s_op k_mv ?_
       refine s_op k_mv ?_
       refine s_op k_mv ?_
       refine s_op k_add ?_
       refine s_op k_ix ?_
       refine s_op k_ld ?_
       refine s_op k_mv ?_
       refine s_op k_xor ?_
       refine s_op (k_call [] (con := twice_c _)) ?_
       refine s_op k_xor ?_
       refine s_op k_xor ?_
       refine s_op k_ix ?_
       refine s_st k_st ?_
       refine s_nil (by kernel_rfl) ?_
       refine n_blo ?_
       refine n_wp ?_
       refine g_reg hP hn ?_
       refine s_op k_add ?_
       refine s_op k_mv ?_
       refine s_nil trivial ?_
       exact n_round (4 - (i + 1)) (by omega) ⟨i + 1, by omega, rfl, rfl, by rw [mixR, hsel]⟩ (wk hE [])
     · skip
       have hsel : ∀ x y : Int, (if i < 3 then x else y) = y := fun x y => if_neg h_t38
       refine w_skip ?_
       refine n_wp ?_
       refine g_any hP hn ?_
       refine s_op k_mv ?_
       refine s_op k_mv ?_
       refine s_op k_add ?_
       refine s_op k_ix ?_
       refine s_op k_ld ?_
       refine s_op k_mv ?_
       refine s_op k_mv ?_
       refine s_op k_mv ?_
       refine s_op k_add ?_
       refine s_op k_ix ?_
       refine s_op k_ld ?_
       refine s_op k_mv ?_
       refine s_op k_xor ?_
       refine s_op (k_call [] (con := twice_c _)) ?_
       refine s_op k_xor ?_
       refine s_op k_xor ?_
       refine s_op k_ix ?_
       refine s_st k_st ?_
       refine s_nil (by kernel_rfl) ?_
       refine n_blo ?_
       refine n_wp ?_
       refine g_reg hP hn ?_
       refine s_op k_add ?_
       refine s_op k_mv ?_
       refine s_nil trivial ?_
       exact n_round (4 - (i + 1)) (by omega) ⟨i + 1, by omega, rfl, rfl, by rw [mixR, hsel]⟩ (wk hE [])
   · skip
     have hi4 : i = 4 := by omega
     rw [show mixR (mixN b j) (4 * j) _ _ i = mixN b (j + 1) by rw [hi4, mixN, mixC]]
     refine w_exit ?_
     refine x_thn ?_
     refine x_thn ?_
     refine x_eq ?_
     refine n_blo ?_
     refine n_wp ?_
     refine g_reg hP hn ?_
     refine s_op k_mv ?_
     refine s_op k_add ?_
     refine s_op k_as ?_
     refine s_nil trivial ?_
     exact n_round (4 - (j + 1)) (by omega) ⟨j + 1, by omega, rfl, rfl, rfl⟩ (wk hE [])
 · skip
   have hj4 : j = 4 := by omega
   rw [show mixN b j = mixI b by rw [hj4, mixI]]
   refine w_exit ?_
   refine x_thn ?_
   refine x_thn ?_
   refine x_eq ?_
   refine n_wp ?_
   refine w_seq ?_
   refine g_reg hP hn ?_
   refine s_op k_ld ?_
   refine s_st k_st ?_
   refine s_nil trivial ?_
   refine n_wp ?_
   refine w_ret ?_
   exact d_ret hP hn hE [] (r_cell Tryz.results116)

end Go.Proofs.X
end
