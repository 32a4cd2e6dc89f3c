/- A part of the proofs of this claim: BxE (Bx24, Bx25, Bx26, Bx27, Bx28). No conditions. -/
import Derived.Test.YthjccanlmhbecaaBxD
import Derived.OpenShut
import Derived.ChangeSlices
import Derived.Below
import Derived.ChangeSame
import Derived.SizedLaws
set_option linter.unusedVariables false
set_option linter.unusedSimpArgs false
section
/- Slices of memory within slices; copies of whatever length; parts of frozen structs as slices. No program. -/
namespace Go.Bx
/-- More may be looked at, and turned. -/
theorem LOk.wide {P : Program} {o : Oper} {T : Tm} {H H' : Heap} {v : AV} {F M F' M' : List Nat} (h : LOk P o T H H' v F M) (hF : ∀ id ∈ F, id ∈ F') (hM : ∀ id ∈ M, id ∈ M') (hs : ∀ id ∈ M', id ∈ F') (hl : ∀ id ∈ F', id < H.length) : LOk P o T H H' v F' M' := by
  refine ⟨h.len, fun id hi hn => h.keep id hi fun hm => hn (hM id hm), hs, hl, ?_⟩
  intro W ρ a w hH hfr hW ho
  rw [msk_len, msk_len] at hfr
  refine (h.frame (c := hget (msk F' H.length H)) hH (fun id hi _ => by rw [hget_msk, if_pos (.inl (hF id hi))]) hfr hW ho).mono fun v' w' ⟨ρ', W', hn, hv⟩ => ⟨ρ', W', ?_, hv⟩
  rw [msk_len, msk_len]
  refine (?_ : (fun id => if id ∈ M ∨ (H.length ≤ id ∧ id < H'.length) then hget H' id else hget (msk F' H.length H) id) = hget (msk F' H.length H')) ▸ hn
  funext id
  rw [hget_msk, hget_msk]
  by_cases h1 : id ∈ M
  · rw [if_pos (.inl h1), if_pos (.inl (hs id (hM id h1)))]
  · by_cases h2 : H.length ≤ id
    · by_cases h3 : id < H'.length
      · rw [if_pos (.inr ⟨h2, h3⟩), if_pos (.inr h2)]
      · rw [if_neg (fun e => e.elim h1 fun e => h3 e.2), if_pos (.inr h2), if_pos (.inr h2), hget_ge h2, hget_ge (by omega)]
    · rw [if_neg (fun e => e.elim h1 fun e => h2 e.1)]
      by_cases h4 : id ∈ F'
      · rw [if_pos (.inl h4), if_pos (.inl h4), h.keep id (by omega) h1]
      · rw [if_neg (fun e => e.elim h4 h2), if_neg (fun e => e.elim h4 h2)]
theorem spl_none (xs ys : List Int) (i m : Nat) (h : xs.length = m) : spl xs ys i 0 m = xs := by
  apply List.ext_getElem (by simp [spl, h])
  intro j h1 h2
  simp only [spl, List.getElem_map, List.getElem_range]
  rw [if_neg (by omega), List.getD_eq_getElem?_getD, List.getElem?_eq_getElem h2]; rfl
theorem segSet_same : ∀ {l : List Seg} {b : Nat} {s : Seg}, segAt l b = some s → segSet l b s = l
  | [], _, _, h => by simp [segAt] at h
  | x :: r, b, s, h => by
    simp only [segAt] at h
    simp only [segSet]
    cases hb : Nat.beq b 0 with
    | true => rw [hb] at h; simp at h; subst h; rfl
    | false =>
      rw [hb] at h
      simp only [cond_false] at h ⊢
      cases hs : Nat.ble x.size b with
      | false => rw [hs] at h; simp at h
      | true => rw [hs] at h; rw [segSet_same h]
theorem hset_same {H : Heap} {id : Nat} {k : Blk} (h : hget H id = some k) : H.set id (some k) = H := by
  unfold hget at h
  apply List.ext_getElem? fun i => ?_
  by_cases hi : i = id
  · subst hi
    cases hc : H[i]? with
    | none => rw [hc] at h; simp at h
    | some x =>
      rw [hc] at h
      simp at h
      subst h
      rw [List.getElem?_set_self (by have := (List.getElem?_eq_some_iff.1 hc).1; exact this)]
  · rw [List.getElem?_set_ne (fun e => hi e.symm)]
section
variable {P : Program} {T : Tm} {H : Heap} {d : Option Tmp} {ty : TypeId} {pos : String} {af : Array Edge} {g : Option (Nat × Bool)}
/-- Integers copied into a row, also none. -/
theorem a_copyG {x y : Operand} {t tx e rt : TypeId} {id base idx dl dc n m q : Nat} {k : IntKind} {u : SV} {segs : List Seg} {xs ys zz : List Int} {R : List Nat} {H' : Heap} (hx : ev T x = .s (.slice id base idx dl dc)) (hy : ev T y = .s u) (hb : hget H id = some ⟨true, segs⟩) (hsrc : ASrc P tx 1 R H u m [.ints k m ys]) (hu1 : u.len = some m) (hn : min m dl = n)
    [hu : Und P t (.slice e)] [hs : Sz P e 1] (hsg : segAt segs base = some (.ints k q xs)) (hq : idx + n ≤ q) (hxl : xs.length = q) (hz : ys.take n = zz) (hRi : ∀ i ∈ R, i < H.length) (hH : H.set id (some ⟨true, segSet segs base (.ints k q (spl xs zz idx n q))⟩) = H') :
    LOk P ⟨d, .call ⟨.builtin .copy, #[x, y], #[t, tx]⟩, rt, pos, af, g⟩ T H H' (.s (.int .i64 (n : Int))) (id :: R) [id] := by
  by_cases h0 : 0 < n
  · exact a_copyI hx hy hb hsrc hn hsg h0 hq hz hRi hH
  · have h0 : n = 0 := by omega
    subst h0
    rw [spl_none _ _ _ _ hxl, segSet_same hsg, hset_same hb] at hH
    subst hH
    refine (a_copy0 hx hy hu1 hn).wide (fun _ h => by cases h) (fun _ h => by cases h) (fun j hj => ?_) (fun j hj => ?_)
    · simp at hj; subst hj; simp
    · simp only [List.mem_cons] at hj
      rcases hj with rfl | hj
      · exact hget_lt hb
      · exact hRi j hj
/-- A literal slice of slices, memory of its own. -/
theorem a_bslS {t e : TypeId} {n n0 : Nat} {parts : Array (Nat × Operand)} {ps : List (Nat × Operand)} {l : List (Nat × AV)} {segs : List Seg} (vs : List SV) (hps : parts.toList = ps) (hl : PartL T ps l) [hu : Und P t (.slice e)] [he : Sz P e 1] (hbig : n * 1 ≤ 16777216) [hz : Zn P e] (hs : fillS (fun i => some (i * 1, 1)) ((List.range (n * 1)).map fun _ => .one .nils) l = some segs) (hZ1 : rowOk ((List.range (n * 1)).map fun _ => .one .nils) ((Array.range (n * 1)).map fun i => (Value.slice none 0 0).cells[i % (Value.slice none 0 0).cells.size]!) = true) (hvs : segs = vs.map Seg.one)
    (h0 : 0 < n * 1) (hn : H.length = n0) {H' : Heap} (hH : H ++ [some ⟨true, vs.map Seg.one⟩] = H') : LOk P ⟨d, .buildSlice t n parts, ty, pos, af, g⟩ T H H' (.s (.slice n0 0 0 n n)) [] [] :=
  l_bsl hps hl hu.h he.h hbig hz.h hZ1 hs h0 (fun _ _ h => hvs ▸ h) hn hH
/-- A frozen array within a frozen struct, or a part of it, as a slice. -/
theorem a_slp {t e : TypeId} {x : Operand} {lo hi mx : Option Operand} {q : Nat} {segs : List Seg} {k : IntKind} {xs : List Int} {base len l h m : Nat} {ys : List Int} (hx : ev T x = .s (.fptr q (cellsF segs) base 0)) [hu : Und P t (.array len e)] [hs : Sz P e 1] (hsg : segAt segs base = some (.ints k len xs)) (hlo : Bnd T lo 0 l) (hhi : Bnd T hi len h) (hmx : Bnd T mx len m) (hho : (mx.isSome && hi.isNone) = false)
    (h1 : l ≤ h) (h2 : h ≤ m) (h3 : m ≤ len) (hq : base + len ≤ q) (hxl : xs.length = len) (hr : (xs.drop l).take (h - l) = ys) : LOk P ⟨d, .slice t x lo hi mx, ty, pos, af, g⟩ T H H (.s (.fzi k ys)) [] [] :=
  l_slf (xs := xs) hx hlo hhi hmx hho hu.h hs.h h1 h2 h3 (by omega) (fun i hi => by
    have h := segAt_at hsg i hi
    unfold cellsF
    rw [show base + 0 + i = base + i by omega, h]; rfl) hxl hr
theorem k_slp {t e : TypeId} {x : Operand} {q : Nat} {segs : List Seg} {k : IntKind} {xs : List Int} {base len : Nat} [hu : Und P t (.array len e)] [hs : Sz P e 1] (hx : ev T x = .s (.fptr q (cellsF segs) base 0) := by rfl) (hsg : segAt segs base = some (.ints k len xs) := by rfl) (hq : Nat.ble (base + len) q = true := by rfl) (hxl : xs.length = len := by first | assumption | exact spl_len _ _ _ _ _ | simp [*]) : LOk P ⟨d, .slice t x none none none, ty, pos, af, g⟩ T H H (.s (.fzi k xs)) [] [] :=
  a_slp (l := 0) (h := len) (m := len) hx hsg rfl rfl rfl rfl (Nat.zero_le _) (Nat.le_refl _) (Nat.le_refl _) (Nat.le_of_ble_eq_true hq) hxl (by rw [List.drop_zero, Nat.sub_zero, ← hxl, List.take_length])
/-- Its first n. -/
theorem k_slph (n : Nat) {t e : TypeId} {x y : Operand} {q : Nat} {segs : List Seg} {k kk : IntKind} {z : Int} {xs : List Int} {base len : Nat} [hu : Und P t (.array len e)] [hs : Sz P e 1] (hx : ev T x = .s (.fptr q (cellsF segs) base 0) := by rfl) (hy : ev T y = .s (.int kk z) := by rfl) (hz : z = (n : Int) := by rfl) (hsg : segAt segs base = some (.ints k len xs) := by rfl) (hn : n ≤ len := by omega) (hq : Nat.ble (base + len) q = true := by rfl) (hxl : xs.length = len := by first | assumption | exact spl_len _ _ _ _ _ | simp [*]) : LOk P ⟨d, .slice t x none (some y) none, ty, pos, af, g⟩ T H H (.s (.fzi k (xs.take n))) [] [] :=
  a_slp (l := 0) (h := n) (m := len) hx hsg rfl ⟨_, _, hy, hz⟩ rfl rfl (Nat.zero_le _) hn (Nat.le_refl _) (Nat.le_of_ble_eq_true hq) hxl (by rw [List.drop_zero, Nat.sub_zero])
end
section
variable {P : Program} {T : Tm} {H : Heap} {d : Option Tmp} {ty : TypeId} {pos : String} {af : Array Edge} {g : Option (Nat × Bool)}
theorem k_cpg (n : Nat) {x y : Operand} {t tx e rt : TypeId} {id base idx dl dc m q : Nat} {k : IntKind} {u : SV} {segs : List Seg} {xs ys zz : List Int} {R : List Nat} {H' : Heap} [hu : Und P t (.slice e)] [hs : Sz P e 1] (hx : ev T x = .s (.slice id base idx dl dc) := by rfl) (hy : ev T y = .s u := by rfl) (hb : hget H id = some ⟨true, segs⟩ := by rfl) (hsrc : ASrc P tx 1 R H u m [.ints k m ys] := by first | exact asrc_fzi Und.h | exact asrc_sl Und.h rfl (by first | exact .seg rfl rfl | exact .ints rfl (by omega)) | exact asrc_gro Und.h rfl (by first | exact .seg rfl rfl | exact .ints rfl (by omega))) (hu1 : u.len = some m := by rfl) (hn : min m dl = n := by first | omega | (simp; omega))
    (hsg : segAt segs base = some (.ints k q xs) := by rfl) (hq : idx + n ≤ q := by omega) (hxl : xs.length = q := by first | assumption | exact spl_len _ _ _ _ _ | (simp [*, spl_len]; done) | (simp [*, spl_len]; omega)) (hz : ys.take n = zz := by first | exact take_same | rfl) (hRi : ∀ i ∈ R, i < H.length := by first | exact fun _ h => (List.not_mem_nil h).elim | (intro i hi; simp at hi; subst hi; exact Nat.le_of_ble_eq_true rfl)) (hH : H.set id (some ⟨true, segSet segs base (.ints k q (spl xs zz idx n q))⟩) = H' := by exact hset_seg (by first | exact sset_0 | exact sset_s _ rfl rfl sset_0 | exact sset_s _ rfl rfl (sset_s _ rfl rfl sset_0)) (by repeat (first | exact hset_0 | apply hset_s))) :
    LOk P ⟨d, .call ⟨.builtin .copy, #[x, y], #[t, tx]⟩, rt, pos, af, g⟩ T H H' (.s (.int .i64 (n : Int))) (id :: R) [id] := a_copyG hx hy hb hsrc hu1 hn hsg hq hxl hz hRi hH
theorem k_bsS {t e : TypeId} {n n0 : Nat} {parts : Array (Nat × Operand)} {ps : List (Nat × Operand)} {l : List (Nat × AV)} {segs : List Seg} {H' : Heap} (vs : List SV) [hu : Und P t (.slice e)] [he : Sz P e 1] [hz : Zn P e] [hN : LenN H n0] (hps : parts.toList = ps := by rfl) (hl : PartL T ps l := by first | exact .nil | exact (pc (k := .nil)) | exact (pc (k := (pc (k := .nil)))) | exact (pc (k := (pc (k := (pc (k := .nil)))))) | exact (pc (k := (pc (k := (pc (k := (pc (k := .nil)))))))) | exact (pc (k := (pc (k := (pc (k := (pc (k := (pc (k := .nil)))))))))) | exact (pc (k := (pc (k := (pc (k := (pc (k := (pc (k := (pc (k := .nil))))))))))))) (hbig : n * 1 ≤ 16777216 := by exact Nat.le_of_ble_eq_true rfl) (hs : fillS (fun i => some (i * 1, 1)) ((List.range (n * 1)).map fun _ => .one .nils) l = some segs := by exact rfl) (hZ1 : rowOk ((List.range (n * 1)).map fun _ => .one .nils) ((Array.range (n * 1)).map fun i => (Value.slice none 0 0).cells[i % (Value.slice none 0 0).cells.size]!) = true := by kernel_rfl) (hvs : segs = vs.map Seg.one := by exact rfl) (h0 : 0 < n * 1 := by exact Nat.le_of_ble_eq_true rfl) (hH : H ++ [some ⟨true, vs.map Seg.one⟩] = H' := by repeat (first | exact happ_0 | apply happ_s)) : LOk P ⟨d, .buildSlice t n parts, ty, pos, af, g⟩ T H H' (.s (.slice n0 0 0 n n)) [] [] := a_bslS vs hps hl hbig hs hZ1 hvs h0 hN.h hH
end
/-- A slice of one slice, as a value. -/
theorem conv_rows1 {H : Heap} {id : Nat} {R : List Nat} {k : Blk} {x y : SV} {gg : Nat → Nat → SV} (hb : hget H id = some k) (hro : k.rw = false) (hs : k.segs = [.one x]) (hx : AConv R H (.s x) (.s y)) (hg : gg 0 0 = y) (hy : y.idB (fun _ => false) = true) : AConv (id :: R) H (.s (.slice id 0 0 1 1)) (.s (.fz 1 1 gg)) :=
  conv_rows hb hro (Nat.le_refl _) fun i j hi hj => by
    have hi0 : i = 0 := by omega
    have hj0 : j = 0 := by omega
    subst hi0; subst hj0
    exact ⟨x, by rw [hs]; rfl, by rw [hg]; exact hx, by rw [hg]; exact hy⟩
end Go.Bx
end

section
/- Constants' bytes, marked; bytes as strings; what an operation gives, told otherwise. No program. -/
namespace Go.Bx
/-- What is given, told otherwise. -/
theorem LOk.conv {P : Program} {o : Oper} {T : Tm} {H H' : Heap} {v v' : AV} {F M R : List Nat} (h : LOk P o T H H' v F M) (hc : AConv R H' v v') (hR : ∀ id ∈ R, id ∈ F ∨ H.length ≤ id) : LOk P o T H H' v' F M := by
  refine ⟨h.len, h.keep, h.sub, h.lt, ?_⟩
  intro W ρ a w hH hfr hW ho
  refine (h.run W ρ a w hH hfr hW ho).mono fun u w' ⟨ρ', W', hn, hv⟩ => ⟨ρ', W', hn, ?_⟩
  refine hc _ W' ρ' w' u (fun id hi => ?_) hn.rep hv
  rw [hget_msk, if_pos (hR id hi)]
/-- A block that was turned is let go. -/
theorem LOk.drop {P : Program} {o : Oper} {T : Tm} {H H' : Heap} {v : AV} {F M : List Nat} {id : Nat} (h : LOk P o T H H' v F M) (hi : id ∈ M) : LOk P o T H (H'.set id none) v F M := by
  have hl := h.lt id (h.sub id hi)
  have hl' : id < H'.length := Nat.lt_of_lt_of_le hl h.len
  refine ⟨by simpa using h.len, fun j hj hn => ?_, h.sub, h.lt, ?_⟩
  · rw [hget_set hl', if_neg (fun e => hn (by rw [e]; exact hi)), h.keep j hj hn]
  · intro W ρ a w hH hfr hW ho
    rw [msk_len, msk_len, List.length_set] at hfr
    refine (h.run W ρ a w hH (by rw [msk_len, msk_len]; exact hfr) hW ho).mono fun u w' ⟨ρ', W', hn, hv⟩ => ⟨ρ', W', ?_, hv⟩
    rw [msk_len, msk_len] at hn
    rw [msk_len, msk_len, List.length_set]
    refine ⟨hn.le, hn.old, hn.rep.sub fun j k e => ?_, hn.fr, hn.sub, hn.fresh, hn.fzn⟩
    rw [hget_msk] at e ⊢
    split at e
    · rename_i h1
      rw [hget_set hl'] at e
      split at e
      · cases e
      · rw [if_pos h1]; exact e
    · cases e
theorem freeze_at {w : World} {b n : Nat} {cells : Array Value} {t : TypeId} (h : w.heap[b]? = some (.cells cells t (0, 0))) : (w.freeze ⟨b, n, none⟩ 1).heap[b]? = some (.cells cells t (n, n + 1)) := by
  unfold World.freeze
  rw [if_neg (by decide)]
  obtain ⟨hl, hk⟩ := Array.getElem?_eq_some_iff.1 h
  show (w.heap.modify b _)[b]? = _
  rw [Array.getElem?_eq_getElem (by simpa using hl), Array.getElem_modify_self, hk]
  rfl
theorem freeze_other {w : World} {b n k : Nat} (h : k ≠ b) : (w.freeze ⟨b, n, none⟩ 1).heap[k]? = w.heap[k]? := by
  unfold World.freeze
  rw [if_neg (by decide)]
  show (w.heap.modify b _)[k]? = _
  rw [Array.getElem?_modify, if_neg (fun e => h e.symm)]
theorem freeze_size {w : World} {b n : Nat} : (w.freeze ⟨b, n, none⟩ 1).heap.size = w.heap.size := by
  unfold World.freeze
  rw [if_neg (by decide)]
  show (w.heap.modify b _).size = _
  simp
theorem freeze_rest {w : World} {b n : Nat} : (w.freeze ⟨b, n, none⟩ 1).os = w.os ∧ (w.freeze ⟨b, n, none⟩ 1).tape = w.tape ∧ (w.freeze ⟨b, n, none⟩ 1).output = w.output := by
  unfold World.freeze
  rw [if_neg (by decide)]
  exact ⟨rfl, rfl, rfl⟩
/-- A block's mark, of one that nobody writes. -/
theorem HRep.mark {W : Nat → Prop} {ρ : Rho} {h : Nat → Option Blk} {w : World} {b n : Nat} {cells : Array Value} {t : TypeId} (hH : HRep W ρ h w) (hb : w.heap[b]? = some (.cells cells t (0, 0))) (hW : ¬ W b) : HRep W ρ h (w.freeze ⟨b, n, none⟩ 1) := by
  have hat : ∀ k cs t' fr, w.heap[k]? = some (Obj.cells cs t' fr) → ∃ t2 f2, (w.freeze ⟨b, n, none⟩ 1).heap[k]? = some (Obj.cells cs t2 f2) := fun k cs t' fr e => by
    by_cases hk : k = b
    · subst hk
      rw [hb] at e
      cases e
      exact ⟨_, _, freeze_at hb⟩
    · exact ⟨t', fr, by rw [freeze_other hk]; exact e⟩
  refine ⟨fun id b' o e => by rw [freeze_size]; exact hH.lt id b' o e, fun id b' o k e1 e2 => ?_, hH.apart, fun b' cs e => ?_, fun b' m e => ?_⟩
  · obtain ⟨⟨c2, t2, f2, k1, k2, k3, k4⟩, k5⟩ := hH.rep id b' o k e1 e2
    refine ⟨?_, k5⟩
    by_cases hbb : b' = b
    · subst hbb
      obtain ⟨t3, f3, k6⟩ := hat _ _ _ _ k1
      exact ⟨c2, t3, f3, k6, fun e => absurd (k5 e) hW, k3, k4⟩
    · exact ⟨c2, t2, f2, by rw [freeze_other hbb]; exact k1, k2, k3, k4⟩
  · obtain ⟨h1, t2, f2, h2⟩ := hH.fz b' cs e
    obtain ⟨t3, f3, h3⟩ := hat _ _ _ _ h2
    exact ⟨h1, t3, f3, h3⟩
  · obtain ⟨cs, t2, f2, h2, h3⟩ := hH.sz b' m e
    obtain ⟨t3, f3, h4⟩ := hat _ _ _ _ h2
    exact ⟨cs, t3, f3, h4, h3⟩
section
variable {P : Program} {T : Tm} {H : Heap} {d : Option Tmp} {ty : TypeId} {pos : String} {af : Array Edge} {g : Option (Nat × Bool)}
/-- A constant's bytes: marked, and not written any more. -/
theorem l_mark {t e : TypeId} {x : Operand} {id base idx len cap : Nat} {segs : List Seg} (hx : ev T x = .s (.slice id base idx len cap)) (hb : hget H id = some ⟨true, segs⟩) (hu : P.underlying t = some (.slice e)) (he : P.underlying e = some (.int .u8)) :
    LOk P ⟨d, .convert t t x, ty, pos, af, g⟩ T H (H.set id (some ⟨false, segs⟩)) (.s (.slice id base idx len cap)) [id] [id] := by
  refine lok_set [id] (fun j hj => by simp at hj; subst hj; exact hget_lt hb) (by simp) fun H0 hl0 h0 => ?_
  have hb0 : hget H0 id = some ⟨true, segs⟩ := by rw [h0 id (by simp)]; exact hb
  intro W ρ a w hH hn hW ho next Q hq
  have h1 : (ev T x).rep ρ (a.eval x) := ho x (by simp [Op.operands])
  rw [hx] at h1
  obtain ⟨b, o, hρ, h1⟩ := h1
  obtain ⟨⟨cells, tt, fr, g1, g2, g3, g4⟩, hWb⟩ := hH.rep id b o _ hρ hb0
  have hfr := g2 rfl
  subst hfr
  have hsh : w.shape? b = some (tt, cells.size) := by unfold World.shape?; rw [g1]
  have hrun : (execOp a.eval ⟨d, .convert t t x, ty, pos, af, g⟩).run P w = .ok (.value (a.eval x)) (w.freeze ⟨b, cells.size, none⟩ 1) := by
    simp [execOp, h1, convert, Sem.run_bind, run_underlying hu, run_underlying he, markStringish, hsh]
  rw [hrun]
  obtain ⟨ρ1, W1, r1, r2, r3, r4, r5, r6⟩ := hrep_frz hH hb0 hW
  have hlt := hget_lt hb0
  have hW1 : ¬ W1 b := by
    have hr := r3.rep id b o ⟨false, segs⟩ (by rw [r2]; exact hρ) (by rw [hget_set hlt, if_pos rfl])
    obtain ⟨⟨c2, _, _, _, _, k3, _⟩, _⟩ := hr
    exact (r3.fz b c2 (k3 rfl)).1
  refine hq _ _ ⟨ρ1, W1, ⟨r1, fun i x e => by rw [r2] at e; exact .inl e, r3.mark g1 hW1, ⟨freeze_rest.1, freeze_rest.2.1, freeze_rest.2.2, Nat.le_of_eq freeze_size.symm, fun k _ hk => freeze_other (fun e => hk (e ▸ hWb rfl)), fun k ob hk hc => ?_, fun k cs t' fr hk => ?_⟩, r4, fun k hk => by rw [freeze_size] at hk; exact r5 k hk, fun k c e => r6 k c e⟩, ⟨b, o, by rw [r2]; exact hρ, h1⟩⟩
  · by_cases e : k = b
    · subst e; rw [g1] at hk; cases hk; simp [Obj.isCells] at hc
    · rw [freeze_other e]; exact hk
  · by_cases e : k = b
    · subst e; rw [g1] at hk; cases hk; exact ⟨_, _, _, freeze_at g1, rfl⟩
    · exact ⟨cs, t', fr, by rw [freeze_other e]; exact hk, rfl⟩
theorem a_mark {t e : TypeId} {x : Operand} {id base idx len cap n : Nat} {l l' : List Int} {segs : List Seg} {H' : Heap} (hx : ev T x = .s (.slice id base idx len cap)) (hb : hget H id = some ⟨true, segs⟩) [hu : Und P t (.slice e)] [he : Und P e (.int .u8)] (hs : segAt segs base = some (.ints .u8 n l)) (hn : idx + len ≤ n) (hc : len ≤ cap) (hl : l.length = n) (hl' : (l.drop idx).take len = l') (hH : H.set id none = H') :
    LOk P ⟨d, .convert t t x, ty, pos, af, g⟩ T H H' (.s (.fzi .u8 l')) [id] [id] := by
  have hlt := hget_lt hb
  have h := ((l_mark (d := d) (ty := ty) (pos := pos) (af := af) (g := g) hx hb hu.h he.h).conv (conv_sl (k := ⟨false, segs⟩) (by rw [hget_set hlt, if_pos rfl]) rfl hs hn hc hl hl') (fun j hj => .inl hj)).drop (id := id) (by simp)
  rw [List.set_set, hH] at h
  exact h
theorem k_mark {t e : TypeId} {x : Operand} {id base idx len cap n : Nat} {l l' : List Int} {segs : List Seg} {H' : Heap} [hu : Und P t (.slice e)] [he : Und P e (.int .u8)] (hx : ev T x = .s (.slice id base idx len cap) := by rfl) (hb : hget H id = some ⟨true, segs⟩ := by rfl) (hs : segAt segs base = some (.ints .u8 n l) := by rfl) (hn : idx + len ≤ n := by omega) (hc : len ≤ cap := by omega) (hl : l.length = n := by rfl) (hl' : (l.drop idx).take len = l' := by rfl) (hH : H.set id none = H' := by repeat (first | exact hset_0 | apply hset_s)) :
    LOk P ⟨d, .convert t t x, ty, pos, af, g⟩ T H H' (.s (.fzi .u8 l')) [id] [id] := a_mark hx hb hs hn hc hl hl' hH
/-- Frozen bytes, as a string. -/
theorem l_strf {t ts e : TypeId} {x : Operand} {A : List Int} (hx : ev T x = .s (.fzi .u8 A)) (hu : P.underlying t = some (.slice e)) (he : P.underlying e = some (.int .u8)) (hd : P.underlying ts = some .string) : LOk P ⟨d, .convert t ts x, ty, pos, af, g⟩ T H H (.s (.val (.string (strOfNums A)))) [] [] :=
  lok_read [] (fun _ h => by cases h) fun H0 hl0 _ => .pure fun W ρ a w hH ho => by
    have h1 := one (op := .convert t ts x) rfl ho hx
    have hr : (convert t ts (a.eval x)).run P w = .ok (.string (strOfNums A)) w := by
      rcases h1 with ⟨rfl, aa, c, h1⟩ | ⟨b, o, c, cs, h1, h2, h3, h4⟩
      · rw [h1]
        cases aa with
        | none =>
          have := run_convert_bytes_nil (P := P) w t e hu he 0 c ts hd
          rw [this]
          rfl
        | some ad =>
          rw [run_convert_bytes_string w t ts e _ 0 c hu he hd]
          rfl
      · rw [h1]
        obtain ⟨_, tt, fr, g1⟩ := hH.fz b cs h3
        exact run_convert_bytes_arg (P := P) w t e hu he b o A.length c A rfl (fun i hi => by
          simp only [World.cell?, g1, h4 i hi]
          simp) ts hd
    exact ⟨.string (strOfNums A), by simp [execOp, hr], rfl, rfl⟩
theorem k_str {t ts e : TypeId} {x : Operand} {A : List Int} [hu : Und P t (.slice e)] [he : Und P e (.int .u8)] [hd : Und P ts .string] (hx : ev T x = .s (.fzi .u8 A) := by rfl) : LOk P ⟨d, .convert t ts x, ty, pos, af, g⟩ T H H (.s (.val (.string (strOfNums A)))) [] [] := l_strf hx hu.h he.h hd.h
theorem l_seql {t tyy : TypeId} {x y : Operand} {p q : ByteArray} {r : Bool} (hx : ev T x = .s (.val (.string p))) (hy : ev T y = .s (.val (.string q))) (hr : (p.toList == q.toList) = r) : LOk P ⟨d, .binOp .eql t x y tyy, ty, pos, af, g⟩ T H H (.s (.bool r)) [] [] :=
  lok_pure fun ρ a w ho => by
    obtain ⟨h1, h2⟩ := two (op := .binOp .eql t x y tyy) rfl ho hx hy
    simp only [AV.rep, SV.rep] at h1 h2
    refine ⟨.bool r, ?_, rfl⟩
    subst hr
    simp [execOp, h1.1, h2.1, Sem.run_bind, eqGuard, binOp_string_eql]
end
end Go.Bx
end

section
/- Rows: literal slices of structs, rows put behind rows, integers behind integers. No program. -/
namespace Go.Bx
theorem Joins.rows {n m wd q : Nat} {g g2 g' : Nat → Nat → SV} (hw : 0 < wd) (hq : n ≤ q) (hg : ∀ i j, i < n → j < wd → g' i j = g i j) (hn : ∀ i j, i < m → j < wd → g' (n + i) j = g2 i j) : Joins [.rows q wd g] (n * wd) [.rows m wd g2] (m * wd) [.rows (n + m) wd g'] := by
  refine ⟨by simp [sizeS, Seg.size, Nat.add_mul], fun i y hy => ?_⟩
  have hs1 : (Seg.rows (n + m) wd g').size = (n + m) * wd := rfl
  have hs2 : (Seg.rows q wd g).size = q * wd := rfl
  have hs3 : (Seg.rows m wd g2).size = m * wd := rfl
  have hy' : i < (n + m) * wd ∧ y = .noid (g' (i / wd) (i % wd)) := by
    simp only [atS] at hy
    rw [hs1] at hy
    by_cases hi : i < (n + m) * wd
    · rw [if_pos hi] at hy; exact ⟨hi, (Option.some.inj hy).symm⟩
    · rw [if_neg hi] at hy; cases hy
  obtain ⟨hi, rfl⟩ := hy'
  have hm := Nat.mod_lt i hw
  have hdm := Nat.div_add_mod i wd
  refine ⟨fun h1 => ?_, fun h1 => ?_⟩
  · have hd : i / wd < n := Nat.div_lt_of_lt_mul (by rwa [Nat.mul_comm])
    refine ⟨_, ?_, .inl rfl⟩
    have : i < q * wd := Nat.lt_of_lt_of_le h1 (Nat.mul_le_mul_right wd hq)
    simp only [atS]
    rw [if_pos (by rw [hs2]; exact this)]
    simp only [Seg.at, hg _ _ hd hm]
  · have h3 : n ≤ i / wd := (Nat.le_div_iff_mul_le hw).2 h1
    have h2 : i / wd < n + m := Nat.div_lt_of_lt_mul (by rwa [Nat.mul_comm])
    obtain ⟨k, hk⟩ : ∃ k, i / wd = n + k := ⟨i / wd - n, by omega⟩
    have hkm : k < m := by omega
    have he : i - n * wd = k * wd + i % wd := by
      rw [hk, Nat.mul_comm, Nat.add_mul] at hdm; omega
    refine ⟨_, ?_, .inl rfl⟩
    rw [he]
    simp only [atS]
    rw [if_pos (by rw [hs3]; exact row_lt hkm hm)]
    simp only [Seg.at, (row_div hm).1, (row_div hm).2, hk, hn k _ hkm hm]
/-! ### Literal slices of rows -/
theorem flatS_app : ∀ (A B : List Seg), flatS (A ++ B) = flatS A ++ flatS B
  | [], B => rfl
  | .one v :: r, B => by simp [flatS, flatS_app r B]
  | .ints k n l :: r, B => by simp [flatS, flatS_app r B]
  | .rows n w g :: r, B => by simp [flatS, flatS_app r B]
theorem lensOk_app : ∀ (A B : List Seg), lensOk (A ++ B) = (lensOk A && lensOk B)
  | [], B => by simp [lensOk]
  | .one v :: r, B => by simp [lensOk, lensOk_app r B]
  | .ints k n l :: r, B => by simp [lensOk, lensOk_app r B, Bool.and_assoc]
  | .rows n w g :: r, B => by simp [lensOk, lensOk_app r B]
theorem all2_app : ∀ {a c : List SV} {b d : List Value}, all2 a b = true → all2 c d = true → all2 (a ++ c) (b ++ d) = true
  | [], _, [], _, _, h => h
  | [], _, _ :: _, _, h, _ => by simp [all2] at h
  | _ :: _, _, [], _, h, _ => by simp [all2] at h
  | x :: r, c, v :: s, d, h, k => by
    simp only [all2, Bool.and_eq_true] at h
    simp only [List.cons_append, all2, Bool.and_eq_true]
    exact ⟨h.1, all2_app h.2 k⟩
theorem rowOk_rep_n {Z : List Seg} {cs : Array Value} (h : rowOk Z cs = true) (n : Nat) : rowOk (List.replicate n Z).flatten ((List.replicate n cs.toList).flatten.toArray) = true := by
  simp only [rowOk, Bool.and_eq_true] at h ⊢
  induction n with
  | zero => exact ⟨rfl, rfl⟩
  | succ n ih =>
    rw [List.replicate_succ, List.replicate_succ, List.flatten_cons, List.flatten_cons]
    refine ⟨by rw [lensOk_app, h.1, ih.1]; rfl, ?_⟩
    rw [flatS_app]
    exact all2_app h.2 ih.2
theorem range_rep (cs : Array Value) (n : Nat) : ((Array.range (n * cs.size)).map fun i => cs[i % cs.size]!) = (List.replicate n cs.toList).flatten.toArray := by
  apply Array.ext'
  rw [Array.toList_map, Array.toList_range]
  show _ = (List.replicate n cs.toList).flatten
  induction n with
  | zero => simp
  | succ n ih =>
    rw [List.replicate_succ', List.flatten_append, ← ih, Nat.succ_mul, List.range_add, List.map_append]
    congr 1
    simp only [List.flatten_cons, List.flatten_nil, List.append_nil, List.map_map]
    apply List.ext_getElem
    · simp
    · intro i h1 h2
      have hi : i < cs.size := by simpa using h1
      simp [Nat.mul_add_mod, Nat.mod_eq_of_lt hi, Nat.mul_comm n cs.size, hi]
theorem atS_flatten {wd : Nat} : ∀ {RL : List (List Seg)} {i j : Nat}, (∀ r ∈ RL, sizeS r = wd) → i < RL.length → j < wd → atS RL.flatten (i * wd + j) = atS (RL.getD i []) j
  | [], _, _, _, h, _ => absurd h (Nat.not_lt_zero _)
  | r :: RL, 0, j, hs, _, hj => by
    have h0 := hs r (by simp)
    rw [List.flatten_cons, atS_append, if_pos (by omega)]; simp
  | r :: RL, i + 1, j, hs, hi, hj => by
    have h0 := hs r (by simp)
    have e : (i + 1) * wd + j = wd + (i * wd + j) := by rw [Nat.succ_mul]; omega
    rw [List.flatten_cons, atS_append, h0, if_neg (by omega), e, Nat.add_sub_cancel_left, atS_flatten (fun r hr => hs r (by simp [hr])) (by simpa using hi) hj]
    simp
section
variable {P : Program} {T : Tm} {H : Heap} {d : Option Tmp} {ty : TypeId} {pos : String} {af : Array Edge} {g : Option (Nat × Bool)}
theorem a_bslR {t e : TypeId} {n wd : Nat} {parts : Array (Nat × Operand)} {ps : List (Nat × Operand)} {l : List (Nat × AV)} {Z segs : List Seg} (RL : List (List Seg)) (hps : parts.toList = ps) (hl : PartL T ps l) [hu : Und P t (.slice e)] [he : Sz P e wd] (hbig : n * wd ≤ 16777216) [hz : Zv P e Z] (hZn : sizeS Z = wd) (hs : fillS (fun i => some (i * wd, wd)) (List.replicate n Z).flatten l = some segs) (hvs : segs = RL.flatten) (hvn : RL.length = n) (hsz : RL.all (fun r => Nat.beq (sizeS r) wd) = true) (hid : RL.all (fun r => r.all (Seg.idB fun _ => false)) = true)
    (h0 : 0 < n * wd) {H' : Heap} (hH : H ++ [none] = H') : LOk P ⟨d, .buildSlice t n parts, ty, pos, af, g⟩ T H H' (.s (.fz n wd (rowsF fun i => RL.getD i []))) [] [] := by
  obtain ⟨z, hz1, hz2⟩ := hz.h
  have hzs : z.cells.size = wd := by rw [(rowOk_rep hz2).1, hZn]
  have hZ1 : rowOk (List.replicate n Z).flatten ((Array.range (n * wd)).map fun i => z.cells[i % z.cells.size]!) = true := by
    have := range_rep z.cells n
    rw [hzs] at this
    rw [hzs, this]
    exact rowOk_rep_n hz2 n
  have hsz' : ∀ r ∈ RL, sizeS r = wd := fun r hr => by
    rw [List.all_eq_true] at hsz
    exact Nat.eq_of_beq_eq_true (hsz r hr)
  refine lok_val' (l_bsl hps hl hu.h he.h hbig hz1 hZ1 hs h0 (fun _ _ h => h) rfl rfl) (conv_rows (k := ⟨false, segs⟩) (R := []) (hget_last _ _) rfl (Nat.le_refl _) fun i j hi hj => ?_) hH
  have hi' : i < RL.length := by omega
  have hr : RL.getD i [] ∈ RL := by
    rw [List.getD_eq_getElem?_getD, List.getElem?_eq_getElem hi']; exact List.getElem_mem _
  obtain ⟨x, hx⟩ := atS_some (l := RL.getD i []) (i := j) (by rw [hsz' _ hr]; exact hj)
  refine ⟨x, ?_, ?_, ?_⟩
  · rw [hvs, show (0 + 0 + (i * wd + j)) = i * wd + j by omega, atS_flatten hsz' hi' hj, hx]
  · have : rowsF (fun i => RL.getD i []) i j = x := by unfold rowsF cellsF; rw [hx]; rfl
    rw [this]; exact .same
  · have : rowsF (fun i => RL.getD i []) i j = x := by unfold rowsF cellsF; rw [hx]; rfl
    rw [this]
    rw [List.all_eq_true] at hid
    exact atS_idB (hid _ hr) hx
/-- Literal slices of structs, as values. -/
theorem k_bsR {t e : TypeId} {n wd : Nat} {parts : Array (Nat × Operand)} {ps : List (Nat × Operand)} {l : List (Nat × AV)} {Z segs : List Seg} {H' : Heap} (RL : List (List Seg)) [hu : Und P t (.slice e)] [he : Sz P e wd] [hz : Zv P e Z] (hps : parts.toList = ps := by rfl) (hl : PartL T ps l := by first | exact .nil | exact (pc (k := .nil)) | exact (pc (k := (pc (k := .nil)))) | exact (pc (k := (pc (k := (pc (k := .nil)))))) | exact (pc (k := (pc (k := (pc (k := (pc (k := .nil)))))))) | exact (pc (k := (pc (k := (pc (k := (pc (k := (pc (k := .nil)))))))))) | exact (pc (k := (pc (k := (pc (k := (pc (k := (pc (k := (pc (k := .nil))))))))))))) (hbig : n * wd ≤ 16777216 := by exact Nat.le_of_ble_eq_true rfl) (hZn : sizeS Z = wd := by rfl) (hs : fillS (fun i => some (i * wd, wd)) (List.replicate n Z).flatten l = some segs := by exact rfl) (hvs : segs = RL.flatten := by exact rfl) (hvn : RL.length = n := by exact rfl) (hsz : RL.all (fun r => Nat.beq (sizeS r) wd) = true := by exact rfl) (hid : RL.all (fun r => r.all (Seg.idB fun _ => false)) = true := by exact rfl) (h0 : 0 < n * wd := by exact Nat.le_of_ble_eq_true rfl) (hH : H ++ [none] = H' := by repeat (first | exact happ_0 | apply happ_s)) : LOk P ⟨d, .buildSlice t n parts, ty, pos, af, g⟩ T H H' (.s (.fz n wd (rowsF fun i => RL.getD i []))) [] [] := a_bslR RL hps hl hbig hZn hs hvs hvn hsz hid h0 hH
theorem big_ok {n m b : Nat} (h : n + m ≤ 1000000) (hb : Nat.ble (1000000 * b) 140737488355328 = true) : (n + m) * b ≤ 140737488355328 := Nat.le_trans (Nat.mul_le_mul_right b h) (Nat.le_of_ble_eq_true hb)
/-- Rows behind rows. -/
theorem k_apr {x y : Operand} {t tx e rt : TypeId} {id n m c wd n0 q : Nat} {g1 g2 : Nat → Nat → SV} {inf : TypeInfo} {z : Value} {H' : Heap} (g' : Nat → Nat → SV) [hu : Und P t (.slice e)] [hux : Und P tx (.slice e)] [hi : Inf P e inf] [hN : LenN H n0] [hc : AddN n m c] (hx : ev T x = .s (.gro id wd n) := by rfl) (hy : ev T y = .s (.fz m wd g2) := by rfl) (hb : hget H id = some ⟨true, [.rows q wd g1]⟩ := by rfl) (hsz : inf.size = wd := by exact rfl) (hz : inf.zero = some z := by exact rfl) (hzs : z.cells.size = wd := by exact rfl) (hw : 0 < wd := by exact Nat.le_of_ble_eq_true rfl) (hq : n ≤ q := by omega) (hg : ∀ i j, i < n → j < wd → g' i j = g1 i j := by exact fun _ _ _ _ => rfl) (hgn : ∀ i j, i < m → j < wd → g' (n + i) j = g2 i j) (hbig : n + m ≤ 1000000 := by omega) (hbb : Nat.ble (1000000 * inf.bytes) 140737488355328 = true := by exact rfl) (hb1 : 0 < inf.bytes := by exact Nat.le_of_ble_eq_true rfl) (hH : H.set id none ++ [some (Blk.mk true [.rows c wd g'])] = H' := by exact rfl) :
    LOk P ⟨d, .call ⟨.builtin .append, #[x, y], #[t, tx]⟩, rt, pos, af, g⟩ T H H' (.s (.gro n0 wd c)) [id] [id] := by
  have hcc := hc.h
  subst hcc
  exact a_app hx hy hb hsz hz hzs (asrc_fz hw hux.h) (by simp [sizeS, Seg.size]; exact Nat.mul_le_mul_right wd hq) (.rows hw hq hg hgn) (big_ok hbig hbb) hb1 (fun _ h => by cases h) hN.h hH
/-- Integers behind integers. -/
theorem k_api {x y : Operand} {t tx e rt : TypeId} {id n c n0 q : Nat} {k : IntKind} {l l2 l' : List Int} {inf : TypeInfo} {z : Value} {H' : Heap} [hu : Und P t (.slice e)] [hux : Und P tx (.slice e)] [hi : Inf P e inf] [hN : LenN H n0] [hc : AddN n l2.length c] (hx : ev T x = .s (.gro id 1 n) := by rfl) (hy : ev T y = .s (.fzi k l2) := by rfl) (hb : hget H id = some ⟨true, [.ints k q l]⟩ := by rfl) (hsz : inf.size = 1 := by exact rfl) (hz : inf.zero = some z := by exact rfl) (hzs : z.cells.size = 1 := by exact rfl) (hl : l.length = n := by first | assumption | omega | simp [*]) (hq : n ≤ q := by omega) (hl' : l ++ l2 = l' := by rfl) (hbig : n + l2.length ≤ 1000000 := by omega) (hbb : Nat.ble (1000000 * inf.bytes) 140737488355328 = true := by exact rfl) (hb1 : 0 < inf.bytes := by exact Nat.le_of_ble_eq_true rfl) (hH : H.set id none ++ [some (Blk.mk true [.ints k c l'])] = H' := by exact rfl) :
    LOk P ⟨d, .call ⟨.builtin .append, #[x, y], #[t, tx]⟩, rt, pos, af, g⟩ T H H' (.s (.gro n0 1 c)) [id] [id] := by
  have hcc := hc.h
  subst hcc
  subst hl'
  refine a_app (sub := [.ints k l2.length l2]) hx hy hb hsz hz hzs (asrc_fzi hux.h) (by simp [sizeS, Seg.size]; omega) ?_ (big_ok hbig hbb) hb1 (fun _ h => by cases h) hN.h hH
  rw [Nat.mul_one, Nat.mul_one]
  exact .ints hl hq
/-- A literal slice of integers, memory of its own. -/
theorem k_bsK {t e : TypeId} {n n0 : Nat} {k : IntKind} {parts : Array (Nat × Operand)} {H' : Heap} (xs : List Int) [hu : Und P t (.slice e)] [he : Sz P e 1] [hz : Zi P e k] [hN : LenN H n0] (hl : (partsOf T parts.toList).all (fun p => p.2.solid) = true := by kernel_rfl) (hs : (fillS (fun i => some (i * 1, 1)) ((List.range (n * 1)).map fun _ => .one (.int k 0)) (partsOf T parts.toList)).bind (intsOf k) = some xs := by kernel_rfl) (hxn : xs.length = n := by rfl) (hbig : n * 1 ≤ 16777216 := by exact Nat.le_of_ble_eq_true rfl) (h0 : 0 < n * 1 := by exact Nat.le_of_ble_eq_true rfl) (hH : H ++ [some (Blk.mk true [.ints k n xs])] = H' := by repeat (first | exact happ_0 | apply happ_s)) : LOk P ⟨d, .buildSlice t n parts, ty, pos, af, g⟩ T H H' (.s (.slice n0 0 0 n n)) [] [] := by
  have hZ1 : rowOk ((List.range (n * 1)).map fun _ => .one (.int k 0)) ((Array.range (n * 1)).map fun i => (Value.int k 0).cells[i % (Value.int k 0).cells.size]!) = true := by
    have h1 : rowOk [.one (.int k 0)] (Value.int k 0).cells = true := by cases k <;> rfl
    have h2 := rowOk_rep_n h1 n
    have h3 := range_rep (Value.int k 0).cells n
    have h4 : (Value.int k 0).cells.size = 1 := rfl
    rw [h4] at h3
    rw [h4, h3]
    have h5 : ((List.range (n * 1)).map fun _ => Seg.one (.int k 0)) = (List.replicate n [Seg.one (.int k 0)]).flatten := by
      rw [Nat.mul_one]
      induction n with
      | zero => rfl
      | succ n ih =>
        rw [List.range_succ, List.map_append, List.replicate_succ', List.flatten_append]
        clear hl hs hxn hbig h0 hH h2 h3
        congr 1
        clear ih
        induction n with
        | zero => rfl
        | succ n ih => rw [List.range_succ, List.map_append, ih, List.replicate_succ', List.flatten_append]; rfl
    rw [h5]
    exact h2
  cases hq : fillS (fun i => some (i * 1, 1)) ((List.range (n * 1)).map fun _ => .one (.int k 0)) (partsOf T parts.toList) with
  | none => rw [hq] at hs; cases hs
  | some segs => rw [hq] at hs; exact a_bslI rfl (partsOf_ok hl) hbig hq hZ1 hs hxn h0 hN.h hH
end
section
variable {E : Env} {P : Program} {T : Tm} {H : Heap}
/-- Rows that grew are not written any more. -/
theorem frz_grz (t : Nat) {id len n wd : Nat} {g : Nat → Nat → SV} {H' : Heap} (hx : look T t = .s (.gro id wd len) := by rfl) (hb : hget H id = some ⟨true, [.rows n wd g]⟩ := by rfl) (hn : len ≤ n := by omega) (hH : H.set id none = H' := by repeat (first | exact hset_0 | apply hset_s)) : Weak E T H ((t, .s (.fz len wd g)) :: T) H' := by
  have hlt := hget_lt hb
  refine (weak_frz id hb rfl).trans ((weak_conv t hx (conv_grz (k := ⟨false, [.rows n wd g]⟩) (by rw [hget_set hlt, if_pos rfl]) rfl rfl hn)).trans (weak_drop id ?_))
  rw [List.set_set]; exact hH
end
end Go.Bx
end

section
/- What comes in, told as values: nothing of it is written. No program. -/
namespace Go.Bx
open Go.ChangeShapes Go.WideShapes
/-- All memory there is, as it is. -/
def rhoW (w : World) : Rho := ⟨fun _ => none, fun b => match w.heap[b]? with | some (.cells cs _ _) => some cs | _ => none, fun _ => none⟩
theorem rhoW_fz {w : World} {b : Nat} {cs : Array Value} {t : TypeId} {fr : Nat × Nat} (h : w.heap[b]? = some (.cells cs t fr)) : (rhoW w).fz b = some cs := by simp [rhoW, h]
theorem hrep_w (w : World) : HRep (fun b => w.heap.size ≤ b) (rhoW w) (hget []) w := by
  refine ⟨fun id b o e => (by cases e), fun id b o k e => (by cases e), fun id id' b o o' k k' _ e => (by cases e), fun b cs e => ?_, fun b n e => (by cases e)⟩
  simp only [rhoW] at e
  split at e
  · rename_i c t fr hb
    cases e
    exact ⟨fun h => absurd (Array.getElem?_eq_some_iff.1 hb).1 (by omega), t, fr, hb⟩
  · cases e
theorem calls_con {P : Program} {f : FuncId} {args : List AV} {r : Bool} {vals : Array Value} {w : World} (h : Con P f args [] (.s (.bool r)) []) (ha : ArgsRep (rhoW w) args vals) :
    Calls P f vals w fun e w' => e = .returned (.bool r) ∧ Go.RowKit.Below w.heap.size w w' := by
  refine (h.run (fun b => w.heap.size ≤ b) (rhoW w) vals w (hrep_w w) (fun _ _ => rfl) (fun _ h => h) ha).mono ?_
  rintro e w' ⟨v', ρ', W', rfl, hn, hv⟩
  have hv : v' = .bool r := hv
  subst hv
  exact ⟨rfl, hn.fr.os, hn.fr.tape, hn.fr.output, hn.fr.size, fun k hk => hn.fr.block k hk (by omega)⟩
section
variable {Hh : Type} {enc : TypeId × Value → Hh} {P : Program} {w : World} {base : Nat} {spare : Nat → Bool} {held : Bool}
/-- A type's cells, as segments of a shape. -/
def Op (enc : TypeId × Value → Hh) (P : Program) (w : World) (base : Nat) (spare : Nat → Bool) (held : Bool) (t : TypeId) (n : Nat) (S : List Seg → Prop) : Prop :=
  P.cellsOf t = n ∧ ∀ (fuel : Nat) (cs : List Value) (x : DataW Hh × List MemPlace), DataW.trod enc P w base spare held fuel t cs = some x → ∃ segs, S segs ∧ sizeS segs = n ∧ RowRep (rhoW w) segs (fun i => cs[i]?)
def shInt (k : IntKind) : List Seg → Prop := fun s => ∃ n, (Lit.int k n).wf = true ∧ s = [.one (.int k n)]
def shBool : List Seg → Prop := fun s => ∃ b, s = [.one (.bool b)]
def shArr (k : IntKind) (m : Nat) : List Seg → Prop := fun s => ∃ l : List Int, l.length = m ∧ (∀ y ∈ l, (Lit.int k y).wf = true) ∧ s = [.ints k m l]
def shInts (k : IntKind) : List Seg → Prop := fun s => ∃ l : List Int, l.length ≤ maxLen ∧ (∀ y ∈ l, (Lit.int k y).wf = true) ∧ s = [.one (.fzi k l)]
def shRows (wd : Nat) (S : List Seg → Prop) : List Seg → Prop := fun s => ∃ (n : Nat) (rows : Nat → List Seg), n ≤ maxLen ∧ (∀ i, i < n → S (rows i) ∧ sizeS (rows i) = wd) ∧ s = [.one (.fz n wd (rowsF rows))]
def shCat : List (Nat × (List Seg → Prop)) → List Seg → Prop
  | [], s => s = []
  | (n, S) :: r, s => ∃ a b, S a ∧ sizeS a = n ∧ shCat r b ∧ s = a ++ b
def total (Ss : List (Nat × (List Seg → Prop))) : Nat := (Ss.map (·.1)).sum
theorem op_int {t : TypeId} {k : IntKind} (ht : P.underlying t = some (.int k)) (hc : P.cellsOf t = 1) : Op enc P w base spare held t 1 (shInt k) :=
  ⟨hc, fun fuel cs x h => by
    obtain ⟨n, rfl, _, hw⟩ := DataW.trod_int ht h
    refine ⟨_, ⟨n, hw, rfl⟩, rfl, fun i y hy => ?_⟩
    obtain ⟨rfl, rfl⟩ := atS_one1 hy
    exact ⟨_, rfl, rfl, rfl⟩⟩
theorem op_bool {t : TypeId} (ht : P.underlying t = some .bool) (hc : P.cellsOf t = 1) : Op enc P w base spare held t 1 shBool :=
  ⟨hc, fun fuel cs x h => by
    obtain ⟨b, rfl, _⟩ := DataW.trod_bool ht h
    refine ⟨_, ⟨b, rfl⟩, rfl, fun i y hy => ?_⟩
    obtain ⟨rfl, rfl⟩ := atS_one1 hy
    exact ⟨_, rfl, rfl, rfl⟩⟩
theorem cell_blk {w : World} {a : Addr} {v : Value} (h : w.cell? a = some v) : ∃ cells t fr, w.heap[a.block]? = some (.cells cells t fr) ∧ a.spot = none ∧ cells[a.off]? = some v := by
  unfold World.cell? at h
  split at h
  · rename_i c t fr hb
    split at h
    · cases h
    · rename_i hs
      exact ⟨c, t, fr, hb, by simpa using hs, h⟩
  · cases h
theorem op_arr {t e : TypeId} {n : Nat} {k : IntKind} (ht : P.underlying t = some (.array n e)) (he : P.underlying e = some (.int k)) (hc : P.cellsOf e = 1) (hct : P.cellsOf t = n) : Op enc P w base spare held t n (shArr k n) :=
  ⟨hct, fun fuel cs x h => by
    obtain ⟨xs, m, _, _, hl, hlen, hall⟩ := DataW.trod_array ht h
    rw [hct] at hl
    have each : ∀ i, i < n → ∃ z, cs[i]? = some (.int k z) ∧ (Lit.int k z).wf = true := by
      intro i hi
      have h1 := hall i hi
      rw [hc, Nat.mul_one] at h1
      obtain ⟨y, hy⟩ : ∃ y, xs[i]? = some y := ⟨_, List.getElem?_eq_getElem (by rw [hlen]; exact hi)⟩
      rw [hy] at h1
      obtain ⟨z, hz, _, hw⟩ := DataW.trod_int he h1
      have := congrArg (·[0]?) hz
      simp [List.getElem?_drop] at this
      exact ⟨z, this, hw⟩
    have hg : ∀ (n : Nat) (cs : List Value), cs.length = n → (∀ i, i < n → ∃ z, cs[i]? = some (.int k z) ∧ (Lit.int k z).wf = true) → ∃ l : List Int, l.length = n ∧ (∀ y ∈ l, (Lit.int k y).wf = true) ∧ cs = l.map (Value.int k) := by
      intro n
      induction n with
      | zero => intro cs h _; exact ⟨[], rfl, by simp, by simpa using h⟩
      | succ n ih =>
        intro cs h hz
        cases cs with
        | nil => simp at h
        | cons c r =>
          obtain ⟨z, h1, h2⟩ := hz 0 (by omega)
          simp at h1
          subst h1
          obtain ⟨l, h3, h4, h5⟩ := ih r (by simpa using h) (fun i hi => by simpa using hz (i + 1) (by omega))
          exact ⟨z :: l, by simp [h3], by simpa [h2] using h4, by simp [h5]⟩
    obtain ⟨l, h1, h2, rfl⟩ := hg n cs hl each
    refine ⟨_, ⟨l, h1, h2, rfl⟩, by simp [sizeS, Seg.size], fun i y hy => ?_⟩
    obtain ⟨h3, rfl⟩ := atS_ints1 hy
    exact ⟨.int k (l.getD i 0), by simp [h1, h3], rfl, rfl⟩⟩
theorem rowRep_app {ρ : Rho} {a b : List Seg} {get : Nat → Option Value} (h1 : RowRep ρ a get) (h2 : RowRep ρ b (fun j => get (sizeS a + j))) : RowRep ρ (a ++ b) get := by
  intro i x hx
  rw [atS_append] at hx
  split at hx
  · exact h1 i x hx
  · rename_i hi
    obtain ⟨v, hv, hc⟩ := h2 _ x hx
    have hv : get (sizeS a + (i - sizeS a)) = some v := hv
    rw [show sizeS a + (i - sizeS a) = i by omega] at hv
    exact ⟨v, hv, hc⟩
theorem cat_rep {ρ : Rho} : ∀ {Ss : List (Nat × (List Seg → Prop))} {get : Nat → Option Value}, (∀ i n S, Ss[i]? = some (n, S) → ∃ segs, S segs ∧ sizeS segs = n ∧ RowRep ρ segs (fun j => get (total (Ss.take i) + j))) → ∃ segs, shCat Ss segs ∧ sizeS segs = total Ss ∧ RowRep ρ segs get
  | [], get, _ => ⟨[], rfl, rfl, fun i x hx => by simp [atS] at hx⟩
  | (n, S) :: r, get, h => by
    obtain ⟨a, a1, a2, a3⟩ := h 0 n S rfl
    have a3 : RowRep ρ a get := fun i x hx => by
      obtain ⟨v, hv, hc⟩ := a3 i x hx
      exact ⟨v, by simpa [total] using hv, hc⟩
    obtain ⟨b, b1, b2, b3⟩ := cat_rep (Ss := r) (get := fun j => get (n + j)) (fun i m S' hi => by
      obtain ⟨s, s1, s2, s3⟩ := h (i + 1) m S' (by simpa using hi)
      refine ⟨s, s1, s2, fun j x hx => ?_⟩
      obtain ⟨v, hv, hc⟩ := s3 j x hx
      refine ⟨v, ?_, hc⟩
      have hv : get (total (((n, S) :: r).take (i + 1)) + j) = some v := hv
      have : total (((n, S) :: r).take (i + 1)) + j = n + (total (r.take i) + j) := by simp [total]; omega
      rw [this] at hv
      exact hv)
    refine ⟨a ++ b, ⟨a, b, a1, a2, b1, rfl⟩, by rw [sizeS_append, a2, b2]; simp [total], rowRep_app a3 (by rw [a2]; exact b3)⟩
theorem op_struct {t : TypeId} {fs : Array Field} (Ss : List (Nat × (List Seg → Prop))) (ht : P.underlying t = some (.struct fs)) (hct : P.cellsOf t = total Ss) (hlen : fs.size = Ss.length) (h : ∀ i f n S, fs[i]? = some f → Ss[i]? = some (n, S) → f.offset = total (Ss.take i) ∧ Op enc P w base spare held f.type n S) : Op enc P w base spare held t (total Ss) (shCat Ss) :=
  ⟨hct, fun fuel cs x hx => by
    obtain ⟨xs, n, _, _, hl, hxl, hall⟩ := DataW.trod_struct ht hx
    refine cat_rep fun i m S hi => ?_
    have hil : i < fs.size := by rw [hlen]; exact (List.getElem?_eq_some_iff.1 hi).1
    obtain ⟨f, hf⟩ : ∃ f, fs[i]? = some f := ⟨_, Array.getElem?_eq_getElem hil⟩
    obtain ⟨h1, h2, h3⟩ := h i f m S hf hi
    have h4 := hall i f hf
    obtain ⟨y, hy⟩ : ∃ y, xs[i]? = some y := ⟨_, List.getElem?_eq_getElem (by rw [hxl]; exact hil)⟩
    rw [hy, h1, h2] at h4
    obtain ⟨segs, s1, s2, s3⟩ := h3 _ _ _ h4
    refine ⟨segs, s1, s2, fun j z hz => ?_⟩
    obtain ⟨v, hv, hc⟩ := s3 j z hz
    have hj := atS_lt hz
    have hv : ((cs.drop _).take _)[j]? = some v := hv
    rw [List.getElem?_take_of_lt (by omega), List.getElem?_drop] at hv
    exact ⟨v, hv, hc⟩⟩
theorem total_rep (m : Nat) (S : List Seg → Prop) (n : Nat) : total (List.replicate n (m, S)) = n * m := by
  unfold total
  induction n with
  | zero => simp
  | succ n ih => rw [List.replicate_succ, List.map_cons, List.sum_cons, ih, Nat.succ_mul]; omega
theorem op_array {t e : TypeId} {n m : Nat} {S : List Seg → Prop} (ht : P.underlying t = some (.array n e)) (hct : P.cellsOf t = n * m) (he : Op enc P w base spare held e m S) : Op enc P w base spare held t (n * m) (shCat (List.replicate n (m, S))) :=
  ⟨hct, fun fuel cs x hx => by
    obtain ⟨xs, q, _, _, hl, hxl, hall⟩ := DataW.trod_array ht hx
    rw [← total_rep m S n]
    refine cat_rep fun i m' S' hi => ?_
    have hil : i < n := by have := (List.getElem?_eq_some_iff.1 hi).1; simpa using this
    rw [List.getElem?_eq_getElem (by simpa using hil)] at hi
    simp at hi
    obtain ⟨rfl, rfl⟩ := hi
    have h4 := hall i hil
    obtain ⟨y, hy⟩ : ∃ y, xs[i]? = some y := ⟨_, List.getElem?_eq_getElem (by rw [hxl]; exact hil)⟩
    rw [hy, he.1] at h4
    obtain ⟨segs, s1, s2, s3⟩ := he.2 _ _ _ h4
    refine ⟨segs, s1, s2, fun j z hz => ?_⟩
    obtain ⟨v, hv, hc⟩ := s3 j z hz
    have hj := atS_lt hz
    have hv : ((cs.drop _).take _)[j]? = some v := hv
    rw [List.getElem?_take_of_lt (by omega), List.getElem?_drop] at hv
    refine ⟨v, ?_, hc⟩
    show cs[total _ + j]? = some v
    rw [List.take_replicate, Nat.min_eq_left (by omega), total_rep]
    exact hv⟩
theorem add_block (a : Addr) (n : Nat) : (a.add n).block = a.block := by unfold Addr.add; split <;> rfl
theorem add_off (a : Addr) (n : Nat) : (a.add n).off = a.off + n := by unfold Addr.add; split <;> simp [*]
theorem cells_of {a : Addr} {m : Nat} {cs : List Value} (h : w.cells? base a m = some cs) (h0 : 0 < m) : ∃ cells t fr, w.heap[a.block]? = some (.cells cells t fr) ∧ a.spot = none ∧ cs.length = m ∧ ∀ j, j < m → cells[a.off + j]? = cs[j]? := by
  obtain ⟨_, h1, h2⟩ := World.cells?_some h
  have hs : ∀ j, j < m → ∃ v, cs[j]? = some v := fun j hj => ⟨_, List.getElem?_eq_getElem (by rw [h1]; exact hj)⟩
  obtain ⟨v, hv⟩ := hs 0 h0
  obtain ⟨cells, t, fr, hb, hsp, _⟩ := cell_blk ((h2 0 h0).trans hv)
  refine ⟨cells, t, fr, hb, by simpa [Addr.add] using hsp, h1, fun j hj => ?_⟩
  obtain ⟨u, hu⟩ := hs j hj
  obtain ⟨c2, t2, f2, hb2, _, h3⟩ := cell_blk ((h2 j hj).trans hu)
  rw [add_block] at hb hb2
  rw [hb] at hb2
  cases hb2
  rw [hu]
  rw [add_off] at h3
  exact h3
theorem op_rows {t e : TypeId} {m : Nat} {S : List Seg → Prop} (ht : P.underlying t = some (.slice e)) (hct : P.cellsOf t = 1) (h0 : 0 < m) (he : Op enc P w base spare held e m S) : Op enc P w base spare held t 1 (shRows m S) :=
  ⟨hct, fun fuel cs x hx => by
    rcases DataW.trod_slice ht hx with ⟨rfl, _⟩ | ⟨a, len, cap, elems, rest, n, _, rfl, _, _, hl, hm, hel, hall, _, _⟩
    · refine ⟨_, ⟨0, fun _ => [], Nat.zero_le _, fun i hi => absurd hi (Nat.not_lt_zero i), rfl⟩, rfl, fun i y hy => ?_⟩
      obtain ⟨rfl, rfl⟩ := atS_one1 hy
      exact ⟨_, rfl, .inl ⟨rfl, _, _, rfl⟩, rfl⟩
    · have each : ∀ i, i < len → ∃ segs cs, S segs ∧ sizeS segs = m ∧ RowRep (rhoW w) segs (fun j => cs[j]?) ∧ w.cells? base (a.add (i * m)) m = some cs := fun i hi => by
        have h1 := hall i hi
        rw [he.1] at h1
        obtain ⟨y, hy⟩ : ∃ y, elems[i]? = some y := ⟨_, List.getElem?_eq_getElem (by rw [hel]; exact hi)⟩
        rw [hy] at h1
        obtain ⟨cs, c1, c2⟩ := Option.bind_eq_some_iff.1 h1
        obtain ⟨segs, s1, s2, s3⟩ := he.2 _ _ _ c2
        exact ⟨segs, cs, s1, s2, s3, c1⟩
      obtain ⟨rows, hrows⟩ : ∃ rows : Nat → List Seg, ∀ i, i < len → ∃ cs, S (rows i) ∧ sizeS (rows i) = m ∧ RowRep (rhoW w) (rows i) (fun j => cs[j]?) ∧ w.cells? base (a.add (i * m)) m = some cs := by
        refine ⟨fun i => if hi : i < len then Classical.choose (each i hi) else [], fun i hi => ?_⟩
        simp only [hi, dif_pos]
        exact Classical.choose_spec (each i hi)
      refine ⟨_, ⟨len, rows, by omega, fun i hi => by obtain ⟨_, h1, h2, _⟩ := hrows i hi; exact ⟨h1, h2⟩, rfl⟩, rfl, fun i y hy => ?_⟩
      obtain ⟨rfl, rfl⟩ := atS_one1 hy
      refine ⟨_, rfl, ?_, rfl⟩
      by_cases hz : len = 0
      · exact .inl ⟨hz, some a, cap, by rw [hz]⟩
      · obtain ⟨cs0, _, _, _, c0⟩ := hrows 0 (by omega)
        obtain ⟨cells, tt, fr, hb, hsp, _, _⟩ := cells_of c0 h0
        have ha : a = ⟨a.block, a.off, none⟩ := by
          have : a.spot = none := by simpa [Addr.add] using hsp
          cases a; simp_all
        rw [add_block] at hb
        refine .inr ⟨a.block, a.off, cap, cells, by rw [← ha], hl, rhoW_fz hb, fun i j hi hj => ?_⟩
        obtain ⟨cs1, _, s2, s3, c1⟩ := hrows i hi
        obtain ⟨c2, t2, f2, hb2, _, hcl, hce⟩ := cells_of c1 h0
        rw [add_block] at hb2
        rw [hb] at hb2
        cases hb2
        obtain ⟨z, hz'⟩ := atS_some (l := rows i) (i := j) (by rw [s2]; exact hj)
        obtain ⟨u, hu, hc⟩ := s3 j z hz'
        refine ⟨u, ?_, ?_, hc.2⟩
        · have := hce j hj
          have hu : cs1[j]? = some u := hu
          rw [hu] at this
          have e : (a.add (i * m)).off = a.off + i * m := add_off _ _
          rw [e] at this
          rw [← this, Nat.add_assoc]
        · unfold rowsF cellsF
          rw [hz']
          exact hc.1⟩
theorem op_ints {t e : TypeId} {k : IntKind} (ht : P.underlying t = some (.slice e)) (he : P.underlying e = some (.int k)) (hc : P.cellsOf e = 1) (hct : P.cellsOf t = 1) : Op enc P w base spare held t 1 (shInts k) :=
  ⟨hct, fun fuel cs x hx => by
    obtain ⟨segs, ⟨n, rows, hn, hrows, rfl⟩, _, hr⟩ := (op_rows ht hct (by omega) (op_int he hc)).2 fuel cs x hx
    have hz : ∀ i, i < n → ∃ z, (Lit.int k z).wf = true ∧ rows i = [.one (.int k z)] := fun i hi => (hrows i hi).1
    obtain ⟨f, hf⟩ : ∃ f : Nat → Int, ∀ i, i < n → (Lit.int k (f i)).wf = true ∧ rows i = [.one (.int k (f i))] := by
      refine ⟨fun i => if hi : i < n then Classical.choose (hz i hi) else 0, fun i hi => ?_⟩
      simp only [hi, dif_pos]
      exact Classical.choose_spec (hz i hi)
    have hlen : ((List.range n).map f).length = n := by simp
    refine ⟨_, ⟨(List.range n).map f, by rw [hlen]; exact hn, fun y hy => ?_, rfl⟩, rfl, fun i y hy => ?_⟩
    · obtain ⟨i, hi, rfl⟩ := List.mem_map.1 hy
      exact (hf i (by simpa using hi)).1
    · obtain ⟨rfl, rfl⟩ := atS_one1 hy
      obtain ⟨v, hv, hc⟩ := hr 0 _ rfl
      refine ⟨v, hv, ?_, hc.2⟩
      rcases hc.1 with ⟨rfl, a, c, rfl⟩ | ⟨b, o, c, cs, rfl, h1, h2, h3⟩
      · exact .inl ⟨rfl, a, c, rfl⟩
      · refine .inr ⟨b, o, c, cs, by rw [hlen], by rw [hlen]; exact h1, h2, fun i hi => ?_⟩
        rw [hlen] at hi
        obtain ⟨u, e1, e2, _⟩ := h3 i 0 hi (by omega)
        rw [Nat.mul_one, Nat.add_zero] at e1
        rw [e1]
        unfold rowsF cellsF at e2
        rw [(hf i hi).2] at e2
        have e2 : u = .int k (f i) := e2
        rw [e2]
        simp [List.getD_eq_getElem?_getD, hi]⟩
/-! ### Arguments -/
theorem arg_agg {r : Reach} {b0 : Nat} {t : TypeId} {n : Nat} {S : List Seg → Prop} {v : Value} {d : DataW Hh} {ps : List MemPlace} (ho : Op enc P w base spare held t n S) (ht : (∃ fs, P.underlying t = some (.struct fs)) ∨ ∃ m e, P.underlying t = some (.array m e)) (hval : Value.okWide P w r b0 t v) (hd : DataW.Trod enc P w base spare held t v d ps) : ∃ segs, S segs ∧ (AV.agg segs).rep (rhoW w) v := by
  have hv : ∃ cs, v = .agg cs ∧ cs.size = P.cellsOf t := by
    rcases ht with ⟨fs, ht⟩ | ⟨m, e, ht⟩
    · simp only [Value.okWide, ht] at hval
      obtain ⟨cs, rfl, hs, _⟩ := hval
      exact ⟨cs, rfl, hs⟩
    · simp only [Value.okWide, ht] at hval
      obtain ⟨cs, rfl, hs, _⟩ := hval
      exact ⟨cs, rfl, hs⟩
  obtain ⟨cs, rfl, hs⟩ := hv
  obtain ⟨fuel, hf⟩ := hd
  obtain ⟨segs, s1, s2, s3⟩ := ho.2 _ _ _ hf
  refine ⟨segs, s1, cs, rfl, by rw [hs, ho.1, s2], fun i x hx => ?_⟩
  obtain ⟨u, hu, hc⟩ := s3 i x hx
  exact ⟨u, by simpa [Value.cells] using hu, hc⟩
theorem arg_one {t : TypeId} {S : List Seg → Prop} {v : Value} {d : DataW Hh} {ps : List MemPlace} (ho : Op enc P w base spare held t 1 S) (hv : v.cells = #[v]) (hS : ∀ segs, S segs → ∃ x, segs = [.one x]) (hd : DataW.Trod enc P w base spare held t v d ps) : ∃ x, S [.one x] ∧ (AV.s x).rep (rhoW w) v := by
  obtain ⟨fuel, hf⟩ := hd
  obtain ⟨segs, s1, s2, s3⟩ := ho.2 _ _ _ hf
  obtain ⟨x, rfl⟩ := hS segs s1
  obtain ⟨u, hu, hc⟩ := s3 0 x rfl
  rw [hv] at hu
  simp at hu
  subst hu
  exact ⟨x, s1, hc.1⟩
theorem one_int {k : IntKind} (s : List Seg) (h : shInt k s) : ∃ x, s = [.one x] := by obtain ⟨n, _, rfl⟩ := h; exact ⟨_, rfl⟩
theorem one_ints {k : IntKind} (s : List Seg) (h : shInts k s) : ∃ x, s = [.one x] := by obtain ⟨l, _, _, rfl⟩ := h; exact ⟨_, rfl⟩
theorem one_rows {m : Nat} {S : List Seg → Prop} (s : List Seg) (h : shRows m S s) : ∃ x, s = [.one x] := by obtain ⟨n, r, _, _, rfl⟩ := h; exact ⟨_, rfl⟩
end
theorem cells_slice {P : Program} {w : World} {r : Reach} {b0 : Nat} {t e : TypeId} {v : Value} (ht : P.underlying t = some (.slice e)) (hval : Value.okWide P w r b0 t v) : v.cells = #[v] := by
  simp only [Value.okWide, ht] at hval
  cases v <;> first | rfl | (simp [Cell.okWide, Cell.ok, ht] at hval)
theorem cells_int {P : Program} {w : World} {r : Reach} {b0 : Nat} {t : TypeId} {k : IntKind} {v : Value} (ht : P.underlying t = some (.int k)) (hval : Value.okWide P w r b0 t v) : v.cells = #[v] := by
  simp only [Value.okWide, ht] at hval
  cases v <;> first | rfl | (simp [Cell.okWide, Cell.ok, ht] at hval)
/-- Rows of byte lists, as a list of these. -/
theorem rows_lists {k : IntKind} {n : Nat} {rows : Nat → List Seg} (h : ∀ i, i < n → shInts k (rows i) ∧ sizeS (rows i) = 1) : ∃ L : List (List Int), L.length = n ∧ (∀ i, (L.getD i []).length ≤ maxLen ∧ ∀ y ∈ L.getD i [], (Lit.int k y).wf = true) ∧ ∀ ρ v, (SV.fz n 1 (rowsF rows)).rep ρ v → (SV.fz L.length 1 fun i _ => (L.map (SV.fzi k)).getD i .nils).rep ρ v := by
  obtain ⟨f, hf⟩ : ∃ f : Nat → List Int, ∀ i, i < n → (f i).length ≤ maxLen ∧ (∀ y ∈ f i, (Lit.int k y).wf = true) ∧ rows i = [.one (.fzi k (f i))] := by
    refine ⟨fun i => if hi : i < n then Classical.choose (h i hi).1 else [], fun i hi => ?_⟩
    simp only [hi, dif_pos]
    exact Classical.choose_spec (h i hi).1
  refine ⟨(List.range n).map f, by simp, fun i => ?_, fun ρ v hv => ?_⟩
  · by_cases hi : i < n
    · simp [List.getD_eq_getElem?_getD, hi]; exact ⟨(hf i hi).1, (hf i hi).2.1⟩
    · simp [List.getD_eq_getElem?_getD, hi]
  · have hl : ((List.range n).map f).length = n := by simp
    rw [hl]
    refine fz_ext (fun i j hi hj => ?_) hv
    have hj0 : j = 0 := by omega
    subst hj0
    unfold rowsF cellsF
    rw [(hf i hi).2.2]
    simp [List.getD_eq_getElem?_getD, hi, atS, Seg.size, Seg.at]
theorem args_nil {ρ : Rho} : ArgsRep ρ [] #[] := ⟨rfl, fun i x h => by simp at h⟩
theorem args_cons {ρ : Rho} {a : AV} {as : List AV} {u : Value} {us : List Value} (h : a.rep ρ u) (k : ArgsRep ρ as us.toArray) : ArgsRep ρ (a :: as) (u :: us).toArray := by
  obtain ⟨k1, k2⟩ := k
  refine ⟨by simpa using k1, fun i x hx => ?_⟩
  cases i with
  | zero => simp at hx; subst hx; simpa using h
  | succ i =>
    have := k2 i x (by simpa using hx)
    simpa [Array.getD_eq_getD_getElem?] using this
/-! ### Bytes, words, numbers -/
theorem wf_u8 {y : Int} (h : (Lit.int .u8 y).wf = true) : 0 ≤ y ∧ y < 256 := by
  simp [Lit.wf, IntKind.min, IntKind.max, IntKind.signed, IntKind.bits] at h; omega
theorem wf_getD {k : IntKind} {l : List Int} (h : ∀ y ∈ l, (Lit.int k y).wf = true) (i : Nat) : (Lit.int k (l.getD i 0)).wf = true := by
  by_cases hi : i < l.length
  · rw [List.getD_eq_getElem?_getD, List.getElem?_eq_getElem hi]; exact h _ (List.getElem_mem _)
  · rw [List.getD_eq_getElem?_getD, List.getElem?_eq_none (by omega)]; cases k <;> rfl
/-- As natural numbers. -/
theorem nats_of {l : List Int} (h : ∀ i, 0 ≤ l.getD i 0) : ∃ m : List Nat, l = zs m ∧ ∀ i, ((m.getD i 0 : Nat) : Int) = l.getD i 0 := by
  have e : l = zs (l.map Int.toNat) := by
    apply List.ext_getElem (by simp [zs])
    intro i h1 h2
    have := h i
    rw [List.getD_eq_getElem?_getD, List.getElem?_eq_getElem h1] at this
    simp [zs] at this ⊢
    omega
  exact ⟨_, e, fun i => by conv => rhs; rw [e]
                           rw [zs_getD]⟩
end Go.Bx
end

section
/- How long what comes in is. No program. -/
namespace Go.Bx
section
open Go.ChangeShapes
variable {Hh : Type} {enc : TypeId × Value → Hh} {P : Program} {w : World} {base : Nat} {spare : Nat → Bool} {held : Bool}
theorem open_size {t e : TypeId} {v : Value} {d : DataW Hh} {ps : List MemPlace} {ts : List TypeId} {ds : List (DataW Hh)} {j : Nat} (ht : P.underlying t = some (.slice e)) (hb : 1 ≤ P.bytesOf e) (hsz : (DataW.weightsEach P ts ds).all (· ≤ reachBytes) = true) (hts : ts[j]? = some t) (hds : ds[j]? = some d)
    (hd : DataW.Trod enc P w base spare held t v d ps) : ∀ a n c, v = .slice a n c → n ≤ 140737488351232 := by
  rintro a n c rfl
  obtain ⟨fuel, hf⟩ := hd
  have hf : DataW.trod enc P w base spare held fuel t [Value.slice a n c] = some (d, ps) := hf
  rcases DataW.trod_slice ht hf with ⟨hcs, _⟩ | ⟨a', len, cap, elems, rest, m, _, hcs, hx, _, _, _, hel, _⟩
  · simp at hcs; omega
  · simp at hcs
    obtain ⟨_, rfl, _⟩ := hcs
    have hd : d = .slice (elems.map (·.1)) (rest.map (·.1)) := (congrArg Prod.fst hx)
    subst hd
    have h1 := sized_slice hsz hts hds ht
    have h2 : reachBytes = 140737488351232 := rfl
    have h3 : n ≤ ((elems.map (·.1)).length + (rest.map (·.1)).length) * P.bytesOf e := by
      rw [List.length_map, hel]
      exact Nat.le_trans (Nat.le_add_right _ _) (Nat.le_mul_of_pos_right _ hb)
    omega
/-- A frozen slice's length is the value's. -/
theorem len_ints {ρ : Rho} {k : IntKind} {l : List Int} {v : Value} (h : (SV.fzi k l).rep ρ v) (hb : ∀ a n c, v = .slice a n c → n ≤ 140737488351232) : l.length ≤ 140737488351232 := by
  rcases h with ⟨rfl, a, c, rfl⟩ | ⟨b, o, c, cs, rfl, _⟩
  · exact hb _ _ _ rfl
  · exact hb _ _ _ rfl
theorem len_rows {ρ : Rho} {n wd : Nat} {g : Nat → Nat → SV} {v : Value} (h : (SV.fz n wd g).rep ρ v) (hb : ∀ a n c, v = .slice a n c → n ≤ 140737488351232) : n ≤ 140737488351232 := by
  rcases h with ⟨rfl, a, c, rfl⟩ | ⟨b, o, c, cs, rfl, _⟩
  · exact hb _ _ _ rfl
  · exact hb _ _ _ rfl
end
end Go.Bx
end
