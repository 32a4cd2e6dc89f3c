/- A part of the proofs of this claim: Bx25, Bx26, Bx27, Bx28, BNumW, BNumT, BNum1, BNum2, Bx29, BBitW, BBitT. No conditions. -/
import Derived.Test.YtcddchknofjbhaaGreatA4
import Derived.OpenShut
import Derived.ChangeSlices
import Derived.Below
import Derived.ChangeSame
import Derived.SizedLaws
import Derived.Lib.Mul64
set_option linter.unusedVariables false
set_option linter.unusedSimpArgs false
section
/- Constants' bytes, marked; bytes as strings; what an operation gives, told otherwise. No program. -/
namespace Go.Bx
theorem LOk.conv {P : Program} {o : Oper} {T : Tm} {H H' : Heap} {v v' : AV} {F M R : List Nat} (h : LOk P o T H H' v F M) (hc : AConv R H' v v') (hR : ∀ id ∈ R, id ∈ F ∨ H.length ≤ id) : LOk P o T H H' v' F M := by
  refine ⟨h.len, h.keep, h.sub, h.lt, ?_⟩
  intro W ρ a w hH hfr hW ho
  refine (h.run W ρ a w hH hfr hW ho).mono fun u w' ⟨ρ', W', hn, hv⟩ => ⟨ρ', W', hn, ?_⟩
  refine hc _ W' ρ' w' u (fun id hi => ?_) hn.rep hv
  rw [hget_msk, if_pos (hR id hi)]
theorem LOk.drop {P : Program} {o : Oper} {T : Tm} {H H' : Heap} {v : AV} {F M : List Nat} {id : Nat} (h : LOk P o T H H' v F M) (hi : id ∈ M) : LOk P o T H (H'.set id none) v F M := by
  have hl := h.lt id (h.sub id hi)
  have hl' : id < H'.length := Nat.lt_of_lt_of_le hl h.len
  refine ⟨by simpa using h.len, fun j hj hn => ?_, h.sub, h.lt, ?_⟩
  · rw [hget_set hl', if_neg (fun e => hn (by rw [e]; exact hi)), h.keep j hj hn]
  · intro W ρ a w hH hfr hW ho
    rw [msk_len, msk_len, List.length_set] at hfr
    refine (h.run W ρ a w hH (by rw [msk_len, msk_len]; exact hfr) hW ho).mono fun u w' ⟨ρ', W', hn, hv⟩ => ⟨ρ', W', ?_, hv⟩
    rw [msk_len, msk_len] at hn
    rw [msk_len, msk_len, List.length_set]
    refine ⟨hn.le, hn.old, hn.rep.sub fun j k e => ?_, hn.fr, hn.sub, hn.fresh, hn.fzn⟩
    rw [hget_msk] at e ⊢
    split at e
    · rename_i h1
      rw [hget_set hl'] at e
      split at e
      · cases e
      · rw [if_pos h1]; exact e
    · cases e
theorem freeze_at {w : World} {b n : Nat} {cells : Array Value} {t : TypeId} (h : w.heap[b]? = some (.cells cells t (0, 0))) : (w.freeze ⟨b, n, none⟩ 1).heap[b]? = some (.cells cells t (n, n + 1)) := by
  unfold World.freeze
  rw [if_neg (by decide)]
  obtain ⟨hl, hk⟩ := Array.getElem?_eq_some_iff.1 h
  show (w.heap.modify b _)[b]? = _
  rw [Array.getElem?_eq_getElem (by simpa using hl), Array.getElem_modify_self, hk]
  rfl
theorem freeze_other {w : World} {b n k : Nat} (h : k ≠ b) : (w.freeze ⟨b, n, none⟩ 1).heap[k]? = w.heap[k]? := by
  unfold World.freeze
  rw [if_neg (by decide)]
  show (w.heap.modify b _)[k]? = _
  rw [Array.getElem?_modify, if_neg (fun e => h e.symm)]
theorem freeze_size {w : World} {b n : Nat} : (w.freeze ⟨b, n, none⟩ 1).heap.size = w.heap.size := by
  unfold World.freeze
  rw [if_neg (by decide)]
  show (w.heap.modify b _).size = _
  simp
theorem freeze_rest {w : World} {b n : Nat} : (w.freeze ⟨b, n, none⟩ 1).os = w.os ∧ (w.freeze ⟨b, n, none⟩ 1).tape = w.tape ∧ (w.freeze ⟨b, n, none⟩ 1).output = w.output := by
  unfold World.freeze
  rw [if_neg (by decide)]
  exact ⟨rfl, rfl, rfl⟩
theorem HRep.mark {W : Nat → Prop} {ρ : Rho} {h : Nat → Option Blk} {w : World} {b n : Nat} {cells : Array Value} {t : TypeId} (hH : HRep W ρ h w) (hb : w.heap[b]? = some (.cells cells t (0, 0))) (hW : ¬ W b) : HRep W ρ h (w.freeze ⟨b, n, none⟩ 1) := by
  have hat : ∀ k cs t' fr, w.heap[k]? = some (Obj.cells cs t' fr) → ∃ t2 f2, (w.freeze ⟨b, n, none⟩ 1).heap[k]? = some (Obj.cells cs t2 f2) := fun k cs t' fr e => by
    by_cases hk : k = b
    · subst hk
      rw [hb] at e
      cases e
      exact ⟨_, _, freeze_at hb⟩
    · exact ⟨t', fr, by rw [freeze_other hk]; exact e⟩
  refine ⟨fun id b' o e => by rw [freeze_size]; exact hH.lt id b' o e, fun id b' o k e1 e2 => ?_, hH.apart, fun b' cs e => ?_, fun b' m e => ?_⟩
  · obtain ⟨⟨c2, t2, f2, k1, k2, k3, k4⟩, k5⟩ := hH.rep id b' o k e1 e2
    refine ⟨?_, k5⟩
    by_cases hbb : b' = b
    · subst hbb
      obtain ⟨t3, f3, k6⟩ := hat _ _ _ _ k1
      exact ⟨c2, t3, f3, k6, fun e => absurd (k5 e) hW, k3, k4⟩
    · exact ⟨c2, t2, f2, by rw [freeze_other hbb]; exact k1, k2, k3, k4⟩
  · obtain ⟨h1, t2, f2, h2⟩ := hH.fz b' cs e
    obtain ⟨t3, f3, h3⟩ := hat _ _ _ _ h2
    exact ⟨h1, t3, f3, h3⟩
  · obtain ⟨cs, t2, f2, h2, h3⟩ := hH.sz b' m e
    obtain ⟨t3, f3, h4⟩ := hat _ _ _ _ h2
    exact ⟨cs, t3, f3, h4, h3⟩
section
variable {P : Program} {T : Tm} {H : Heap} {d : Option Tmp} {ty : TypeId} {pos : String} {af : Array Edge} {g : Option (Nat × Bool)}
theorem l_mark {t e : TypeId} {x : Operand} {id base idx len cap : Nat} {segs : List Seg} (hx : ev T x = .s (.slice id base idx len cap)) (hb : hget H id = some ⟨true, segs⟩) (hu : P.underlying t = some (.slice e)) (he : P.underlying e = some (.int .u8)) :
    LOk P ⟨d, .convert t t x, ty, pos, af, g⟩ T H (H.set id (some ⟨false, segs⟩)) (.s (.slice id base idx len cap)) [id] [id] := by
  refine lok_set [id] (fun j hj => by simp at hj; subst hj; exact hget_lt hb) (by simp) fun H0 hl0 h0 => ?_
  have hb0 : hget H0 id = some ⟨true, segs⟩ := by rw [h0 id (by simp)]; exact hb
  intro W ρ a w hH hn hW ho next Q hq
  have h1 : (ev T x).rep ρ (a.eval x) := ho x (by simp [Op.operands])
  rw [hx] at h1
  obtain ⟨b, o, hρ, h1⟩ := h1
  obtain ⟨⟨cells, tt, fr, g1, g2, g3, g4⟩, hWb⟩ := hH.rep id b o _ hρ hb0
  have hfr := g2 rfl
  subst hfr
  have hsh : w.shape? b = some (tt, cells.size) := by unfold World.shape?; rw [g1]
  have hrun : (execOp a.eval ⟨d, .convert t t x, ty, pos, af, g⟩).run P w = .ok (.value (a.eval x)) (w.freeze ⟨b, cells.size, none⟩ 1) := by
    simp [execOp, h1, convert, Sem.run_bind, run_underlying hu, run_underlying he, markStringish, hsh]
  rw [hrun]
  obtain ⟨ρ1, W1, r1, r2, r3, r4, r5, r6⟩ := hrep_frz hH hb0 hW
  have hlt := hget_lt hb0
  have hW1 : ¬ W1 b := by
    have hr := r3.rep id b o ⟨false, segs⟩ (by rw [r2]; exact hρ) (by rw [hget_set hlt, if_pos rfl])
    obtain ⟨⟨c2, _, _, _, _, k3, _⟩, _⟩ := hr
    exact (r3.fz b c2 (k3 rfl)).1
  refine hq _ _ ⟨ρ1, W1, ⟨r1, fun i x e => by rw [r2] at e; exact .inl e, r3.mark g1 hW1, ⟨freeze_rest.1, freeze_rest.2.1, freeze_rest.2.2, Nat.le_of_eq freeze_size.symm, fun k _ hk => freeze_other (fun e => hk (e ▸ hWb rfl)), fun k ob hk hc => ?_, fun k cs t' fr hk => ?_⟩, r4, fun k hk => by rw [freeze_size] at hk; exact r5 k hk, fun k c e => r6 k c e⟩, ⟨b, o, by rw [r2]; exact hρ, h1⟩⟩
  · by_cases e : k = b
    · subst e; rw [g1] at hk; cases hk; simp [Obj.isCells] at hc
    · rw [freeze_other e]; exact hk
  · by_cases e : k = b
    · subst e; rw [g1] at hk; cases hk; exact ⟨_, _, _, freeze_at g1, rfl⟩
    · exact ⟨cs, t', fr, by rw [freeze_other e]; exact hk, rfl⟩
theorem a_mark {t e : TypeId} {x : Operand} {id base idx len cap n : Nat} {l l' : List Int} {segs : List Seg} {H' : Heap} (hx : ev T x = .s (.slice id base idx len cap)) (hb : hget H id = some ⟨true, segs⟩) [hu : Und P t (.slice e)] [he : Und P e (.int .u8)] (hs : segAt segs base = some (.ints .u8 n l)) (hn : idx + len ≤ n) (hc : len ≤ cap) (hl : l.length = n) (hl' : (l.drop idx).take len = l') (hH : H.set id none = H') :
    LOk P ⟨d, .convert t t x, ty, pos, af, g⟩ T H H' (.s (.fzi .u8 l')) [id] [id] := by
  have hlt := hget_lt hb
  have h := ((l_mark (d := d) (ty := ty) (pos := pos) (af := af) (g := g) hx hb hu.h he.h).conv (conv_sl (k := ⟨false, segs⟩) (by rw [hget_set hlt, if_pos rfl]) rfl hs hn hc hl hl') (fun j hj => .inl hj)).drop (id := id) (by simp)
  rw [List.set_set, hH] at h
  exact h
theorem k_mark {t e : TypeId} {x : Operand} {id base idx len cap n : Nat} {l l' : List Int} {segs : List Seg} {H' : Heap} [hu : Und P t (.slice e)] [he : Und P e (.int .u8)] (hx : ev T x = .s (.slice id base idx len cap) := by rfl) (hb : hget H id = some ⟨true, segs⟩ := by rfl) (hs : segAt segs base = some (.ints .u8 n l) := by rfl) (hn : idx + len ≤ n := by omega) (hc : len ≤ cap := by omega) (hl : l.length = n := by rfl) (hl' : (l.drop idx).take len = l' := by rfl) (hH : H.set id none = H' := by repeat (first | exact hset_0 | apply hset_s)) :
    LOk P ⟨d, .convert t t x, ty, pos, af, g⟩ T H H' (.s (.fzi .u8 l')) [id] [id] := a_mark hx hb hs hn hc hl hl' hH
end
end Go.Bx
end

section
/- Rows: literal slices of structs, rows put behind rows, integers behind integers. No program. -/
namespace Go.Bx
theorem Joins.rows {n m wd q : Nat} {g g2 g' : Nat → Nat → SV} (hw : 0 < wd) (hq : n ≤ q) (hg : ∀ i j, i < n → j < wd → g' i j = g i j) (hn : ∀ i j, i < m → j < wd → g' (n + i) j = g2 i j) : Joins [.rows q wd g] (n * wd) [.rows m wd g2] (m * wd) [.rows (n + m) wd g'] := by
  refine ⟨by simp [sizeS, Seg.size, Nat.add_mul], fun i y hy => ?_⟩
  have hs1 : (Seg.rows (n + m) wd g').size = (n + m) * wd := rfl
  have hs2 : (Seg.rows q wd g).size = q * wd := rfl
  have hs3 : (Seg.rows m wd g2).size = m * wd := rfl
  have hy' : i < (n + m) * wd ∧ y = .noid (g' (i / wd) (i % wd)) := by
    simp only [atS] at hy
    rw [hs1] at hy
    by_cases hi : i < (n + m) * wd
    · rw [if_pos hi] at hy; exact ⟨hi, (Option.some.inj hy).symm⟩
    · rw [if_neg hi] at hy; cases hy
  obtain ⟨hi, rfl⟩ := hy'
  have hm := Nat.mod_lt i hw
  have hdm := Nat.div_add_mod i wd
  refine ⟨fun h1 => ?_, fun h1 => ?_⟩
  · have hd : i / wd < n := Nat.div_lt_of_lt_mul (by rwa [Nat.mul_comm])
    refine ⟨_, ?_, .inl rfl⟩
    have : i < q * wd := Nat.lt_of_lt_of_le h1 (Nat.mul_le_mul_right wd hq)
    simp only [atS]
    rw [if_pos (by rw [hs2]; exact this)]
    simp only [Seg.at, hg _ _ hd hm]
  · have h3 : n ≤ i / wd := (Nat.le_div_iff_mul_le hw).2 h1
    have h2 : i / wd < n + m := Nat.div_lt_of_lt_mul (by rwa [Nat.mul_comm])
    obtain ⟨k, hk⟩ : ∃ k, i / wd = n + k := ⟨i / wd - n, by omega⟩
    have hkm : k < m := by omega
    have he : i - n * wd = k * wd + i % wd := by
      rw [hk, Nat.mul_comm, Nat.add_mul] at hdm; omega
    refine ⟨_, ?_, .inl rfl⟩
    rw [he]
    simp only [atS]
    rw [if_pos (by rw [hs3]; exact row_lt hkm hm)]
    simp only [Seg.at, (row_div hm).1, (row_div hm).2, hk, hn k _ hkm hm]
theorem flatS_app : ∀ (A B : List Seg), flatS (A ++ B) = flatS A ++ flatS B
  | [], B => rfl
  | .one v :: r, B => by simp [flatS, flatS_app r B]
  | .ints k n l :: r, B => by simp [flatS, flatS_app r B]
  | .rows n w g :: r, B => by simp [flatS, flatS_app r B]
theorem lensOk_app : ∀ (A B : List Seg), lensOk (A ++ B) = (lensOk A && lensOk B)
  | [], B => by simp [lensOk]
  | .one v :: r, B => by simp [lensOk, lensOk_app r B]
  | .ints k n l :: r, B => by simp [lensOk, lensOk_app r B, Bool.and_assoc]
  | .rows n w g :: r, B => by simp [lensOk, lensOk_app r B]
theorem all2_app : ∀ {a c : List SV} {b d : List Value}, all2 a b = true → all2 c d = true → all2 (a ++ c) (b ++ d) = true
  | [], _, [], _, _, h => h
  | [], _, _ :: _, _, h, _ => by simp [all2] at h
  | _ :: _, _, [], _, h, _ => by simp [all2] at h
  | x :: r, c, v :: s, d, h, k => by
    simp only [all2, Bool.and_eq_true] at h
    simp only [List.cons_append, all2, Bool.and_eq_true]
    exact ⟨h.1, all2_app h.2 k⟩
theorem rowOk_rep_n {Z : List Seg} {cs : Array Value} (h : rowOk Z cs = true) (n : Nat) : rowOk (List.replicate n Z).flatten ((List.replicate n cs.toList).flatten.toArray) = true := by
  simp only [rowOk, Bool.and_eq_true] at h ⊢
  induction n with
  | zero => exact ⟨rfl, rfl⟩
  | succ n ih =>
    rw [List.replicate_succ, List.replicate_succ, List.flatten_cons, List.flatten_cons]
    refine ⟨by rw [lensOk_app, h.1, ih.1]; rfl, ?_⟩
    rw [flatS_app]
    exact all2_app h.2 ih.2
theorem range_rep (cs : Array Value) (n : Nat) : ((Array.range (n * cs.size)).map fun i => cs[i % cs.size]!) = (List.replicate n cs.toList).flatten.toArray := by
  apply Array.ext'
  rw [Array.toList_map, Array.toList_range]
  show _ = (List.replicate n cs.toList).flatten
  induction n with
  | zero => simp
  | succ n ih =>
    rw [List.replicate_succ', List.flatten_append, ← ih, Nat.succ_mul, List.range_add, List.map_append]
    congr 1
    simp only [List.flatten_cons, List.flatten_nil, List.append_nil, List.map_map]
    apply List.ext_getElem
    · simp
    · intro i h1 h2
      have hi : i < cs.size := by simpa using h1
      simp [Nat.mul_add_mod, Nat.mod_eq_of_lt hi, Nat.mul_comm n cs.size, hi]
theorem atS_flatten {wd : Nat} : ∀ {RL : List (List Seg)} {i j : Nat}, (∀ r ∈ RL, sizeS r = wd) → i < RL.length → j < wd → atS RL.flatten (i * wd + j) = atS (RL.getD i []) j
  | [], _, _, _, h, _ => absurd h (Nat.not_lt_zero _)
  | r :: RL, 0, j, hs, _, hj => by
    have h0 := hs r (by simp)
    rw [List.flatten_cons, atS_append, if_pos (by omega)]; simp
  | r :: RL, i + 1, j, hs, hi, hj => by
    have h0 := hs r (by simp)
    have e : (i + 1) * wd + j = wd + (i * wd + j) := by rw [Nat.succ_mul]; omega
    rw [List.flatten_cons, atS_append, h0, if_neg (by omega), e, Nat.add_sub_cancel_left, atS_flatten (fun r hr => hs r (by simp [hr])) (by simpa using hi) hj]
    simp
section
variable {P : Program} {T : Tm} {H : Heap} {d : Option Tmp} {ty : TypeId} {pos : String} {af : Array Edge} {g : Option (Nat × Bool)}
theorem a_bslR {t e : TypeId} {n wd : Nat} {parts : Array (Nat × Operand)} {ps : List (Nat × Operand)} {l : List (Nat × AV)} {Z segs : List Seg} (RL : List (List Seg)) (hps : parts.toList = ps) (hl : PartL T ps l) [hu : Und P t (.slice e)] [he : Sz P e wd] (hbig : n * wd ≤ 16777216) [hz : Zv P e Z] (hZn : sizeS Z = wd) (hs : fillS (fun i => some (i * wd, wd)) (List.replicate n Z).flatten l = some segs) (hvs : segs = RL.flatten) (hvn : RL.length = n) (hsz : RL.all (fun r => Nat.beq (sizeS r) wd) = true) (hid : RL.all (fun r => r.all (Seg.idB fun _ => false)) = true)
    (h0 : 0 < n * wd) {H' : Heap} (hH : H ++ [none] = H') : LOk P ⟨d, .buildSlice t n parts, ty, pos, af, g⟩ T H H' (.s (.fz n wd (rowsF fun i => RL.getD i []))) [] [] := by
  obtain ⟨z, hz1, hz2⟩ := hz.h
  have hzs : z.cells.size = wd := by rw [(rowOk_rep hz2).1, hZn]
  have hZ1 : rowOk (List.replicate n Z).flatten ((Array.range (n * wd)).map fun i => z.cells[i % z.cells.size]!) = true := by
    have := range_rep z.cells n
    rw [hzs] at this
    rw [hzs, this]
    exact rowOk_rep_n hz2 n
  have hsz' : ∀ r ∈ RL, sizeS r = wd := fun r hr => by
    rw [List.all_eq_true] at hsz
    exact Nat.eq_of_beq_eq_true (hsz r hr)
  refine lok_val' (l_bsl hps hl hu.h he.h hbig hz1 hZ1 hs h0 (fun _ _ h => h) rfl rfl) (conv_rows (k := ⟨false, segs⟩) (R := []) (hget_last _ _) rfl (Nat.le_refl _) fun i j hi hj => ?_) hH
  have hi' : i < RL.length := by omega
  have hr : RL.getD i [] ∈ RL := by
    rw [List.getD_eq_getElem?_getD, List.getElem?_eq_getElem hi']; exact List.getElem_mem _
  obtain ⟨x, hx⟩ := atS_some (l := RL.getD i []) (i := j) (by rw [hsz' _ hr]; exact hj)
  refine ⟨x, ?_, ?_, ?_⟩
  · rw [hvs, show (0 + 0 + (i * wd + j)) = i * wd + j by omega, atS_flatten hsz' hi' hj, hx]
  · have : rowsF (fun i => RL.getD i []) i j = x := by unfold rowsF cellsF; rw [hx]; rfl
    rw [this]; exact .same
  · have : rowsF (fun i => RL.getD i []) i j = x := by unfold rowsF cellsF; rw [hx]; rfl
    rw [this]
    rw [List.all_eq_true] at hid
    exact atS_idB (hid _ hr) hx
theorem k_bsR {t e : TypeId} {n wd : Nat} {parts : Array (Nat × Operand)} {ps : List (Nat × Operand)} {l : List (Nat × AV)} {Z segs : List Seg} {H' : Heap} (RL : List (List Seg)) [hu : Und P t (.slice e)] [he : Sz P e wd] [hz : Zv P e Z] (hps : parts.toList = ps := by rfl) (hl : PartL T ps l := by first | exact .nil | exact (pc (k := .nil)) | exact (pc (k := (pc (k := .nil)))) | exact (pc (k := (pc (k := (pc (k := .nil)))))) | exact (pc (k := (pc (k := (pc (k := (pc (k := .nil)))))))) | exact (pc (k := (pc (k := (pc (k := (pc (k := (pc (k := .nil)))))))))) | exact (pc (k := (pc (k := (pc (k := (pc (k := (pc (k := (pc (k := .nil))))))))))))) (hbig : n * wd ≤ 16777216 := by exact Nat.le_of_ble_eq_true rfl) (hZn : sizeS Z = wd := by rfl) (hs : fillS (fun i => some (i * wd, wd)) (List.replicate n Z).flatten l = some segs := by exact rfl) (hvs : segs = RL.flatten := by exact rfl) (hvn : RL.length = n := by exact rfl) (hsz : RL.all (fun r => Nat.beq (sizeS r) wd) = true := by exact rfl) (hid : RL.all (fun r => r.all (Seg.idB fun _ => false)) = true := by exact rfl) (h0 : 0 < n * wd := by exact Nat.le_of_ble_eq_true rfl) (hH : H ++ [none] = H' := by repeat (first | exact happ_0 | apply happ_s)) : LOk P ⟨d, .buildSlice t n parts, ty, pos, af, g⟩ T H H' (.s (.fz n wd (rowsF fun i => RL.getD i []))) [] [] := a_bslR RL hps hl hbig hZn hs hvs hvn hsz hid h0 hH
theorem big_ok {n m b : Nat} (h : n + m ≤ 1000000) (hb : Nat.ble (1000000 * b) 140737488355328 = true) : (n + m) * b ≤ 140737488355328 := Nat.le_trans (Nat.mul_le_mul_right b h) (Nat.le_of_ble_eq_true hb)
theorem k_apr {x y : Operand} {t tx e rt : TypeId} {id n m c wd n0 q : Nat} {g1 g2 : Nat → Nat → SV} {inf : TypeInfo} {z : Value} {H' : Heap} (g' : Nat → Nat → SV) [hu : Und P t (.slice e)] [hux : Und P tx (.slice e)] [hi : Inf P e inf] [hN : LenN H n0] [hc : AddN n m c] (hx : ev T x = .s (.gro id wd n) := by rfl) (hy : ev T y = .s (.fz m wd g2) := by rfl) (hb : hget H id = some ⟨true, [.rows q wd g1]⟩ := by rfl) (hsz : inf.size = wd := by exact rfl) (hz : inf.zero = some z := by exact rfl) (hzs : z.cells.size = wd := by exact rfl) (hw : 0 < wd := by exact Nat.le_of_ble_eq_true rfl) (hq : n ≤ q := by omega) (hg : ∀ i j, i < n → j < wd → g' i j = g1 i j := by exact fun _ _ _ _ => rfl) (hgn : ∀ i j, i < m → j < wd → g' (n + i) j = g2 i j) (hbig : n + m ≤ 1000000 := by omega) (hbb : Nat.ble (1000000 * inf.bytes) 140737488355328 = true := by exact rfl) (hb1 : 0 < inf.bytes := by exact Nat.le_of_ble_eq_true rfl) (hH : H.set id none ++ [some (Blk.mk true [.rows c wd g'])] = H' := by exact rfl) :
    LOk P ⟨d, .call ⟨.builtin .append, #[x, y], #[t, tx]⟩, rt, pos, af, g⟩ T H H' (.s (.gro n0 wd c)) [id] [id] := by
  have hcc := hc.h
  subst hcc
  exact a_app hx hy hb hsz hz hzs (asrc_fz hw hux.h) (by simp [sizeS, Seg.size]; exact Nat.mul_le_mul_right wd hq) (.rows hw hq hg hgn) (big_ok hbig hbb) hb1 (fun _ h => by cases h) hN.h hH
theorem k_bsK {t e : TypeId} {n n0 : Nat} {k : IntKind} {parts : Array (Nat × Operand)} {H' : Heap} (xs : List Int) [hu : Und P t (.slice e)] [he : Sz P e 1] [hz : Zi P e k] [hN : LenN H n0] (hl : (partsOf T parts.toList).all (fun p => p.2.solid) = true := by kernel_rfl) (hs : (fillS (fun i => some (i * 1, 1)) ((List.range (n * 1)).map fun _ => .one (.int k 0)) (partsOf T parts.toList)).bind (intsOf k) = some xs := by kernel_rfl) (hxn : xs.length = n := by rfl) (hbig : n * 1 ≤ 16777216 := by exact Nat.le_of_ble_eq_true rfl) (h0 : 0 < n * 1 := by exact Nat.le_of_ble_eq_true rfl) (hH : H ++ [some (Blk.mk true [.ints k n xs])] = H' := by repeat (first | exact happ_0 | apply happ_s)) : LOk P ⟨d, .buildSlice t n parts, ty, pos, af, g⟩ T H H' (.s (.slice n0 0 0 n n)) [] [] := by
  have hZ1 : rowOk ((List.range (n * 1)).map fun _ => .one (.int k 0)) ((Array.range (n * 1)).map fun i => (Value.int k 0).cells[i % (Value.int k 0).cells.size]!) = true := by
    have h1 : rowOk [.one (.int k 0)] (Value.int k 0).cells = true := by cases k <;> rfl
    have h2 := rowOk_rep_n h1 n
    have h3 := range_rep (Value.int k 0).cells n
    have h4 : (Value.int k 0).cells.size = 1 := rfl
    rw [h4] at h3
    rw [h4, h3]
    have h5 : ((List.range (n * 1)).map fun _ => Seg.one (.int k 0)) = (List.replicate n [Seg.one (.int k 0)]).flatten := by
      rw [Nat.mul_one]
      induction n with
      | zero => rfl
      | succ n ih =>
        rw [List.range_succ, List.map_append, List.replicate_succ', List.flatten_append]
        clear hl hs hxn hbig h0 hH h2 h3
        congr 1
        clear ih
        induction n with
        | zero => rfl
        | succ n ih => rw [List.range_succ, List.map_append, ih, List.replicate_succ', List.flatten_append]; rfl
    rw [h5]
    exact h2
  cases hq : fillS (fun i => some (i * 1, 1)) ((List.range (n * 1)).map fun _ => .one (.int k 0)) (partsOf T parts.toList) with
  | none => rw [hq] at hs; cases hs
  | some segs => rw [hq] at hs; exact a_bslI rfl (partsOf_ok hl) hbig hq hZ1 hs hxn h0 hN.h hH
end
section
variable {E : Env} {P : Program} {T : Tm} {H : Heap}
theorem frz_grz (t : Nat) {id len n wd : Nat} {g : Nat → Nat → SV} {H' : Heap} (hx : look T t = .s (.gro id wd len) := by rfl) (hb : hget H id = some ⟨true, [.rows n wd g]⟩ := by rfl) (hn : len ≤ n := by omega) (hH : H.set id none = H' := by repeat (first | exact hset_0 | apply hset_s)) : Weak E T H ((t, .s (.fz len wd g)) :: T) H' := by
  have hlt := hget_lt hb
  refine (weak_frz id hb rfl).trans ((weak_conv t hx (conv_grz (k := ⟨false, [.rows n wd g]⟩) (by rw [hget_set hlt, if_pos rfl]) rfl rfl hn)).trans (weak_drop id ?_))
  rw [List.set_set]; exact hH
end
end Go.Bx
end

section
/- What comes in, told as values: nothing of it is written. No program. -/
namespace Go.Bx
open Go.ChangeShapes Go.WideShapes
def rhoW (w : World) : Rho := ⟨fun _ => none, fun b => match w.heap[b]? with | some (.cells cs _ _) => some cs | _ => none, fun _ => none⟩
theorem hrep_w (w : World) : HRep (fun b => w.heap.size ≤ b) (rhoW w) (hget []) w := by
  refine ⟨fun id b o e => (by cases e), fun id b o k e => (by cases e), fun id id' b o o' k k' _ e => (by cases e), fun b cs e => ?_, fun b n e => (by cases e)⟩
  simp only [rhoW] at e
  split at e
  · rename_i c t fr hb
    cases e
    exact ⟨fun h => absurd (Array.getElem?_eq_some_iff.1 hb).1 (by omega), t, fr, hb⟩
  · cases e
theorem calls_con {P : Program} {f : FuncId} {args : List AV} {r : Bool} {vals : Array Value} {w : World} (h : Con P f args [] (.s (.bool r)) []) (ha : ArgsRep (rhoW w) args vals) :
    Calls P f vals w fun e w' => e = .returned (.bool r) ∧ Go.RowKit.Below w.heap.size w w' := by
  refine (h.run (fun b => w.heap.size ≤ b) (rhoW w) vals w (hrep_w w) (fun _ _ => rfl) (fun _ h => h) ha).mono ?_
  rintro e w' ⟨v', ρ', W', rfl, hn, hv⟩
  have hv : v' = .bool r := hv
  subst hv
  exact ⟨rfl, hn.fr.os, hn.fr.tape, hn.fr.output, hn.fr.size, fun k hk => hn.fr.block k hk (by omega)⟩
section
variable {Hh : Type} {enc : TypeId × Value → Hh} {P : Program} {w : World} {base : Nat} {spare : Nat → Bool} {held : Bool}
def Op (enc : TypeId × Value → Hh) (P : Program) (w : World) (base : Nat) (spare : Nat → Bool) (held : Bool) (t : TypeId) (n : Nat) (S : List Seg → Prop) : Prop :=
  P.cellsOf t = n ∧ ∀ (fuel : Nat) (cs : List Value) (x : DataW Hh × List MemPlace), DataW.trod enc P w base spare held fuel t cs = some x → ∃ segs, S segs ∧ sizeS segs = n ∧ RowRep (rhoW w) segs (fun i => cs[i]?)
def shInt (k : IntKind) : List Seg → Prop := fun s => ∃ n, (Lit.int k n).wf = true ∧ s = [.one (.int k n)]
def shBool : List Seg → Prop := fun s => ∃ b, s = [.one (.bool b)]
def shArr (k : IntKind) (m : Nat) : List Seg → Prop := fun s => ∃ l : List Int, l.length = m ∧ (∀ y ∈ l, (Lit.int k y).wf = true) ∧ s = [.ints k m l]
def shInts (k : IntKind) : List Seg → Prop := fun s => ∃ l : List Int, l.length ≤ maxLen ∧ (∀ y ∈ l, (Lit.int k y).wf = true) ∧ s = [.one (.fzi k l)]
def shRows (wd : Nat) (S : List Seg → Prop) : List Seg → Prop := fun s => ∃ (n : Nat) (rows : Nat → List Seg), n ≤ maxLen ∧ (∀ i, i < n → S (rows i) ∧ sizeS (rows i) = wd) ∧ s = [.one (.fz n wd (rowsF rows))]
def shCat : List (Nat × (List Seg → Prop)) → List Seg → Prop
  | [], s => s = []
  | (n, S) :: r, s => ∃ a b, S a ∧ sizeS a = n ∧ shCat r b ∧ s = a ++ b
def total (Ss : List (Nat × (List Seg → Prop))) : Nat := (Ss.map (·.1)).sum
theorem op_int {t : TypeId} {k : IntKind} (ht : P.underlying t = some (.int k)) (hc : P.cellsOf t = 1) : Op enc P w base spare held t 1 (shInt k) :=
  ⟨hc, fun fuel cs x h => by
    obtain ⟨n, rfl, _, hw⟩ := DataW.trod_int ht h
    refine ⟨_, ⟨n, hw, rfl⟩, rfl, fun i y hy => ?_⟩
    obtain ⟨rfl, rfl⟩ := atS_one1 hy
    exact ⟨_, rfl, rfl, rfl⟩⟩
theorem op_arr {t e : TypeId} {n : Nat} {k : IntKind} (ht : P.underlying t = some (.array n e)) (he : P.underlying e = some (.int k)) (hc : P.cellsOf e = 1) (hct : P.cellsOf t = n) : Op enc P w base spare held t n (shArr k n) :=
  ⟨hct, fun fuel cs x h => by
    obtain ⟨xs, m, _, _, hl, hlen, hall⟩ := DataW.trod_array ht h
    rw [hct] at hl
    have each : ∀ i, i < n → ∃ z, cs[i]? = some (.int k z) ∧ (Lit.int k z).wf = true := by
      intro i hi
      have h1 := hall i hi
      rw [hc, Nat.mul_one] at h1
      obtain ⟨y, hy⟩ : ∃ y, xs[i]? = some y := ⟨_, List.getElem?_eq_getElem (by rw [hlen]; exact hi)⟩
      rw [hy] at h1
      obtain ⟨z, hz, _, hw⟩ := DataW.trod_int he h1
      have := congrArg (·[0]?) hz
      simp [List.getElem?_drop] at this
      exact ⟨z, this, hw⟩
    have hg : ∀ (n : Nat) (cs : List Value), cs.length = n → (∀ i, i < n → ∃ z, cs[i]? = some (.int k z) ∧ (Lit.int k z).wf = true) → ∃ l : List Int, l.length = n ∧ (∀ y ∈ l, (Lit.int k y).wf = true) ∧ cs = l.map (Value.int k) := by
      intro n
      induction n with
      | zero => intro cs h _; exact ⟨[], rfl, by simp, by simpa using h⟩
      | succ n ih =>
        intro cs h hz
        cases cs with
        | nil => simp at h
        | cons c r =>
          obtain ⟨z, h1, h2⟩ := hz 0 (by omega)
          simp at h1
          subst h1
          obtain ⟨l, h3, h4, h5⟩ := ih r (by simpa using h) (fun i hi => by simpa using hz (i + 1) (by omega))
          exact ⟨z :: l, by simp [h3], by simpa [h2] using h4, by simp [h5]⟩
    obtain ⟨l, h1, h2, rfl⟩ := hg n cs hl each
    refine ⟨_, ⟨l, h1, h2, rfl⟩, by simp [sizeS, Seg.size], fun i y hy => ?_⟩
    obtain ⟨h3, rfl⟩ := atS_ints1 hy
    exact ⟨.int k (l.getD i 0), by simp [h1, h3], rfl, rfl⟩⟩
theorem rowRep_app {ρ : Rho} {a b : List Seg} {get : Nat → Option Value} (h1 : RowRep ρ a get) (h2 : RowRep ρ b (fun j => get (sizeS a + j))) : RowRep ρ (a ++ b) get := by
  intro i x hx
  rw [atS_append] at hx
  split at hx
  · exact h1 i x hx
  · rename_i hi
    obtain ⟨v, hv, hc⟩ := h2 _ x hx
    have hv : get (sizeS a + (i - sizeS a)) = some v := hv
    rw [show sizeS a + (i - sizeS a) = i by omega] at hv
    exact ⟨v, hv, hc⟩
theorem cat_rep {ρ : Rho} : ∀ {Ss : List (Nat × (List Seg → Prop))} {get : Nat → Option Value}, (∀ i n S, Ss[i]? = some (n, S) → ∃ segs, S segs ∧ sizeS segs = n ∧ RowRep ρ segs (fun j => get (total (Ss.take i) + j))) → ∃ segs, shCat Ss segs ∧ sizeS segs = total Ss ∧ RowRep ρ segs get
  | [], get, _ => ⟨[], rfl, rfl, fun i x hx => by simp [atS] at hx⟩
  | (n, S) :: r, get, h => by
    obtain ⟨a, a1, a2, a3⟩ := h 0 n S rfl
    have a3 : RowRep ρ a get := fun i x hx => by
      obtain ⟨v, hv, hc⟩ := a3 i x hx
      exact ⟨v, by simpa [total] using hv, hc⟩
    obtain ⟨b, b1, b2, b3⟩ := cat_rep (Ss := r) (get := fun j => get (n + j)) (fun i m S' hi => by
      obtain ⟨s, s1, s2, s3⟩ := h (i + 1) m S' (by simpa using hi)
      refine ⟨s, s1, s2, fun j x hx => ?_⟩
      obtain ⟨v, hv, hc⟩ := s3 j x hx
      refine ⟨v, ?_, hc⟩
      have hv : get (total (((n, S) :: r).take (i + 1)) + j) = some v := hv
      have : total (((n, S) :: r).take (i + 1)) + j = n + (total (r.take i) + j) := by simp [total]; omega
      rw [this] at hv
      exact hv)
    refine ⟨a ++ b, ⟨a, b, a1, a2, b1, rfl⟩, by rw [sizeS_append, a2, b2]; simp [total], rowRep_app a3 (by rw [a2]; exact b3)⟩
theorem op_struct {t : TypeId} {fs : Array Field} (Ss : List (Nat × (List Seg → Prop))) (ht : P.underlying t = some (.struct fs)) (hct : P.cellsOf t = total Ss) (hlen : fs.size = Ss.length) (h : ∀ i f n S, fs[i]? = some f → Ss[i]? = some (n, S) → f.offset = total (Ss.take i) ∧ Op enc P w base spare held f.type n S) : Op enc P w base spare held t (total Ss) (shCat Ss) :=
  ⟨hct, fun fuel cs x hx => by
    obtain ⟨xs, n, _, _, hl, hxl, hall⟩ := DataW.trod_struct ht hx
    refine cat_rep fun i m S hi => ?_
    have hil : i < fs.size := by rw [hlen]; exact (List.getElem?_eq_some_iff.1 hi).1
    obtain ⟨f, hf⟩ : ∃ f, fs[i]? = some f := ⟨_, Array.getElem?_eq_getElem hil⟩
    obtain ⟨h1, h2, h3⟩ := h i f m S hf hi
    have h4 := hall i f hf
    obtain ⟨y, hy⟩ : ∃ y, xs[i]? = some y := ⟨_, List.getElem?_eq_getElem (by rw [hxl]; exact hil)⟩
    rw [hy, h1, h2] at h4
    obtain ⟨segs, s1, s2, s3⟩ := h3 _ _ _ h4
    refine ⟨segs, s1, s2, fun j z hz => ?_⟩
    obtain ⟨v, hv, hc⟩ := s3 j z hz
    have hj := atS_lt hz
    have hv : ((cs.drop _).take _)[j]? = some v := hv
    rw [List.getElem?_take_of_lt (by omega), List.getElem?_drop] at hv
    exact ⟨v, hv, hc⟩⟩
theorem total_rep (m : Nat) (S : List Seg → Prop) (n : Nat) : total (List.replicate n (m, S)) = n * m := by
  unfold total
  induction n with
  | zero => simp
  | succ n ih => rw [List.replicate_succ, List.map_cons, List.sum_cons, ih, Nat.succ_mul]; omega
theorem op_array {t e : TypeId} {n m : Nat} {S : List Seg → Prop} (ht : P.underlying t = some (.array n e)) (hct : P.cellsOf t = n * m) (he : Op enc P w base spare held e m S) : Op enc P w base spare held t (n * m) (shCat (List.replicate n (m, S))) :=
  ⟨hct, fun fuel cs x hx => by
    obtain ⟨xs, q, _, _, hl, hxl, hall⟩ := DataW.trod_array ht hx
    rw [← total_rep m S n]
    refine cat_rep fun i m' S' hi => ?_
    have hil : i < n := by have := (List.getElem?_eq_some_iff.1 hi).1; simpa using this
    rw [List.getElem?_eq_getElem (by simpa using hil)] at hi
    simp at hi
    obtain ⟨rfl, rfl⟩ := hi
    have h4 := hall i hil
    obtain ⟨y, hy⟩ : ∃ y, xs[i]? = some y := ⟨_, List.getElem?_eq_getElem (by rw [hxl]; exact hil)⟩
    rw [hy, he.1] at h4
    obtain ⟨segs, s1, s2, s3⟩ := he.2 _ _ _ h4
    refine ⟨segs, s1, s2, fun j z hz => ?_⟩
    obtain ⟨v, hv, hc⟩ := s3 j z hz
    have hj := atS_lt hz
    have hv : ((cs.drop _).take _)[j]? = some v := hv
    rw [List.getElem?_take_of_lt (by omega), List.getElem?_drop] at hv
    refine ⟨v, ?_, hc⟩
    show cs[total _ + j]? = some v
    rw [List.take_replicate, Nat.min_eq_left (by omega), total_rep]
    exact hv⟩
theorem arg_agg {r : Reach} {b0 : Nat} {t : TypeId} {n : Nat} {S : List Seg → Prop} {v : Value} {d : DataW Hh} {ps : List MemPlace} (ho : Op enc P w base spare held t n S) (ht : (∃ fs, P.underlying t = some (.struct fs)) ∨ ∃ m e, P.underlying t = some (.array m e)) (hval : Value.okWide P w r b0 t v) (hd : DataW.Trod enc P w base spare held t v d ps) : ∃ segs, S segs ∧ (AV.agg segs).rep (rhoW w) v := by
  have hv : ∃ cs, v = .agg cs ∧ cs.size = P.cellsOf t := by
    rcases ht with ⟨fs, ht⟩ | ⟨m, e, ht⟩
    · simp only [Value.okWide, ht] at hval
      obtain ⟨cs, rfl, hs, _⟩ := hval
      exact ⟨cs, rfl, hs⟩
    · simp only [Value.okWide, ht] at hval
      obtain ⟨cs, rfl, hs, _⟩ := hval
      exact ⟨cs, rfl, hs⟩
  obtain ⟨cs, rfl, hs⟩ := hv
  obtain ⟨fuel, hf⟩ := hd
  obtain ⟨segs, s1, s2, s3⟩ := ho.2 _ _ _ hf
  refine ⟨segs, s1, cs, rfl, by rw [hs, ho.1, s2], fun i x hx => ?_⟩
  obtain ⟨u, hu, hc⟩ := s3 i x hx
  exact ⟨u, by simpa [Value.cells] using hu, hc⟩
theorem arg_one {t : TypeId} {S : List Seg → Prop} {v : Value} {d : DataW Hh} {ps : List MemPlace} (ho : Op enc P w base spare held t 1 S) (hv : v.cells = #[v]) (hS : ∀ segs, S segs → ∃ x, segs = [.one x]) (hd : DataW.Trod enc P w base spare held t v d ps) : ∃ x, S [.one x] ∧ (AV.s x).rep (rhoW w) v := by
  obtain ⟨fuel, hf⟩ := hd
  obtain ⟨segs, s1, s2, s3⟩ := ho.2 _ _ _ hf
  obtain ⟨x, rfl⟩ := hS segs s1
  obtain ⟨u, hu, hc⟩ := s3 0 x rfl
  rw [hv] at hu
  simp at hu
  subst hu
  exact ⟨x, s1, hc.1⟩
theorem one_int {k : IntKind} (s : List Seg) (h : shInt k s) : ∃ x, s = [.one x] := by obtain ⟨n, _, rfl⟩ := h; exact ⟨_, rfl⟩
end
theorem cells_int {P : Program} {w : World} {r : Reach} {b0 : Nat} {t : TypeId} {k : IntKind} {v : Value} (ht : P.underlying t = some (.int k)) (hval : Value.okWide P w r b0 t v) : v.cells = #[v] := by
  simp only [Value.okWide, ht] at hval
  cases v <;> first | rfl | (simp [Cell.okWide, Cell.ok, ht] at hval)
theorem args_nil {ρ : Rho} : ArgsRep ρ [] #[] := ⟨rfl, fun i x h => by simp at h⟩
theorem args_cons {ρ : Rho} {a : AV} {av : List AV} {u : Value} {us : List Value} (h : a.rep ρ u) (k : ArgsRep ρ av us.toArray) : ArgsRep ρ (a :: av) (u :: us).toArray := by
  obtain ⟨k1, k2⟩ := k
  refine ⟨by simpa using k1, fun i x hx => ?_⟩
  cases i with
  | zero => simp at hx; subst hx; simpa using h
  | succ i =>
    have := k2 i x (by simpa using hx)
    simpa [Array.getD_eq_getD_getElem?] using this
theorem wf_u8 {y : Int} (h : (Lit.int .u8 y).wf = true) : 0 ≤ y ∧ y < 256 := by
  simp [Lit.wf, IntKind.min, IntKind.max, IntKind.signed, IntKind.bits] at h; omega
theorem wf_getD {k : IntKind} {l : List Int} (h : ∀ y ∈ l, (Lit.int k y).wf = true) (i : Nat) : (Lit.int k (l.getD i 0)).wf = true := by
  by_cases hi : i < l.length
  · rw [List.getD_eq_getElem?_getD, List.getElem?_eq_getElem hi]; exact h _ (List.getElem_mem _)
  · rw [List.getD_eq_getElem?_getD, List.getElem?_eq_none (by omega)]; cases k <;> rfl
theorem nats_of {l : List Int} (h : ∀ i, 0 ≤ l.getD i 0) : ∃ m : List Nat, l = zs m ∧ ∀ i, ((m.getD i 0 : Nat) : Int) = l.getD i 0 := by
  have e : l = zs (l.map Int.toNat) := by
    apply List.ext_getElem (by simp [zs])
    intro i h1 h2
    have := h i
    rw [List.getD_eq_getElem?_getD, List.getElem?_eq_getElem h1] at this
    simp [zs] at this ⊢
    omega
  exact ⟨_, e, fun i => by conv => rhs; rw [e]
                           rw [zs_getD]⟩
end Go.Bx
end

section
/- How long what comes in is. No program. -/
namespace Go.Bx
section
open Go.ChangeShapes
variable {Hh : Type} {enc : TypeId × Value → Hh} {P : Program} {w : World} {base : Nat} {spare : Nat → Bool} {held : Bool}
end
end Go.Bx
end

section
/- Numbers of 256 bits: what each walk's round needs. No program. -/
open Go Go.Bx
namespace Go.Proofs.X
abbrev HB : Nat := 4294967296
theorem hv_0 (f : Nat → Nat) : List.replicate 8 0 = pf2 f (fun _ => 0) 8 0 := by rw [pf2_0]; rfl
theorem wd_0 (f : Nat → Nat) : List.replicate 4 0 = pf2 f (fun _ => 0) 4 0 := by rw [pf2_0]; rfl
theorem hv_8 (n : Nat) (g : Nat → Nat) : pf2 (dg 4294967296 n) g 8 8 = hv n := pf2_m _ _ _
theorem wd_4 (n : Nat) (g : Nat → Nat) : pf2 (dg 18446744073709551616 n) g 4 4 = wd n := pf2_m _ _ _
theorem hv_pf (f : Nat → Nat) (a : Nat) : hv a = pf2 f (dg 4294967296 a) 8 0 := (pf2_0 _ _ _).symm
theorem hvl (a i : Nat) (h : i < 8) : (hv a).getD i 0 < 4294967296 := by rw [hv_at _ _ h]; exact dg_lt _ _ _ (by omega)
theorem hv_over (a : Nat) : hv 0 = List.replicate 8 0 := rfl
theorem wd_zero : wd 0 = List.replicate 4 0 := rfl
theorem wd_small (n : Nat) (h : n < 18446744073709551616) : wd n = [n, 0, 0, 0] := by
  apply eqD (by rw [wd_len]; rfl)
  intro i hi
  rw [wd_len] at hi
  rw [wd_at _ _ hi]
  unfold dg
  match i, hi with
  | 0, _ => simp; omega
  | 1, _ => simp; omega
  | 2, _ => simp; omega
  | 3, _ => simp; omega
theorem wd_low (n : Nat) (h : n < 18446744073709551616) : (wd n).getD 0 0 = n := by rw [wd_small n h]; rfl
theorem add_dig (a b c i : Nat) (h : i < 8) (X Y : Nat) (hX : X = dg 4294967296 a i) (hY : Y = dg 4294967296 b i) : dg 4294967296 (a + b + c) i = (cy 4294967296 a b c i + (X + Y)) &&& 4294967295 := by
  rw [hX, hY, and32, cy_dg _ _ _ _ _ (by omega)]
theorem add_car (a b c i : Nat) (X Y : Nat) (hX : X = dg 4294967296 a i) (hY : Y = dg 4294967296 b i) : (cy 4294967296 a b c i + (X + Y)) / 2 ^ 32 = cy 4294967296 a b c (i + 1) := by
  rw [hX, hY]; exact cy_succ _ _ _ _ _ (by omega)
def subN (a b : Nat) : Nat := (a + (2 ^ 256 - b)) % 2 ^ 256
def undN (a b : Nat) : Nat := if a < b then 1 else 0
theorem sub_wd (a b : Nat) (hb : b < 2 ^ 256) : wd (a + (2 ^ 256 - 1 - b) + 1) = wd (subN a b) := by
  unfold subN
  rw [wd_mod]
  congr 1
  omega
theorem sub_und (a b : Nat) (ha : a < 2 ^ 256) (hb : b < 2 ^ 256) : (a + (2 ^ 256 - 1 - b) + 1) / 2 ^ 256 ≤ 1 ∧ 1 - (a + (2 ^ 256 - 1 - b) + 1) / 2 ^ 256 = undN a b := by
  unfold undN
  split <;> omega
theorem subN_lt (a b : Nat) : subN a b < 2 ^ 256 := Nat.mod_lt _ (by omega)
theorem subN_le {a b : Nat} (ha : a < 2 ^ 256) (h : b ≤ a) : subN a b = a - b := by unfold subN; omega
theorem cmp_ne {a b i : Nat} (ha : a < 2 ^ 256) (hb : b < 2 ^ 256) (hne : a ≠ b) (h : a / 4294967296 ^ (i + 1) = b / 4294967296 ^ (i + 1)) (hd : dg 4294967296 a i = dg 4294967296 b i) : 0 < i ∧ a / 4294967296 ^ (i - 1 + 1) = b / 4294967296 ^ (i - 1 + 1) := by
  have h1 := cmp_up h hd
  by_cases h0 : i = 0
  · subst h0; simp at h1; exact absurd h1 hne
  · refine ⟨by omega, ?_⟩
    rw [show i - 1 + 1 = i by omega]; exact h1
structure BitI (v i k nn : Nat) : Prop where
  le : k ≤ 32
  c : (k = 0 ∧ nn = bitsN (v % 4294967296 ^ i)) ∨ (0 < k ∧ nn = 32 * i + k ∧ 2 ^ (k - 1) ≤ dg 4294967296 v i)
theorem BitI.next {v i k nn : Nat} (b : BitI v i k nn) (h : 0 < dg 4294967296 v i / 2 ^ k) : k < 32 ∧ BitI v i (k + 1) (32 * i + k + 1) := by
  have hl := dg_lt 4294967296 v i (by omega)
  have hk : 2 ^ k ≤ dg 4294967296 v i := by
    rcases Nat.lt_or_ge (dg 4294967296 v i) (2 ^ k) with h1 | h1
    · rw [Nat.div_eq_of_lt h1] at h; omega
    · exact h1
  have h32 : k < 32 := by
    rcases Nat.lt_or_ge k 32 with h1 | h1
    · exact h1
    · have : (2 : Nat) ^ 32 ≤ 2 ^ k := Nat.pow_le_pow_right (by omega) h1
      omega
  exact ⟨h32, by omega, .inr ⟨by omega, by omega, by simpa using hk⟩⟩
theorem BitI.done {v i k nn : Nat} (b : BitI v i k nn) (h : ¬ 0 < dg 4294967296 v i / 2 ^ k) : nn = bitsN (v % 4294967296 ^ (i + 1)) := by
  have hk : dg 4294967296 v i < 2 ^ k := by
    rcases Nat.lt_or_ge (dg 4294967296 v i) (2 ^ k) with h1 | h1
    · exact h1
    · exact absurd (Nat.div_pos h1 (Nat.two_pow_pos k)) h
  rcases b.c with ⟨rfl, rfl⟩ | ⟨h0, rfl, h1⟩
  · rw [bitsN_half0]; simpa using hk
  · have := bitsN_half v i (k - 1) h1 (by rw [show k - 1 + 1 = k by omega]; exact hk)
    rw [this]; omega
theorem mul_start (v n at_ : Nat) : hw v = pf2 (dg 4294967296 (v + n * 4294967296 ^ at_)) (dg 4294967296 v) 16 at_ := by
  unfold hw pf2
  apply List.map_congr_left
  intro j _
  by_cases h : j < at_
  · rw [if_pos h, dg_below _ _ _ _ _ (by omega) h]
  · rw [if_neg h]
theorem mul_end (v n at_ p : Nat) (h : my 4294967296 v n at_ p = 0) : pf2 (dg 4294967296 (v + n * 4294967296 ^ at_)) (dg 4294967296 v) 16 p = hw (v + n * 4294967296 ^ at_) :=
  pf2_eq _ _ _ _ fun _ h1 _ => my_0 _ _ _ _ _ _ (by omega) h h1
theorem mul_dig (v n at_ p Y : Nat) (hY : Y = dg 4294967296 v p) : dg 4294967296 (v + n * 4294967296 ^ at_) p = (my 4294967296 v n at_ p + Y) &&& 4294967295 := by
  rw [hY, and32, my_dg _ _ _ _ _ (by omega)]
theorem mul_car (v n at_ p Y : Nat) (hY : Y = dg 4294967296 v p) : (my 4294967296 v n at_ p + Y) / 2 ^ 32 = my 4294967296 v n at_ (p + 1) := by
  rw [hY]; exact my_succ _ _ _ _ _ (by omega)
def mulV (a b i k : Nat) : Nat := (a % 4294967296 ^ i) * b + dg 4294967296 a i * (b % 4294967296 ^ k) * 4294967296 ^ i
theorem mulV_0 (a b : Nat) : mulV a b 0 0 = 0 := by simp [mulV, Nat.mod_one]
theorem mulV_i (a b i : Nat) (hb : b < 2 ^ 256) : mulV a b i 8 = mulV a b (i + 1) 0 := by
  unfold mulV
  rw [show (4294967296 : Nat) ^ 8 = 2 ^ 256 from rfl, Nat.mod_eq_of_lt hb, mod_succ 4294967296 a i, Nat.pow_zero, Nat.mod_one]
  simp only [Nat.mul_zero, Nat.zero_mul, Nat.add_zero]
  rw [Nat.add_mul]
  congr 1
  rw [Nat.mul_comm (4294967296 ^ i), Nat.mul_assoc, Nat.mul_assoc, Nat.mul_comm b]
theorem mulV_k (a b i k : Nat) : mulV a b i k + dg 4294967296 a i * dg 4294967296 b k * 4294967296 ^ (i + k) = mulV a b i (k + 1) := by
  unfold mulV
  rw [mod_succ 4294967296 b k, Nat.mul_add, Nat.add_mul, Nat.add_assoc]
  congr 2
  rw [Nat.pow_add]
  simp only [Nat.mul_assoc, Nat.mul_left_comm, Nat.mul_comm]
theorem mulV_8 (a b : Nat) (ha : a < 2 ^ 256) : mulV a b 8 0 = a * b := by
  unfold mulV
  rw [show (4294967296 : Nat) ^ 8 = 2 ^ 256 from rfl, Nat.mod_eq_of_lt ha]
  simp [Nat.mod_one]
theorem mulV_le (a b i k : Nat) : mulV a b i k ≤ a * b := by
  unfold mulV
  have h1 : b % 4294967296 ^ k ≤ b := Nat.mod_le _ _
  have h2 : dg 4294967296 a i * (b % 4294967296 ^ k) * 4294967296 ^ i ≤ dg 4294967296 a i * 4294967296 ^ i * b := by
    rw [Nat.mul_right_comm]
    exact Nat.mul_le_mul_left _ h1
  have h3 : a % 4294967296 ^ i + dg 4294967296 a i * 4294967296 ^ i ≤ a := by
    have := mod_succ 4294967296 a i
    rw [Nat.mul_comm (4294967296 ^ i)] at this
    rw [← this]; exact Nat.mod_le _ _
  calc _ ≤ a % 4294967296 ^ i * b + dg 4294967296 a i * 4294967296 ^ i * b := Nat.add_le_add_left h2 _
    _ = (a % 4294967296 ^ i + dg 4294967296 a i * 4294967296 ^ i) * b := (Nat.add_mul ..).symm
    _ ≤ a * b := Nat.mul_le_mul_right _ h3
theorem mul_fit {a b : Nat} (ha : a < 2 ^ 256) (hb : b < 2 ^ 256) : a * b < 4294967296 ^ 16 := by
  have h1 : a * b ≤ a * 2 ^ 256 := Nat.mul_le_mul_left _ (by omega)
  have h2 : a * 2 ^ 256 < 2 ^ 256 * 2 ^ 256 := (Nat.mul_lt_mul_right (by omega)).2 ha
  have h3 : (4294967296 : Nat) ^ 16 = 2 ^ 256 * 2 ^ 256 := rfl
  rw [h3]; omega
theorem mul_step {a b i k : Nat} (ha : a < 2 ^ 256) (hb : b < 2 ^ 256) : mulV a b i k + dg 4294967296 a i * dg 4294967296 b k * 4294967296 ^ (i + k) < 4294967296 ^ 16 := by
  rw [mulV_k]; exact Nat.lt_of_le_of_lt (mulV_le _ _ _ _) (mul_fit ha hb)
theorem half_mul {x y : Nat} (hx : x < 4294967296) (hy : y < 4294967296) : x * y ≤ 18446744065119617025 := by
  have := Nat.mul_le_mul (show x ≤ 4294967295 by omega) (show y ≤ 4294967295 by omega)
  omega
theorem zs_hw_lo (v : Nat) : ((zs (hw v)).drop 0).take 8 = zs (hv v) := by rw [List.drop_zero, zs_take, hw_lo]
theorem zs_hw_hi (v : Nat) : ((zs (hw v)).drop 8).take 8 = zs (hv (v / 2 ^ 256)) := by
  rw [zs_drop, hw_hi, zs_take, List.take_of_length_le (by rw [hv_len]; omega)]
theorem hw_zero : hw 0 = List.replicate 16 0 := rfl
def shP (n f i : Nat) : Nat := dg 4294967296 n i * 2 ^ (f % 32)
def shD (n f i k : Nat) : Nat := (n % 4294967296 ^ i) * 2 ^ f + (if k = 0 then 0 else if k = 1 then shP n f i % 4294967296 * 4294967296 ^ (i + f / 32) else shP n f i * 4294967296 ^ (i + f / 32))
def shp (n f i k : Nat) : Nat := if k = 0 then shP n f i % 4294967296 else shP n f i / 4294967296
theorem shD_0 (n f i : Nat) : shD n f i 0 = (n % 4294967296 ^ i) * 2 ^ f := by simp [shD]
theorem f_split (f i : Nat) : 4294967296 ^ i * 2 ^ f = 2 ^ (f % 32) * 4294967296 ^ (i + f / 32) := by
  have e : ∀ k, (4294967296 : Nat) ^ k = 2 ^ (32 * k) := fun k => by rw [Nat.pow_mul]
  rw [e, e, ← Nat.pow_add, ← Nat.pow_add]
  congr 1
  have := Nat.div_add_mod f 32
  omega
theorem shD_2 (n f i : Nat) : shD n f i 2 = (n % 4294967296 ^ (i + 1)) * 2 ^ f := by
  unfold shD shP
  rw [if_neg (by omega), if_neg (by omega), mod_succ, Nat.add_mul]
  congr 1
  rw [Nat.mul_comm (4294967296 ^ i), Nat.mul_assoc, Nat.mul_assoc, f_split]
theorem shP_lt (n f i : Nat) : shP n f i < 18446744073709551616 := by
  unfold shP
  have h1 := dg_lt 4294967296 n i (by omega)
  have h2 : 2 ^ (f % 32) ≤ 2 ^ 31 := Nat.pow_le_pow_right (by omega) (by omega)
  have := Nat.mul_le_mul (show dg 4294967296 n i ≤ 4294967295 by omega) h2
  omega
theorem shD_lt (n f i k : Nat) (hk : k < 2) : shD n f i k < 2 ^ (if k = 0 then f % 32 else 0) * 4294967296 ^ (i + f / 32 + k) := by
  have hp : 0 < (4294967296 : Nat) ^ i := Nat.pow_pos (by omega)
  have hD : (n % 4294967296 ^ i) * 2 ^ f < 2 ^ (f % 32) * 4294967296 ^ (i + f / 32) := by
    rw [← f_split]
    exact (Nat.mul_lt_mul_right (Nat.two_pow_pos f)).2 (Nat.mod_lt _ hp)
  by_cases h0 : k = 0
  · subst h0; simp only [shD, if_true, Nat.add_zero]; exact hD
  · have h1 : k = 1 := by omega
    subst h1
    unfold shD
    rw [if_neg (by omega), if_pos rfl, if_neg (by omega), Nat.pow_zero, Nat.one_mul, Nat.pow_succ]
    have hm : shP n f i % 4294967296 + 2 ^ (f % 32) ≤ 4294967296 := by
      have hd : 2 ^ (f % 32) ∣ shP n f i % 4294967296 := by
        have e : (4294967296 : Nat) = 2 ^ (f % 32) * 2 ^ (32 - f % 32) := by rw [← Nat.pow_add, show f % 32 + (32 - f % 32) = 32 by omega]
        unfold shP
        rw [e, Nat.mul_comm (dg _ _ _), Nat.mul_mod_mul_left]
        exact Nat.dvd_mul_right ..
      obtain ⟨t, ht⟩ := hd
      have hs : (4294967296 : Nat) = 2 ^ (f % 32) * 2 ^ (32 - f % 32) := by rw [← Nat.pow_add, show f % 32 + (32 - f % 32) = 32 by omega]
      have hl : shP n f i % 4294967296 < 4294967296 := Nat.mod_lt _ (by omega)
      rw [ht] at hl ⊢
      rw [hs] at hl ⊢
      have : t < 2 ^ (32 - f % 32) := Nat.lt_of_mul_lt_mul_left hl
      have := Nat.mul_le_mul_left (2 ^ (f % 32)) (show t + 1 ≤ 2 ^ (32 - f % 32) from this)
      rw [Nat.mul_add, Nat.mul_one] at this
      exact this
    have := Nat.mul_le_mul_right (4294967296 ^ (i + f / 32)) hm
    rw [Nat.add_mul] at this
    rw [Nat.mul_comm _ 4294967296]
    omega
theorem shp_mod (n f i k : Nat) : shp n f i k % 2 ^ (if k = 0 then f % 32 else 0) = 0 := by
  by_cases h0 : k = 0
  · subst h0
    simp only [shp, if_true]
    have e : (4294967296 : Nat) = 2 ^ (f % 32) * 2 ^ (32 - f % 32) := by rw [← Nat.pow_add, show f % 32 + (32 - f % 32) = 32 by omega]
    unfold shP
    rw [e, Nat.mul_comm (dg _ _ _), Nat.mul_mod_mul_left]
    exact Nat.mul_mod_right ..
  · rw [if_neg h0, Nat.pow_zero, Nat.mod_one]
theorem shp_lt (n f i k : Nat) : shp n f i k < 4294967296 := by
  unfold shp
  split
  · exact Nat.mod_lt _ (by omega)
  · have := shP_lt n f i; omega
theorem shD_s (n f i k : Nat) (hk : k < 2) : shD n f i k + shp n f i k * 4294967296 ^ (i + f / 32 + k) = shD n f i (k + 1) := by
  by_cases h0 : k = 0
  · subst h0; simp [shD, shp]
  · have h1 : k = 1 := by omega
    subst h1
    unfold shD shp
    rw [if_neg (by omega), if_pos rfl, if_neg (by omega), if_neg (by omega), if_neg (by omega), Nat.add_assoc]
    congr 1
    rw [Nat.pow_succ, ← Nat.mul_assoc, Nat.mul_right_comm, ← Nat.add_mul, Nat.add_comm, Nat.div_add_mod']
theorem sh_in (n f i k : Nat) (hk : k < 2) (h8 : 8 ≤ i + f / 32 + k) (h16 : i + f / 32 + k < 16) : (win (shD n f i k)).set (i + f / 32 + k - 8) ((win (shD n f i k)).getD (i + f / 32 + k - 8) 0 ||| shp n f i k) = win (shD n f i (k + 1)) := by
  rw [win_in (by split <;> omega) (shD_lt n f i k hk) (shp_mod n f i k) (shp_lt n f i k) h8 h16, shD_s n f i k hk]
theorem sh_out (n f i k : Nat) (hk : k < 2) (h : i + f / 32 + k < 8 ∨ 16 ≤ i + f / 32 + k) : win (shD n f i k) = win (shD n f i (k + 1)) := by
  rw [win_out (by split <;> omega) (shD_lt n f i k hk) (shp_mod n f i k) (shp_lt n f i k) h, shD_s n f i k hk]
theorem shD_next (n f i : Nat) : shD n f i 2 = shD n f (i + 1) 0 := by rw [shD_2, shD_0]
theorem shp_0 (n f i H : Nat) (hH : H = dg 4294967296 n i) : (H * 2 ^ (f % 32) % 18446744073709551616) &&& 4294967295 = shp n f i 0 := by
  have := shP_lt n f i
  rw [hH, and32, show dg 4294967296 n i * 2 ^ (f % 32) = shP n f i from rfl, Nat.mod_eq_of_lt this]
  rfl
theorem shp_1 (n f i H : Nat) (hH : H = dg 4294967296 n i) : H * 2 ^ (f % 32) % 18446744073709551616 / 2 ^ 32 = shp n f i 1 := by
  have := shP_lt n f i
  rw [hH, show dg 4294967296 n i * 2 ^ (f % 32) = shP n f i from rfl, Nat.mod_eq_of_lt this]
  rfl
theorem shp_k (n f i k : Nat) (hk : k < 2) : [shp n f i 0, shp n f i 1].getD k 0 = shp n f i k := by
  match k, hk with
  | 0, _ => rfl
  | 1, _ => rfl
theorem win_l (D j : Nat) (h : j < 8) : (win D).getD j 0 < 4294967296 := hvl _ _ h
theorem shN_f (n f : Nat) (s : Int) (h : s + 256 = (f : Int)) : n * 2 ^ f / 2 ^ 256 = shN n s := by unfold shN; rw [h]; rfl
theorem sh_to (f i : Nat) : (i * 32 + f) / 32 = i + f / 32 ∧ (i * 32 + f) % 32 = f % 32 := by omega
theorem win_zero (n f : Nat) : List.replicate 8 0 = win (shD n f 0 0) := by
  rw [shD_0, Nat.pow_zero, Nat.mod_one, Nat.zero_mul]; rfl
theorem win_all (n f : Nat) (hn : n < 2 ^ 256) : win (shD n f 8 0) = hv (n * 2 ^ f / 2 ^ 256) := by
  rw [shD_0, show (4294967296 : Nat) ^ 8 = 2 ^ 256 from rfl, Nat.mod_eq_of_lt hn]; rfl
end Go.Proofs.X
namespace Go.Bx
section
variable {P : Program} {T : Tm} {H : Heap} {d : Option Tmp} {ty : TypeId} {pos : String} {af : Array Edge} {g : Option (Nat × Bool)}
theorem k_lde (l' : List Int) {t : TypeId} {x : Operand} {id base i n m : Nat} {kk : IntKind} {l : List Int} {k : Blk} [ha : Ag P t true] [hz : Sz P t n] (hx : ev T x = .s (.ptr id base i) := by rfl) (hb : hget H id = some k := by rfl) (hs : segAt k.segs base = some (.ints kk m l) := by rfl) (hn : i + n ≤ m := by omega) (h : (l.drop i).take n = l') : LOk P ⟨d, .load t x, ty, pos, af, g⟩ T H H (.agg [.ints kk n l']) [id] [] := h ▸ a_load_aggI hx hb hs hn
end
end Go.Bx
end

section
/- Types and functions of limbs, as instances. -/
open Go Go.Bx Go.Proofs
namespace Go.Proofs.X
instance : Clb Tryz.prog 41 := ⟨_, Tryz.func41, by kernel_rfl, rfl⟩
instance : Clb Tryz.prog 78 := ⟨_, Tryz.func78, by kernel_rfl, rfl⟩
instance : Clb Tryz.prog 139 := ⟨_, Tryz.func139, by kernel_rfl, rfl⟩
instance : Clb Tryz.prog 72 := ⟨_, Tryz.func72, by kernel_rfl, rfl⟩
instance : Clb Tryz.prog 44 := ⟨_, Tryz.func44, by kernel_rfl, rfl⟩
instance : Clb Tryz.prog 128 := ⟨_, Tryz.func128, by kernel_rfl, rfl⟩
instance : Clb Tryz.prog 154 := ⟨_, Tryz.func154, by kernel_rfl, rfl⟩
instance : Clb Tryz.prog 123 := ⟨_, Tryz.func123, by kernel_rfl, rfl⟩
instance : Clb Tryz.prog 157 := ⟨_, Tryz.func157, by kernel_rfl, rfl⟩
instance : Clb Tryz.prog 166 := ⟨_, Tryz.func166, by kernel_rfl, rfl⟩
instance : Clb Tryz.prog 169 := ⟨_, Tryz.func169, by kernel_rfl, rfl⟩
instance : NoEq Tryz.prog 155 := ⟨by kernel_rfl⟩
instance : Und Tryz.prog 24 (.array 4 22) := ⟨Tryz.underlying24⟩
instance : Sz Tryz.prog 24 4 := ⟨Tryz.sizeOf24⟩
instance : Ag Tryz.prog 24 true := ⟨Tryz.isAgg24⟩
instance : Zv Tryz.prog 24 [.ints .u64 4 (zs (List.replicate 4 0))] := ⟨_, Tryz.zeroValue24, by kernel_rfl⟩
instance : Zb Tryz.prog 24 .u64 4 := ⟨_, Tryz.zeroValue24, by kernel_rfl⟩
instance : Inf Tryz.prog 24 Tryz.t24 := ⟨by kernel_rfl⟩
instance : Und Tryz.prog 155 (.array 8 22) := ⟨Tryz.underlying155⟩
instance : Sz Tryz.prog 155 8 := ⟨Tryz.sizeOf155⟩
instance : Ag Tryz.prog 155 true := ⟨Tryz.isAgg155⟩
instance : Zv Tryz.prog 155 [.ints .u64 8 (zs (List.replicate 8 0))] := ⟨_, Tryz.zeroValue155, by kernel_rfl⟩
instance : Zb Tryz.prog 155 .u64 8 := ⟨_, Tryz.zeroValue155, by kernel_rfl⟩
instance : Inf Tryz.prog 155 Tryz.t155 := ⟨by kernel_rfl⟩
instance : Und Tryz.prog 256 (.array 2 155) := ⟨Tryz.underlying256⟩
instance : Sz Tryz.prog 256 16 := ⟨Tryz.sizeOf256⟩
instance : Ag Tryz.prog 256 true := ⟨Tryz.isAgg256⟩
instance : Zv Tryz.prog 256 [.ints .u64 16 (zs (List.replicate 16 0))] := ⟨_, Tryz.zeroValue256, by kernel_rfl⟩
instance : Inf Tryz.prog 256 Tryz.t256 := ⟨by kernel_rfl⟩
instance : Und Tryz.prog 264 (.array 2 22) := ⟨Tryz.underlying264⟩
instance : Sz Tryz.prog 264 2 := ⟨Tryz.sizeOf264⟩
instance : Ag Tryz.prog 264 true := ⟨Tryz.isAgg264⟩
instance : Zv Tryz.prog 264 [.ints .u64 2 (zs (List.replicate 2 0))] := ⟨_, Tryz.zeroValue264, by kernel_rfl⟩
instance : Zb Tryz.prog 264 .u64 2 := ⟨_, Tryz.zeroValue264, by kernel_rfl⟩
instance : Inf Tryz.prog 264 Tryz.t264 := ⟨by kernel_rfl⟩
end Go.Proofs.X
end

section
set_option maxRecDepth 100000
set_option maxHeartbeats 4000000
open Go Go.Bx Go.Proofs
namespace Go.Proofs.X
attribute [local irreducible] wd hv hw dg cy my mulV bitsN subN undN
theorem of_n (x : Nat) (hx : x < 18446744073709551616) : Con Tryz.prog 41 [.s (.int .u64 ((x : Nat) : Int))] [] (.agg [.ints .u64 4 (zs (wd x))]) [] := by
 refine con_in 6 Tryz.func41 rfl rfl (m := 0) rfl ?_
 intro E hP hn hE
 refine qz hP hn ?_
 refine s_op k_al ?_
 refine qx hP hn ?_
 refine o2 ?_
 refine s_st k_st ?_
 refine qx hP hn ?_
 refine s_op k_ld ?_
 refine s_st k_st ?_
 refine s_nil trivial (n_wp ?_)
 rw [show (List.replicate 4 0).set 0 x = wd x from (wd_small x hx).symm]
 refine w_ret ?_
 exact d_ret hP hn hE [] (r_cell Tryz.results41)

theorem apart_n (n : Nat) : Con Tryz.prog 78 [.agg [.ints .u64 4 (zs (wd n))]] [] (.agg [.ints .u64 8 (zs (hv n))]) [] := by
 refine con_in 20 Tryz.func78 rfl rfl (m := 0) rfl ?_
 intro E hP hn hE
 refine qz hP hn ?_
 refine s_op k_bx ?_
 refine s_op k_al ?_
 refine s_nil trivial (n_wp (w_seq (w_seq ?_)))
 rw [hv_0 (dg 4294967296 n)]
 refine g_reg hP hn ?_
 refine s_op k_mv ?_
 refine s_nil trivial (n_wp (w_block ?_))
 refine c_loop (fun m T H => ∃ i, i ≤ 8 ∧ m = 8 - i ∧ T = [(1, .s (.ptr 0 0 0)), (2, .s (.ptr 1 0 0)), (4, .s (.int .i64 ((i : Nat) : Int)))] ∧ H = [some ⟨true, [.ints .u64 4 (zs (wd n))]⟩, some ⟨true, [.ints .u64 8 (zs (pf2 (dg 4294967296 n) (fun _ => 0) 8 i))]⟩]) (8) ⟨0, by omega, rfl, rfl, rfl⟩ (wk hE []) ?_
 rintro n_ T_ H_ ⟨i, hi, rfl, rfl, rfl⟩
 have hlen := pf2_len (dg 4294967296 n) (fun _ => 0) 8 i
 have hwl := wd_B64 n (i / 2)
 have hv64 : (wd n).getD (i / 2) 0 / 2 ^ (i % 2 * 32) < 18446744073709551616 := Nat.lt_of_le_of_lt (Nat.div_le_self _ _) hwl
 refine qz hP hn ?_
 refine s_op k_lss ?_
 refine s_nil trivial (n_wp (w_seq ?_))
 refine w_if rfl (fun h_t5 => ?_) (fun h_t5 => ?_)
 · refine w_skip (n_wp (w_seq (w_block (qz hP hn ?_))))
   refine o2 ?_
   refine qy hP hn ?_
   refine o4 ?_
   refine o4 ?_
   refine o3 ?_
   refine s_st k_st ?_
   refine s_nil trivial (n_blo (n_wp ?_))
   rw [pf2_set _ _ _ _ _ h_t5 (apart_step n i h_t5)]
   refine g_reg hP hn ?_
   refine o2 ?_
   refine s_nil trivial ?_
   exact n_round (8 - (i + 1)) (by omega) ⟨i + 1, by omega, rfl, rfl, rfl⟩ (wk hE [])
 · have hi8 : i = 8 := by omega
   subst hi8
   rw [hv_8]
   refine w_exit (x_thn (x_thn (x_eq (n_wp (qz hP hn ?_)))))
   refine s_op k_ld ?_
   refine s_st k_st ?_
   refine s_nil trivial (n_wp (w_ret ?_))
   exact d_ret hP hn hE [] (r_cell Tryz.results78)

theorem whole_n (n : Nat) : Con Tryz.prog 139 [.agg [.ints .u64 8 (zs (hv n))]] [] (.agg [.ints .u64 4 (zs (wd n))]) [] := by
 refine con_in 22 Tryz.func139 rfl rfl (m := 0) rfl ?_
 intro E hP hn hE
 refine qz hP hn ?_
 refine s_op k_bx ?_
 refine s_op k_al ?_
 refine s_nil trivial (n_wp (w_seq (w_seq ?_)))
 rw [wd_0 (dg 18446744073709551616 n)]
 refine g_reg hP hn ?_
 refine s_op k_mv ?_
 refine s_nil trivial (n_wp (w_block ?_))
 refine c_loop (fun m T H => ∃ i, i ≤ 4 ∧ m = 4 - i ∧ T = [(1, .s (.ptr 0 0 0)), (2, .s (.ptr 1 0 0)), (4, .s (.int .i64 ((i : Nat) : Int)))] ∧ H = [some ⟨true, [.ints .u64 8 (zs (hv n))]⟩, some ⟨true, [.ints .u64 4 (zs (pf2 (dg 18446744073709551616 n) (fun _ => 0) 4 i))]⟩]) (4) ⟨0, by omega, rfl, rfl, rfl⟩ (wk hE []) ?_
 rintro n_ T_ H_ ⟨i, hi, rfl, rfl, rfl⟩
 have hlen := pf2_len (dg 18446744073709551616 n) (fun _ => 0) 4 i
 refine qz hP hn ?_
 refine s_op k_lss ?_
 refine s_nil trivial (n_wp (w_seq ?_))
 refine w_if rfl (fun h_t5 => ?_) (fun h_t5 => ?_)
 · refine w_skip (n_wp (w_seq (w_block (qz hP hn ?_))))
   refine o2 ?_
   refine s_nil trivial (n_wp ?_)
   have hl1 := hvl n (2 * i + 1) (by omega)
   have hl2 := hvl n (2 * i) (by omega)
   have hl3 : (hv n).getD (2 * i + 1) 0 * 2 ^ 32 % 18446744073709551616 < 18446744073709551616 := Nat.mod_lt _ (by omega)
   refine g_any hP hn ?_
   refine o4 ?_
   refine o4 ?_
   refine o3 ?_
   refine o2 ?_
   refine s_st k_st ?_
   refine s_nil (by kernel_rfl) ?_
   refine n_blo (n_wp ?_)
   rw [pf2_set _ _ _ _ _ h_t5 (whole_step n i h_t5)]
   refine g_reg hP hn ?_
   refine o2 ?_
   refine s_nil trivial ?_
   exact n_round (4 - (i + 1)) (by omega) ⟨i + 1, by omega, rfl, rfl, rfl⟩ (wk hE [])
 · have hi8 : i = 4 := by omega
   subst hi8
   rw [wd_4]
   refine w_exit (x_thn (x_thn (x_eq (n_wp (qz hP hn ?_)))))
   refine s_op k_ld ?_
   refine s_st k_st ?_
   refine s_nil trivial (n_wp (w_ret ?_))
   exact d_ret hP hn hE [] (r_cell Tryz.results139)

theorem cmp_n (a b : Nat) (ha : a < 2 ^ 256) (hb : b < 2 ^ 256) : Con Tryz.prog 72 [.agg [.ints .u64 4 (zs (wd a))], .agg [.ints .u64 4 (zs (wd b))]] [] (.s (.int .i64 (cmpI a b))) [] := by
 refine con_in 31 Tryz.func72 rfl rfl (m := 0) rfl ?_
 intro E hP hn hE
 refine qz hP hn ?_
 refine s_op k_bx ?_
 refine s_op k_bx ?_
 refine s_op k_as ?_
 refine s_nil trivial (n_wp (w_seq ?_))
 refine g_any hP hn ?_
 refine s_op k_ld ?_
 refine s_op (k_call [] (con := apart_n _)) ?_
 refine s_op k_ld ?_
 refine s_op (k_call [] (con := apart_n _)) ?_
 refine o2 ?_
 refine s_st k_st ?_
 refine s_st k_st ?_
 refine s_nil (by kernel_rfl) ?_
 refine n_wp (w_seq (qz hP hn ?_))
 refine o2 ?_
 refine s_op (k_eql (by exact a_eqA (l := zs (hv a)) (m := zs (hv b)) rfl rfl (by rw [zs_len, hv_len]) (by rw [zs_len, hv_len]))) ?_
 refine s_nil trivial (n_wp ?_)
 refine w_if rfl (fun h_t14 => ?_) (fun h_t14 => ?_)
 · have hab : a = b := (hv_inj ha hb).1 (zs_inj.1 h_t14)
   rw [show cmpI a b = 0 from if_pos hab]
   refine qz hP hn ?_
   refine s_op k_as ?_
   refine s_nil trivial (n_wp (w_ret (r_thn ?_)))
   exact d_ret hP hn hE [] (by first | exact r_tmp Tryz.results72 | exact r_tmpa Tryz.results72)
 · have hne : a ≠ b := fun e => h_t14 (by rw [e])
   refine w_skip (n_wp (qz hP hn ?_))
   refine s_op k_as ?_
   refine s_nil trivial (n_wp (w_seq (w_block ?_)))
   refine c_loop (fun m T H => ∃ i, i ≤ 7 ∧ m = i + 1 ∧ a / 4294967296 ^ (i + 1) = b / 4294967296 ^ (i + 1) ∧ T = [(5, .s (.ptr 2 0 0)), (6, .s (.ptr 3 0 0)), (7, .s (.int .i64 ((i : Nat) : Int)))] ∧ H = [some ⟨true, [.ints .u64 4 (zs (wd a))]⟩, some ⟨true, [.ints .u64 4 (zs (wd b))]⟩, some ⟨true, [.ints .u64 8 (zs (hv a))]⟩, some ⟨true, [.ints .u64 8 (zs (hv b))]⟩]) (8) ⟨7, by omega, rfl, by rw [Nat.div_eq_of_lt ha, Nat.div_eq_of_lt hb], rfl, rfl⟩ (wk hE []) ?_
   rintro n_ T_ H_ ⟨i, hi, rfl, hup, rfl, rfl⟩
   refine w_seq (w_seq ?_)
   refine g_any hP hn ?_
   refine o4 ?_
   refine o3 ?_
   refine s_nil (by kernel_rfl) ?_
   refine n_wp ?_
   refine w_if rfl (fun h_t21 => ?_) (fun h_t21 => ?_)
   · have hst := cmp_ne ha hb hne hup (by rw [← hv_at a i (by omega), ← hv_at b i (by omega)]; exact h_t21)
     refine w_skip (n_wp (w_block (g_reg hP hn ?_)))
     refine o3 ?_
     refine s_nil trivial (n_blo ?_)
     exact n_round i (by omega) ⟨i - 1, by omega, by omega, hst.2, rfl, rfl⟩ (wk hE [])
   · rw [hv_at a i (by omega), hv_at b i (by omega)] at h_t21
     refine w_exit (x_thn (x_thn (x_eq (n_wp (w_seq (w_seq ?_))))))
     refine g_any hP hn ?_
     refine o4 ?_
     refine o3 ?_
     refine s_nil (by kernel_rfl) ?_
     refine n_wp ?_
     refine w_if rfl (fun h_t30 => ?_) (fun h_t30 => ?_)
     · rw [hv_at a i (by omega), hv_at b i (by omega)] at h_t30
       rw [show cmpI a b = -1 by unfold cmpI; rw [if_neg hne, if_pos (cmp_lt hup h_t30)]]
       refine qz hP hn ?_
       refine s_op k_as ?_
       refine s_nil trivial (n_wp (w_ret (r_thn ?_)))
       exact d_ret hP hn hE [] (by first | exact r_tmp Tryz.results72 | exact r_tmpa Tryz.results72)
     · rw [hv_at a i (by omega), hv_at b i (by omega)] at h_t30
       rw [show cmpI a b = 1 by unfold cmpI; rw [if_neg hne, if_neg (fun h => absurd (cmp_lt hup.symm (by omega)) (by omega))]]
       refine w_skip (n_wp (qz hP hn ?_))
       refine s_op k_as ?_
       refine s_nil trivial (n_wp (w_ret ?_))
       exact d_ret hP hn hE [] (by first | exact r_tmp Tryz.results72 | exact r_tmpa Tryz.results72)

theorem bits_n (v : Nat) (hv256 : v < 2 ^ 256) : Con Tryz.prog 44 [.agg [.ints .u64 4 (zs (wd v))]] [] (.s (.int .i64 ((bitsN v : Nat) : Int))) [] := by
 refine con_in 25 Tryz.func44 rfl rfl (m := 0) rfl ?_
 intro E hP hn hE
 refine qz hP hn ?_
 refine s_op k_bx ?_
 refine s_op k_as ?_
 refine s_nil trivial (n_wp (w_seq (qz hP hn ?_)))
 refine s_op k_ld ?_
 refine s_op (k_call [] (con := apart_n _)) ?_
 refine s_op k_mv ?_
 refine s_nil trivial (n_wp (w_block ?_))
 refine c_loop (fun m T H => ∃ i, i ≤ 8 ∧ m = 8 - i ∧ T = [(2, .s (.int .i64 ((bitsN (v % 4294967296 ^ i) : Nat) : Int))), (7, .agg [.ints .u64 8 (zs (hv v))]), (8, .s (.int .i64 ((i : Nat) : Int)))] ∧ H = []) (8) ⟨0, by omega, rfl, rfl, rfl⟩ (by rw [show bitsN (v % 4294967296 ^ 0) = 0 by rw [Nat.pow_zero, Nat.mod_one]; exact bitsN_0]; exact wk hE []) ?_
 rintro n_ T_ H_ ⟨i, hi, rfl, rfl, rfl⟩
 refine qz hP hn ?_
 refine s_op k_lss ?_
 refine s_nil trivial (n_wp (w_seq ?_))
 refine w_if rfl (fun h_t9 => ?_) (fun h_t9 => ?_)
 · refine w_skip (n_wp (w_seq (w_block (qz hP hn ?_))))
   refine s_op k_mv ?_
   refine s_op k_id ?_
   refine o2 ?_
   refine qx hP hn ?_
   refine s_op k_as ?_
   refine s_nil trivial (n_wp (w_block ?_))
   refine c_loop (fun m T H => ∃ k nn, m = 33 - k ∧ BitI v i k nn ∧ T = [(2, .s (.int .i64 ((nn : Nat) : Int))), (3, .s (.int .i64 ((i : Nat) : Int))), (4, .s (.int .u64 (((hv v).getD i 0 : Nat) : Int))), (5, .s (.int .i64 ((k : Nat) : Int))), (7, .agg [.ints .u64 8 (zs (hv v))]), (8, .s (.int .i64 ((i : Nat) : Int)))] ∧ H = []) (33) ⟨0, bitsN (v % 4294967296 ^ i), rfl, ⟨by omega, .inl ⟨rfl, rfl⟩⟩, rfl, rfl⟩ (by rw [← zs_getD]; exact wk hE []) ?_
   rintro n_ T_ H_ ⟨k, nn, rfl, hb, rfl, rfl⟩
   have hle := hb.le
   have hhl := hvl v i (by omega)
   refine w_seq (qz hP hn ?_)
   refine o4 ?_
   refine s_nil trivial (n_wp ?_)
   refine w_if rfl (fun h_t15 => ?_) (fun h_t15 => ?_)
   · have hnx := hb.next (by rw [← hv_at v i (by omega)]; exact h_t15)
     refine w_skip (n_wp (w_seq (w_block (g_reg hP hn ?_))))
     refine o4 ?_
     refine o2 ?_
     refine s_nil trivial (n_blo (n_wp (g_reg hP hn ?_)))
     refine o3 ?_
     refine s_nil trivial ?_
     exact n_round (33 - (k + 1)) (by omega) ⟨k + 1, _, rfl, hnx.2, rfl, rfl⟩ (wk hE [])
   · have hdn := hb.done (by rw [← hv_at v i (by omega)]; exact h_t15)
     subst hdn
     refine w_exit (x_thn (x_thn (x_eq (n_blo (n_wp (g_reg hP hn ?_))))))
     refine o2 ?_
     refine s_nil trivial ?_
     exact n_round (8 - (i + 1)) (by omega) ⟨i + 1, by omega, rfl, rfl, rfl⟩ (wk hE [])
 · have hi8 : i = 8 := by omega
   subst hi8
   rw [show (4294967296 : Nat) ^ 8 = 2 ^ 256 from rfl, Nat.mod_eq_of_lt hv256]
   refine w_exit (x_thn (x_thn (x_eq (n_wp (qz hP hn ?_)))))
   refine o2 ?_
   refine s_nil trivial (n_wp (w_ret ?_))
   exact d_ret hP hn hE [] (by first | exact r_tmp Tryz.results44 | exact r_tmpa Tryz.results44)

theorem bit_n (n i : Nat) (hi : i < 256) : Con Tryz.prog 128 [.agg [.ints .u64 4 (zs (wd n))], .s (.int .i64 ((i : Nat) : Int))] [] (.s (.int .u64 ((n / 2 ^ i % 2 : Nat) : Int))) [] := by
 refine con_in 17 Tryz.func128 rfl rfl (m := 0) rfl ?_
 intro E hP hn hE
 refine qz hP hn ?_
 refine s_op k_bx ?_
 refine s_op k_as ?_
 refine s_nil trivial (n_wp (w_seq (qz hP hn ?_)))
 refine o3 ?_
 refine s_nil trivial (n_wp ?_)
 refine w_F rfl ?_ 
 refine w_skip (n_wp (w_seq ?_))
 have hhl := hvl n (i / 32) (by omega)
 have hh2 : (hv n).getD (i / 32) 0 / 2 ^ (i % 32) < 18446744073709551616 := Nat.lt_of_le_of_lt (Nat.div_le_self _ _) (by omega)
 refine g_reg hP hn ?_
 refine s_op k_ld ?_
 refine s_op (k_call [] (con := apart_n _)) ?_
 refine o2 ?_
 refine s_op k_id ?_
 refine o3 ?_
 refine o2 ?_
 refine s_nil trivial (n_wp ?_)
 rw [hv_at n (i / 32) (by omega), bit_at]
 refine w_ret ?_
 exact d_ret hP hn hE [] (by first | exact r_tmp Tryz.results128 | exact r_tmpa Tryz.results128)

theorem add_n (a b : Nat) (ha : a < 2 ^ 256) (hb : b < 2 ^ 256) : Con Tryz.prog 154 [.agg [.ints .u64 4 (zs (wd a))], .agg [.ints .u64 4 (zs (wd b))]] [] (.tup [.agg [.ints .u64 4 (zs (wd (a + b)))], .s (.int .u64 (((a + b) / 2 ^ 256 : Nat) : Int))]) [] := by
 refine con_in 36 Tryz.func154 rfl rfl (m := 0) rfl ?_
 intro E hP hn hE
 refine qz hP hn ?_
 refine s_op k_bx ?_
 refine s_op k_bx ?_
 refine o2 ?_
 refine s_nil trivial (n_wp (w_seq ?_))
 refine g_any hP hn ?_
 refine s_op k_ld ?_
 refine s_op (k_call [] (con := apart_n _)) ?_
 refine s_op k_ld ?_
 refine s_op (k_call [] (con := apart_n _)) ?_
 refine o2 ?_
 refine s_st k_st ?_
 refine s_st k_st ?_
 refine s_op k_as ?_
 refine s_nil (by kernel_rfl) ?_
 refine n_wp (w_seq (w_seq ?_))
 rw [hv_pf (dg 4294967296 (a + b + 0)) a]
 refine g_reg hP hn ?_
 refine s_op k_mv ?_
 refine s_nil trivial (n_wp (w_block ?_))
 refine c_loop (fun m T H => ∃ i, i ≤ 8 ∧ m = 8 - i ∧ T = [(4, .s (.ptr 2 0 0)), (6, .s (.ptr 3 0 0)), (7, .s (.ptr 4 0 0)), (8, .s (.int .u64 ((cy 4294967296 a b 0 i : Nat) : Int))), (14, .s (.int .i64 ((i : Nat) : Int)))] ∧ H = [some ⟨true, [.ints .u64 4 (zs (wd a))]⟩, some ⟨true, [.ints .u64 4 (zs (wd b))]⟩, some ⟨true, [.ints .u64 4 (zs (List.replicate 4 0))]⟩, some ⟨true, [.ints .u64 8 (zs (pf2 (dg 4294967296 (a + b + 0)) (dg 4294967296 a) 8 i))]⟩, some ⟨true, [.ints .u64 8 (zs (hv b))]⟩]) (8) ⟨0, by omega, rfl, rfl, rfl⟩ (by rw [cy_0]; exact wk hE []) ?_
 rintro n_ T_ H_ ⟨i, hi, rfl, rfl, rfl⟩
 have hlen := pf2_len (dg 4294967296 (a + b + 0)) (dg 4294967296 a) 8 i
 have hcy := cy_lt 4294967296 a b 0 i (by omega) (by omega)
 refine qz hP hn ?_
 refine s_op k_lss ?_
 refine s_nil trivial (n_wp (w_seq ?_))
 refine w_if rfl (fun h_t15 => ?_) (fun h_t15 => ?_)
 · have hxa := pf2_at (dg 4294967296 (a + b + 0)) (dg 4294967296 a) 8 i h_t15
   have hxl := dg_lt 4294967296 a i (by omega)
   have hyl := hvl b i h_t15
   have hdig := add_dig a b 0 i h_t15 _ _ hxa (hv_at b i h_t15)
   have hcar := add_car a b 0 i _ _ hxa (hv_at b i h_t15)
   refine w_skip (n_wp (w_seq (w_block (qz hP hn ?_))))
   refine o2 ?_
   refine s_nil trivial (n_wp (w_seq ?_))
   refine g_any hP hn ?_
   refine o4 ?_
   refine o4 ?_
   refine o2 ?_
   refine s_nil (by kernel_rfl) ?_
   refine n_wp (g_reg hP hn ?_)
   refine o4 ?_
   refine o2 ?_
   refine s_st k_st ?_
   refine s_op k_as ?_
   refine s_nil trivial (n_blo (n_wp ?_))
   rw [pf2_set _ _ _ _ _ h_t15 hdig, hcar]
   refine g_reg hP hn ?_
   refine o2 ?_
   refine s_nil trivial ?_
   exact n_round (8 - (i + 1)) (by omega) ⟨i + 1, by omega, rfl, rfl, rfl⟩ (wk hE [])
 · have hi8 : i = 8 := by omega
   subst hi8
   rw [hv_8, cy_8 a b 0 ha hb, Nat.add_zero]
   refine w_exit (x_thn (x_thn (x_eq (n_wp (qz hP hn ?_)))))
   refine s_op k_ld ?_
   refine s_op (k_call [] (con := whole_n _)) ?_
   refine s_op k_mv ?_
   refine s_st k_st ?_
   refine s_op k_as ?_
   refine s_nil trivial (n_wp (w_ret ?_))
   exact d_ret hP hn hE [] (ret2 Tryz.results154 r_cella (by first | exact ri_tmp rfl | exact ri_tmpa rfl))

theorem sub_n (a b : Nat) (ha : a < 2 ^ 256) (hb : b < 2 ^ 256) : Con Tryz.prog 123 [.agg [.ints .u64 4 (zs (wd a))], .agg [.ints .u64 4 (zs (wd b))]] [] (.tup [.agg [.ints .u64 4 (zs (wd (subN a b)))], .s (.int .u64 ((undN a b : Nat) : Int))]) [] := by
 refine con_in 38 Tryz.func123 rfl rfl (m := 0) rfl ?_
 intro E hP hn hE
 refine qz hP hn ?_
 refine s_op k_bx ?_
 refine s_op k_bx ?_
 refine o2 ?_
 refine s_nil trivial (n_wp (w_seq ?_))
 refine g_any hP hn ?_
 refine s_op k_ld ?_
 refine s_op (k_call [] (con := apart_n _)) ?_
 refine s_op k_ld ?_
 refine s_op (k_call [] (con := apart_n _)) ?_
 refine o2 ?_
 refine s_st k_st ?_
 refine s_st k_st ?_
 refine s_op k_as ?_
 refine s_nil (by kernel_rfl) ?_
 refine n_wp (w_seq (w_seq ?_))
 rw [hv_pf (dg 4294967296 (a + (2 ^ 256 - 1 - b) + 1)) a]
 refine g_reg hP hn ?_
 refine s_op k_mv ?_
 refine s_nil trivial (n_wp (w_block ?_))
 refine c_loop (fun m T H => ∃ i, i ≤ 8 ∧ m = 8 - i ∧ T = [(4, .s (.ptr 2 0 0)), (6, .s (.ptr 3 0 0)), (7, .s (.ptr 4 0 0)), (8, .s (.int .u64 ((cy 4294967296 a (2 ^ 256 - 1 - b) 1 i : Nat) : Int))), (14, .s (.int .i64 ((i : Nat) : Int)))] ∧ H = [some ⟨true, [.ints .u64 4 (zs (wd a))]⟩, some ⟨true, [.ints .u64 4 (zs (wd b))]⟩, some ⟨true, [.ints .u64 4 (zs (List.replicate 4 0))]⟩, some ⟨true, [.ints .u64 8 (zs (pf2 (dg 4294967296 (a + (2 ^ 256 - 1 - b) + 1)) (dg 4294967296 a) 8 i))]⟩, some ⟨true, [.ints .u64 8 (zs (hv b))]⟩]) (8) ⟨0, by omega, rfl, rfl, rfl⟩ (by rw [cy_0]; exact wk hE []) ?_
 rintro n_ T_ H_ ⟨i, hi, rfl, rfl, rfl⟩
 have hlen := pf2_len (dg 4294967296 (a + (2 ^ 256 - 1 - b) + 1)) (dg 4294967296 a) 8 i
 have hcy := cy_lt 4294967296 a (2 ^ 256 - 1 - b) 1 i (by omega) (by omega)
 refine qz hP hn ?_
 refine s_op k_lss ?_
 refine s_nil trivial (n_wp (w_seq ?_))
 refine w_if rfl (fun h_t15 => ?_) (fun h_t15 => ?_)
 · have hxa := pf2_at (dg 4294967296 (a + (2 ^ 256 - 1 - b) + 1)) (dg 4294967296 a) 8 i h_t15
   have hxl := dg_lt 4294967296 a i (by omega)
   have hyl := hvl b i h_t15
   have hyn : 4294967295 - (hv b).getD i 0 = dg 4294967296 (2 ^ 256 - 1 - b) i := by rw [hv_at b i h_t15]; exact not_dg b i hb h_t15
   have hdig := add_dig a (2 ^ 256 - 1 - b) 1 i h_t15 _ _ hxa hyn
   have hcar := add_car a (2 ^ 256 - 1 - b) 1 i _ _ hxa hyn
   refine w_skip (n_wp (w_seq (w_block (qz hP hn ?_))))
   refine o2 ?_
   refine s_nil trivial (n_wp (w_seq ?_))
   refine g_any hP hn ?_
   refine o4 ?_
   refine o4 ?_
   refine o3 ?_
   refine s_nil (by kernel_rfl) ?_
   refine n_wp (g_reg hP hn ?_)
   refine o4 ?_
   refine o2 ?_
   refine s_st k_st ?_
   refine s_op k_as ?_
   refine s_nil trivial (n_blo (n_wp ?_))
   rw [pf2_set _ _ _ _ _ h_t15 hdig, hcar]
   refine g_reg hP hn ?_
   refine o2 ?_
   refine s_nil trivial ?_
   exact n_round (8 - (i + 1)) (by omega) ⟨i + 1, by omega, rfl, rfl, rfl⟩ (wk hE [])
 · have hi8 : i = 8 := by omega
   subst hi8
   have hund := sub_und a b ha hb
   rw [hv_8, cy_8 a (2 ^ 256 - 1 - b) 1 ha (by omega)]
   refine w_exit (x_thn (x_thn (x_eq (n_wp (qz hP hn ?_)))))
   refine s_op k_ld ?_
   refine s_op (k_call [] (con := whole_n _)) ?_
   refine o2 ?_
   refine s_st k_st ?_
   refine s_op k_as ?_
   refine s_nil trivial (n_wp ?_)
   rw [hund.2, sub_wd a b hb]
   refine w_ret ?_
   exact d_ret hP hn hE [] (ret2 Tryz.results123 r_cella (by first | exact ri_tmp rfl | exact ri_tmpa rfl))

theorem mul1_n (v n at_ : Nat) (hat : at_ ≤ 14) (hnn : n ≤ 18446744065119617025) (hfit : (v + n * 4294967296 ^ at_) < 4294967296 ^ 16) : Con Tryz.prog 166 [.s (.int .i64 ((at_ : Nat) : Int)), .s (.int .u64 ((n : Nat) : Int)), .s (.ptr 0 0 0)] [some ⟨true, [.ints .u64 16 (zs (hw v))]⟩] (.tup []) [some ⟨true, [.ints .u64 16 (zs (hw (v + n * 4294967296 ^ at_)))]⟩] := by
 refine con_in 29 Tryz.func166 rfl rfl (m := 1) rfl ?_
 intro E hP hn hE
 refine qz hP hn ?_
 refine o2 ?_
 refine s_nil trivial (n_wp (w_block ?_))
 refine c_loop (fun m T H => ∃ p, at_ ≤ p ∧ p ≤ 16 ∧ m = 16 - p ∧ my 4294967296 v n at_ p ≤ 18446744065119617025 ∧ T = [(0, .s (.int .i64 ((p : Nat) : Int))), (2, .s (.ptr 0 0 0)), (5, .s (.int .u64 ((my 4294967296 v n at_ p : Nat) : Int)))] ∧ H = [some ⟨true, [.ints .u64 16 (zs (pf2 (dg 4294967296 (v + n * 4294967296 ^ at_)) (dg 4294967296 v) 16 p))]⟩]) ((16 - at_)) ⟨at_, by omega, by omega, rfl, by rw [my_at _ _ _ _ (by omega)]; exact hnn, rfl, rfl⟩ (by rw [← mul_start, my_at _ _ _ _ (by omega)]; exact wk hE []) ?_
 rintro n_ T_ H_ ⟨p, hp, hp16, rfl, hov, rfl, rfl⟩
 have hlen := pf2_len (dg 4294967296 (v + n * 4294967296 ^ at_)) (dg 4294967296 v) 16 p
 refine w_seq (qz hP hn ?_)
 refine o2 ?_
 refine s_nil trivial (n_wp ?_)
 refine w_if rfl (fun h_t9 => ?_) (fun h_t9 => ?_)
 · have hlt : p < 16 := by
     rcases Nat.lt_or_ge p 16 with h | h
     · exact h
     · rw [show p = 16 by omega, my_top v n at_ hfit] at h_t9; exact absurd h_t9 (by omega)
   have hxa := pf2_at (dg 4294967296 (v + n * 4294967296 ^ at_)) (dg 4294967296 v) 16 p hlt
   have hxl := dg_lt 4294967296 v p (by omega)
   have hdig := mul_dig v n at_ p _ hxa
   have hcar := mul_car v n at_ p _ hxa
   refine w_skip (n_wp (w_seq (w_block (qz hP hn ?_))))
   refine o4 ?_
   refine o3 ?_
   refine s_nil trivial (n_wp (w_seq ?_))
   rw [Nat.div_add_mod' p 8]
   refine g_reg hP hn ?_
   refine o4 ?_
   refine o2 ?_
   refine qy hP hn ?_
   refine o4 ?_
   refine o2 ?_
   refine s_st k_st ?_
   refine s_op k_as ?_
   refine s_nil trivial (n_blo (n_wp ?_))
   rw [pf2_set _ _ _ _ _ hlt hdig, hcar]
   refine g_reg hP hn ?_
   refine o3 ?_
   refine s_nil trivial ?_
   exact n_round (16 - (p + 1)) (by omega) ⟨p + 1, by omega, by omega, rfl, by rw [← hcar]; omega, rfl, rfl⟩ (wk hE [])
 · rw [mul_end v n at_ p (by omega)]
   refine w_exit (x_thn (x_thn (x_eq ?_)))
   exact d_ret hP hn hE [] (ret_none Tryz.results166)

theorem mul_n (a b : Nat) (ha : a < 2 ^ 256) (hb : b < 2 ^ 256) : Con Tryz.prog 157 [.agg [.ints .u64 4 (zs (wd a))], .agg [.ints .u64 4 (zs (wd b))]] [] (.tup [.agg [.ints .u64 4 (zs (wd (a * b)))], .agg [.ints .u64 4 (zs (wd (a * b / 2 ^ 256)))]]) [] := by
 refine con_in 43 Tryz.func157 rfl rfl (m := 0) rfl ?_
 intro E hP hn hE
 refine qz hP hn ?_
 refine s_op k_bx ?_
 refine s_op k_bx ?_
 refine o2 ?_
 refine s_nil trivial (n_wp (w_seq ?_))
 refine g_any hP hn ?_
 refine s_op k_ld ?_
 refine s_op (k_call [] (con := apart_n _)) ?_
 refine s_op k_ld ?_
 refine s_op (k_call [] (con := apart_n _)) ?_
 refine o2 ?_
 refine s_st k_st ?_
 refine s_st k_st ?_
 refine s_nil (by kernel_rfl) ?_
 refine n_wp (qz hP hn ?_)
 refine s_op k_al ?_
 refine qx hP hn ?_
 refine s_op (k_fn [.ptr 6 0 0]) ?_
 refine s_op k_as ?_
 refine s_nil trivial (n_wp (w_seq (qz hP hn ?_)))
 refine s_op k_mv ?_
 refine s_nil trivial (n_wp (w_block ?_))
 refine c_loop (fun m T H => ∃ i, i ≤ 8 ∧ m = 8 - i ∧ T = [(4, .s (.ptr 2 0 0)), (5, .s (.ptr 3 0 0)), (6, .s (.ptr 4 0 0)), (7, .s (.ptr 5 0 0)), (8, .s (.ptr 6 0 0)), (9, .s (.clo 166 1 (capF [.ptr 6 0 0]))), (17, .s (.int .i64 ((i : Nat) : Int)))] ∧ H = [some ⟨true, [.ints .u64 4 (zs (wd a))]⟩, some ⟨true, [.ints .u64 4 (zs (wd b))]⟩, some ⟨true, [.ints .u64 4 (zs (List.replicate 4 0))]⟩, some ⟨true, [.ints .u64 4 (zs (List.replicate 4 0))]⟩, some ⟨true, [.ints .u64 8 (zs (hv a))]⟩, some ⟨true, [.ints .u64 8 (zs (hv b))]⟩, some ⟨true, [.ints .u64 16 (zs (hw (mulV a b i 0)))]⟩]) (8) ⟨0, by omega, rfl, rfl, rfl⟩ (by rw [mulV_0, hw_zero]; exact wk hE []) ?_
 rintro n_ T_ H_ ⟨i, hi, rfl, rfl, rfl⟩
 refine qz hP hn ?_
 refine s_op k_lss ?_
 refine s_nil trivial (n_wp (w_seq ?_))
 refine w_if rfl (fun h_t18 => ?_) (fun h_t18 => ?_)
 · refine w_skip (n_wp (w_seq (w_block (qz hP hn ?_))))
   refine o2 ?_
   refine qx hP hn ?_
   refine s_op k_mv ?_
   refine s_nil trivial (n_wp (w_block ?_))
   refine c_loop (fun m T H => ∃ k, k ≤ 8 ∧ m = 8 - k ∧ T = [(4, .s (.ptr 2 0 0)), (5, .s (.ptr 3 0 0)), (6, .s (.ptr 4 0 0)), (7, .s (.ptr 5 0 0)), (8, .s (.ptr 6 0 0)), (9, .s (.clo 166 1 (capF [.ptr 6 0 0]))), (10, .s (.int .i64 ((i : Nat) : Int))), (17, .s (.int .i64 ((i : Nat) : Int))), (20, .s (.int .i64 ((k : Nat) : Int)))] ∧ H = [some ⟨true, [.ints .u64 4 (zs (wd a))]⟩, some ⟨true, [.ints .u64 4 (zs (wd b))]⟩, some ⟨true, [.ints .u64 4 (zs (List.replicate 4 0))]⟩, some ⟨true, [.ints .u64 4 (zs (List.replicate 4 0))]⟩, some ⟨true, [.ints .u64 8 (zs (hv a))]⟩, some ⟨true, [.ints .u64 8 (zs (hv b))]⟩, some ⟨true, [.ints .u64 16 (zs (hw (mulV a b i k)))]⟩]) (8) ⟨0, by omega, rfl, rfl, rfl⟩ (wk hE []) ?_
   rintro n_ T_ H_ ⟨k, hk, rfl, rfl, rfl⟩
   refine qz hP hn ?_
   refine s_op k_lss ?_
   refine s_nil trivial (n_wp (w_seq ?_))
   refine w_if rfl (fun h_t21 => ?_) (fun h_t21 => ?_)
   · have hla := hvl a i h_t18
     have hlb := hvl b k h_t21
     have hmm := half_mul hla hlb
     refine w_skip (n_wp (w_seq (w_block (qz hP hn ?_))))
     refine o2 ?_
     refine s_nil trivial (n_wp ?_)
     refine g_any hP hn ?_
     refine o4 ?_
     refine o4 ?_
     refine o3 ?_
     refine s_op (k_callc [6] rfl (con := mul1_n (mulV a b i k) ((hv a).getD i 0 * (hv b).getD k 0) (i + k) (by omega) (half_mul (hvl a i h_t18) (hvl b k h_t21)) (by rw [hv_at a i h_t18, hv_at b k h_t21]; exact mul_step ha hb)) (H' := [some ⟨true, [.ints .u64 4 (zs (wd a))]⟩, some ⟨true, [.ints .u64 4 (zs (wd b))]⟩, some ⟨true, [.ints .u64 4 (zs (List.replicate 4 0))]⟩, some ⟨true, [.ints .u64 4 (zs (List.replicate 4 0))]⟩, some ⟨true, [.ints .u64 8 (zs (hv a))]⟩, some ⟨true, [.ints .u64 8 (zs (hv b))]⟩, some ⟨true, [.ints .u64 16 (zs (hw (mulV a b i k + (hv a).getD i 0 * (hv b).getD k 0 * 4294967296 ^ (i + k))))]⟩]) (hH := rfl)) ?_
     refine s_nil (by kernel_rfl) ?_
     refine n_blo (n_wp ?_)
     rw [hv_at a i h_t18, hv_at b k h_t21, mulV_k]
     refine g_reg hP hn ?_
     refine o2 ?_
     refine s_nil trivial ?_
     exact n_round (8 - (k + 1)) (by omega) ⟨k + 1, by omega, rfl, rfl, rfl⟩ (wk hE [])
   · have hk8 : k = 8 := by omega
     subst hk8
     rw [mulV_i a b i hb]
     refine w_exit (x_thn (x_thn (x_eq (n_blo (n_wp (g_reg hP hn ?_))))))
     refine o2 ?_
     refine s_nil trivial ?_
     exact n_round (8 - (i + 1)) (by omega) ⟨i + 1, by omega, rfl, rfl, rfl⟩ (wk hE [])
 · have hi8 : i = 8 := by omega
   subst hi8
   rw [mulV_8 a b ha]
   refine w_exit (x_thn (x_thn (x_eq (n_wp (w_seq ?_)))))
   refine g_any hP hn ?_
   refine s_op k_ix ?_
   refine s_op (k_lde (zs (hv (a * b))) (h := zs_hw_lo (a * b))) ?_
   refine s_op (k_call [] (con := whole_n _)) ?_
   refine s_op k_ix ?_
   refine s_op (k_lde (zs (hv (a * b / 2 ^ 256))) (h := zs_hw_hi (a * b))) ?_
   refine s_op (k_call [] (con := whole_n _)) ?_
   refine s_st k_st ?_
   refine s_st k_st ?_
   refine s_nil (by kernel_rfl) ?_
   refine n_wp (w_ret ?_)
   exact d_ret hP hn hE [] (ret2 Tryz.results157 r_cella r_cella)

end Go.Proofs.X
end

section
set_option maxRecDepth 100000
set_option maxHeartbeats 4000000
open Go Go.Bx Go.Proofs
namespace Go.Proofs.X
attribute [local irreducible] wd hv hw dg shD shp shN
theorem shift_m256 (n : Nat) : Con Tryz.prog 169 [.agg [.ints .u64 4 (zs (wd n))], .s (.int .i64 (-256))] [] (.agg [.ints .u64 4 (zs (wd 0))]) [] := by
 refine con_in 76 Tryz.func169 rfl rfl (m := 0) rfl ?_
 intro E hP hn hE
 refine qz hP hn ?_
 refine s_op k_bx ?_
 refine s_op k_al ?_
 refine qx hP hn ?_
 refine o2 ?_
 refine s_nil trivial (n_wp (w_seq (qz hP hn ?_)))
 refine s_op k_ld ?_
 refine s_op (k_call [] (con := apart_n _)) ?_
 refine s_st k_st ?_
 refine qx hP hn ?_
 refine s_op k_mv ?_
 refine s_op (k_leq (by exact l_bin rfl rfl (b_leq (r := true) rfl))) ?_
 refine s_op k_mv ?_
 refine s_off rfl rfl rfl ?_
 refine s_off rfl rfl rfl ?_
 refine s_op k_pk ?_
 refine s_nil trivial (n_wp ?_)
 refine w_T rfl ?_ 
 refine w_seq ?_
 rw [← hv_over 0]
 refine g_reg hP hn ?_
 refine s_op k_ld ?_
 refine s_op (k_call [] (con := whole_n 0)) ?_
 refine s_st k_st ?_
 refine s_nil trivial (n_wp (w_ret (r_thn ?_)))
 exact d_ret hP hn hE [] (r_cell Tryz.results169)

theorem shift_n (n : Nat) (s : Int) (hn256 : n < 2 ^ 256) (h1 : -256 < s) (h2 : s < 256) : Con Tryz.prog 169 [.agg [.ints .u64 4 (zs (wd n))], .s (.int .i64 s)] [] (.agg [.ints .u64 4 (zs (wd (shN n s)))]) [] := by
 refine con_in 76 Tryz.func169 rfl rfl (m := 0) rfl ?_
 intro E hP hn hE
 obtain ⟨f, hf⟩ : ∃ f : Nat, s + 256 = (f : Int) := ⟨(s + 256).toNat, by omega⟩
 refine qz hP hn ?_
 refine s_op k_bx ?_
 refine s_op k_al ?_
 refine qx hP hn ?_
 refine o2 ?_
 refine s_nil trivial (n_wp (w_seq (qz hP hn ?_)))
 refine s_op k_ld ?_
 refine s_op (k_call [] (con := apart_n _)) ?_
 refine s_st k_st ?_
 refine qx hP hn ?_
 refine s_op k_mv ?_
 refine s_op (k_leq (by exact l_bin rfl rfl (b_leq (r := false) (decide_eq_false (by omega))))) ?_
 refine s_op k_mv ?_
 refine s_on rfl rfl rfl k_mv ?_
 refine s_on rfl rfl rfl (k_geq (by exact l_bin rfl rfl (b_geq (r := false) (decide_eq_false (by omega))))) ?_
 refine s_op k_pk ?_
 refine s_nil trivial (n_wp ?_)
 refine w_F rfl ?_ 
 refine w_skip (n_wp (qz hP hn ?_))
 refine s_op k_mv ?_
 refine s_op (k_add (by exact l_bin rfl rfl (b_add (r := ((f : Nat) : Int)) (by rw [hf]; exact wrap_i64 (by omega))))) ?_
 refine s_op k_as ?_
 refine s_nil trivial (n_wp (w_seq (qz hP hn ?_)))
 refine o2 ?_
 refine s_nil trivial (n_wp (w_block ?_))
 refine c_loop (fun m T H => ∃ i, i ≤ 8 ∧ m = 8 - i ∧ T = [(4, .s (.ptr 1 0 0)), (6, .s (.ptr 3 0 0)), (7, .s (.int .i64 ((f : Nat) : Int))), (27, .agg [.ints .u64 8 (zs (hv n))]), (28, .s (.int .i64 ((i : Nat) : Int)))] ∧ H = [some ⟨true, [.ints .u64 4 (zs (wd n))]⟩, some ⟨true, [.ints .u64 4 (zs (List.replicate 4 0))]⟩, some ⟨true, [.ints .u64 8 (zs (hv n))]⟩, some ⟨true, [.ints .u64 8 (zs (win (shD n f i 0)))]⟩]) (8) ⟨0, by omega, rfl, rfl, rfl⟩ (by rw [← win_zero]; exact wk hE []) ?_
 rintro n_ T_ H_ ⟨i, hi, rfl, rfl, rfl⟩
 refine qz hP hn ?_
 refine s_op k_lss ?_
 refine s_nil trivial (n_wp (w_seq ?_))
 refine w_if rfl (fun h_t29 => ?_) (fun h_t29 => ?_)
 · refine w_skip (n_wp (w_seq (w_block (qz hP hn ?_))))
   refine s_op k_mv ?_
   refine s_op k_id ?_
   refine o2 ?_
   refine qx hP hn ?_
   refine o3 ?_
   refine o2 ?_
   refine qx hP hn ?_
   refine o2 ?_
   refine s_op (k_sub (by exact l_bin rfl rfl (b_sub (wrap_i64 (by omega))))) ?_
   refine o4 ?_
   refine s_nil trivial (n_wp (w_seq ?_))
   rw [(sh_to f i).1, (sh_to f i).2]
   have hhl := hvl n i h_t29
   have hm64 : (hv n).getD i 0 * 2 ^ (f % 32) % 18446744073709551616 < 18446744073709551616 := Nat.mod_lt _ (by omega)
   refine g_any hP hn ?_
   refine o4 ?_
   refine o4 ?_
   refine s_op k_bd ?_
   refine s_op k_mv ?_
   refine s_nil (by kernel_rfl) ?_
   refine n_wp (w_block ?_)
   refine c_loop (fun m T H => ∃ k, k ≤ 2 ∧ m = 2 - k ∧ T = [(4, .s (.ptr 1 0 0)), (6, .s (.ptr 3 0 0)), (7, .s (.int .i64 ((f : Nat) : Int))), (27, .agg [.ints .u64 8 (zs (hv n))]), (11, .s (.int .i64 (((i + f / 32 : Nat) : Int) - 8))), (28, .s (.int .i64 ((i : Nat) : Int))), (49, .agg [.ints .u64 2 (zs [shp n f i 0, shp n f i 1])]), (50, .s (.int .i64 ((k : Nat) : Int)))] ∧ H = [some ⟨true, [.ints .u64 4 (zs (wd n))]⟩, some ⟨true, [.ints .u64 4 (zs (List.replicate 4 0))]⟩, some ⟨true, [.ints .u64 8 (zs (hv n))]⟩, some ⟨true, [.ints .u64 8 (zs (win (shD n f i k)))]⟩]) (2) ⟨0, by omega, rfl, rfl, rfl⟩ (by rw [shp_0 n f i _ (hv_at n i h_t29), shp_1 n f i _ (hv_at n i h_t29)]; exact wk hE []) ?_
   rintro n_ T_ H_ ⟨k, hk, rfl, rfl, rfl⟩
   refine qz hP hn ?_
   refine s_op k_lss ?_
   refine s_nil trivial (n_wp (w_seq ?_))
   refine w_if rfl (fun h_t51 => ?_) (fun h_t51 => ?_)
   · refine w_skip (n_wp (w_seq (w_block (qz hP hn ?_))))
     refine s_op k_mv ?_
     refine s_op k_id ?_
     refine o2 ?_
     refine qx hP hn ?_
     refine o2 ?_
     refine s_op (k_add (by exact l_bin rfl rfl (b_add (wrap_i64 (by omega))))) ?_
     refine s_op (k_geq (by exact l_bin rfl rfl (b_geq rfl))) ?_
     refine s_op k_mv ?_
     refine s_opt rfl rfl (fun hB => by rw [hB]; (try simp only [Bool.or_eq_true, Bool.or_eq_false_iff, Bool.and_eq_true, Bool.not_eq_true', Bool.not_eq_false', decide_eq_true_eq, decide_eq_false_iff_not] at hB); exact k_mv) ?_
     refine s_opt rfl rfl (fun hB => by rw [hB]; (try simp only [Bool.or_eq_true, Bool.or_eq_false_iff, Bool.and_eq_true, Bool.not_eq_true', Bool.not_eq_false', decide_eq_true_eq, decide_eq_false_iff_not] at hB); exact k_mv) ?_
     refine s_opt rfl rfl (fun hB => by rw [hB]; (try simp only [Bool.or_eq_true, Bool.or_eq_false_iff, Bool.and_eq_true, Bool.not_eq_true', Bool.not_eq_false', decide_eq_true_eq, decide_eq_false_iff_not] at hB); exact k_add (by exact l_bin rfl rfl (b_add (wrap_i64 (by omega))))) ?_
     refine s_opt rfl rfl (fun hB => by rw [hB]; (try simp only [Bool.or_eq_true, Bool.or_eq_false_iff, Bool.and_eq_true, Bool.not_eq_true', Bool.not_eq_false', decide_eq_true_eq, decide_eq_false_iff_not] at hB); exact k_lss (by exact l_bin rfl rfl (b_lss rfl))) ?_
     refine s_op k_pk ?_
     refine s_nil trivial (n_wp ?_)
     refine w_cond rfl (fun h_t63 => ?_) (fun h_t63 => ?_)
     · simp only [Bool.and_eq_true, decide_eq_true_eq] at h_t63
       have hwl := win_l (shD n f i k) (i + f / 32 + k - 8) (by omega)
       have hsl := shp_lt n f i k
       have hsk := shp_k n f i k h_t51
       have hwn := win_len (shD n f i k)
       refine g_reg hP hn ?_
       refine o2 ?_
       refine s_op (k_add (by exact l_bin rfl rfl (b_add (r := ((i + f / 32 + k - 8 : Nat) : Int)) (by rw [wrap_i64 (by omega)]; omega)))) ?_
       refine o3 ?_
       refine o2 ?_
       refine s_st k_st ?_
       refine s_nil trivial (n_blo (n_wp ?_))
       try rw [shp_k n f i k h_t51, sh_in n f i k h_t51 (by omega) (by omega)]
       refine g_reg hP hn ?_
       refine o2 ?_
       refine s_nil trivial ?_
       exact n_round (2 - (k + 1)) (by omega) ⟨k + 1, by omega, rfl, rfl, rfl⟩ (wk hE [])
     · simp only [Bool.and_eq_false_imp, decide_eq_true_eq, decide_eq_false_iff_not] at h_t63
       rw [sh_out n f i k h_t51 (by omega)]
       refine w_skip (n_blo (n_wp ?_))
       try rw [shp_k n f i k h_t51, sh_in n f i k h_t51 (by omega) (by omega)]
       refine g_reg hP hn ?_
       refine o2 ?_
       refine s_nil trivial ?_
       exact n_round (2 - (k + 1)) (by omega) ⟨k + 1, by omega, rfl, rfl, rfl⟩ (wk hE [])
   · have hk2 : k = 2 := by omega
     subst hk2
     rw [shD_next]
     refine w_exit (x_thn (x_thn (x_eq (n_blo (n_wp (g_reg hP hn ?_))))))
     refine o2 ?_
     refine s_nil trivial ?_
     exact n_round (8 - (i + 1)) (by omega) ⟨i + 1, by omega, rfl, rfl, rfl⟩ (wk hE [])
 · have hi8 : i = 8 := by omega
   subst hi8
   rw [win_all n f hn256, shN_f n f s hf]
   refine w_exit (x_thn (x_thn (x_eq (n_wp (qz hP hn ?_)))))
   refine s_op k_ld ?_
   refine s_op (k_call [] (con := whole_n _)) ?_
   refine s_st k_st ?_
   refine s_nil trivial (n_wp (w_ret ?_))
   exact d_ret hP hn hE [] (r_cell Tryz.results169)

end Go.Proofs.X
end

section
/- A string's bytes, one by one. No program. -/
namespace Go.Bx
section
variable {P : Program} {T : Tm} {H : Heap} {d : Option Tmp} {ty : TypeId} {pos : String} {af : Array Edge} {g : Option (Nat × Bool)}
theorem k_ids (r : Nat) {t : TypeId} {x i : Operand} {k : IntKind} {j : Int} {j' : Nat} {s : ByteArray} [hu : Und P t .string] [hj : IsN j j'] (hx : ev T x = .s (.val (.string s)) := by rfl) (hi : ev T i = .s (.int k j) := by rfl) (hr : ∃ h : j' < s.size, (s[j']'h).toNat = r) : LOk P ⟨d, .index t x i, ty, pos, af, g⟩ T H H (.s (.int .u8 ((r : Nat) : Int))) [] [] :=
  lok_pure fun ρ a w ho => by
    obtain ⟨h1, h2⟩ := two (op := .index t x i) rfl ho hx hi
    rw [hj.h] at h2
    have h1 : a.eval x = .string s := h1.1
    have h2 : a.eval i = .int k (j' : Int) := h2
    obtain ⟨h, hr⟩ := hr
    refine ⟨.int .u8 (r : Int), ?_, rfl⟩
    have := run_index_string (P := P) (w := w) t s k (j' : Int) hu.h
    rw [dif_pos ⟨by omega, by omega⟩] at this
    simp only [Int.toNat_natCast] at this
    rw [hr] at this
    simp [execOp, h1, h2, Sem.run_bind, this]
end
end Go.Bx
end

section
/- What bits' walks need: how long a number is; Knuth's two digits. No program. -/
open Go Go.Bx
namespace Go.Proofs.X
theorem tab_ok (s : ByteArray) (h : (List.range 256).all (fun n => (s.data[n]?.map UInt8.toNat) == some (bitsN n)) = true) (x : Nat) (hx : x < 256) : ∃ hj : x < s.size, (s[x]'hj).toNat = bitsN x := by
  rw [List.all_eq_true] at h
  have := h x (by simpa using hx)
  simp only [beq_iff_eq] at this
  cases hs : s.data[x]? with
  | none => rw [hs] at this; simp at this
  | some b =>
    rw [hs] at this
    simp at this
    obtain ⟨h1, h2⟩ := Array.getElem?_eq_some_iff.1 hs
    refine ⟨h1, ?_⟩
    show (s.data[x]'h1).toNat = _
    rw [h2, this]
theorem bitsN_shr {x k : Nat} (h : 2 ^ k ≤ x) : bitsN x = k + bitsN (x / 2 ^ k) := by
  have h0 : x / 2 ^ k ≠ 0 := fun e => by
    have := Nat.div_pos h (Nat.two_pow_pos k)
    omega
  have h1 := bitsN_le h0
  have h2 := bitsN_lt (x / 2 ^ k)
  have h3 := bitsN_pos h0
  obtain ⟨m, hm⟩ : ∃ m, bitsN (x / 2 ^ k) = m + 1 := ⟨bitsN (x / 2 ^ k) - 1, by omega⟩
  rw [hm] at h1 h2 ⊢
  simp only [Nat.add_sub_cancel] at h1
  have e := bitsN_eq (n := x) (m := k + m) (by
    rw [Nat.pow_add, Nat.mul_comm]
    exact (Nat.le_div_iff_mul_le (Nat.two_pow_pos k)).1 h1) (by
    rw [show k + m + 1 = k + (m + 1) by omega, Nat.pow_add, Nat.mul_comm]
    exact (Nat.div_lt_iff_lt_mul (Nat.two_pow_pos k)).1 h2)
  omega
structure Dv (hi lo y s Y un u0 : Nat) : Prop where
  s64 : s ≤ 63
  hY : y * 2 ^ s % 18446744073709551616 = Y
  Y2 : y * 2 ^ s = Y
  big : 9223372036854775808 ≤ Y ∧ Y < 18446744073709551616
  hun : (hi * 2 ^ s % 18446744073709551616) ||| (lo / 2 ^ (64 - s)) = un
  lt : un < Y
  hu0 : lo * 2 ^ s % 18446744073709551616 = u0
  all : (hi * 18446744073709551616 + lo) * 2 ^ s = un * 18446744073709551616 + u0
theorem dv_of {hi lo y : Nat} (hy0 : 0 < y) (hy : y < 18446744073709551616) (hh : hi < y) (hl : lo < 18446744073709551616) : ∃ Y un u0, Dv hi lo y (64 - bitsN y) Y un u0 := by
  have hb := bitsN_pos (show y ≠ 0 by omega)
  have hb64 : bitsN y ≤ 64 := bitsN_mono (by omega)
  obtain ⟨s, hs⟩ : ∃ s, s = 64 - bitsN y := ⟨_, rfl⟩
  rw [← hs]
  have hle := bitsN_le (show y ≠ 0 by omega)
  have hlt := bitsN_lt y
  have hp := Nat.two_pow_pos s
  have e1 : (2 : Nat) ^ (bitsN y - 1) * 2 ^ s = 9223372036854775808 := by rw [← Nat.pow_add, show bitsN y - 1 + s = 63 by omega]
  have e2 : (2 : Nat) ^ bitsN y * 2 ^ s = 18446744073709551616 := by rw [← Nat.pow_add, show bitsN y + s = 64 by omega]
  have h1 := Nat.mul_le_mul_right (2 ^ s) hle
  have h2 := (Nat.mul_lt_mul_right hp).2 hlt
  have h3 := (Nat.mul_lt_mul_right hp).2 hh
  rw [e1] at h1
  rw [e2] at h2
  have e3 : (2 : Nat) ^ (64 - s) * 2 ^ s = 18446744073709551616 := by rw [← Nat.pow_add, show 64 - s + s = 64 by omega]
  have h4 : lo / 2 ^ (64 - s) < 2 ^ s := by rw [Nat.div_lt_iff_lt_mul (Nat.two_pow_pos _), Nat.mul_comm, e3]; exact hl
  have hor : hi * 2 ^ s ||| lo / 2 ^ (64 - s) = hi * 2 ^ s + lo / 2 ^ (64 - s) := by
    rw [Nat.mul_comm]; exact (Nat.two_pow_add_eq_or_of_lt h4 hi).symm
  have h5 : lo * 2 ^ s = lo / 2 ^ (64 - s) * 18446744073709551616 + lo % 2 ^ (64 - s) * 2 ^ s := by
    have := Nat.div_add_mod lo (2 ^ (64 - s))
    calc lo * 2 ^ s = (2 ^ (64 - s) * (lo / 2 ^ (64 - s)) + lo % 2 ^ (64 - s)) * 2 ^ s := by rw [this]
      _ = _ := by rw [Nat.add_mul, Nat.mul_comm (2 ^ (64 - s)), Nat.mul_assoc, e3]
  have h6 : lo % 2 ^ (64 - s) * 2 ^ s < 18446744073709551616 := by
    rw [← e3]; exact (Nat.mul_lt_mul_right hp).2 (Nat.mod_lt _ (Nat.two_pow_pos _))
  refine ⟨y * 2 ^ s, hi * 2 ^ s + lo / 2 ^ (64 - s), lo * 2 ^ s % 18446744073709551616, by omega, Nat.mod_eq_of_lt h2, rfl, ⟨h1, h2⟩, ?_, ?_, rfl, ?_⟩
  · rw [Nat.mod_eq_of_lt (by omega), hor]
  · have := Nat.mul_le_mul_right (2 ^ s) (show hi + 1 ≤ y from hh)
    rw [Nat.add_mul, Nat.one_mul] at this
    omega
  · rw [Nat.add_mul, h5, Nat.mul_right_comm]
    omega
theorem kn_mul {q y0 : Nat} (h : ¬ 4294967296 ≤ q) (h0 : y0 < 4294967296) : q * y0 < 18446744073709551616 := by
  have := Nat.mul_le_mul (show q ≤ 4294967295 by omega) (show y0 ≤ 4294967295 by omega)
  omega
theorem kn_rest (un y1 : Nat) : un - un / y1 * y1 = un % y1 := by
  have := Nat.div_add_mod' un y1
  omega
theorem kn_fit (un y1 : Nat) (h : un < 18446744073709551616) : un / y1 * y1 < 18446744073709551616 := Nat.lt_of_le_of_lt (Nat.div_mul_le_self _ _) h
theorem kn_wrap {un u1 q Y : Nat} (hq : q = (un * 4294967296 + u1) / Y) (hY : 0 < Y) (hY64 : Y < 18446744073709551616) : (((un * 4294967296 % 18446744073709551616 + u1) % 18446744073709551616) + (18446744073709551616 - q * Y % 18446744073709551616)) % 18446744073709551616 = (un * 4294967296 + u1) % Y := by
  have h1 := Nat.div_add_mod' (un * 4294967296 + u1) Y
  have h2 := Nat.mod_lt (un * 4294967296 + u1) hY
  rw [← hq] at h1
  obtain ⟨r, hr⟩ : ∃ r, r = (un * 4294967296 + u1) % Y := ⟨_, rfl⟩
  rw [← hr] at h1 h2 ⊢
  obtain ⟨p, hp⟩ : ∃ p, p = q * Y := ⟨_, rfl⟩
  rw [← hp] at h1 ⊢
  omega
theorem kn_sp (Y : Nat) : Y / 4294967296 * 4294967296 + Y % 4294967296 = Y := Nat.div_add_mod' _ _
structure KL (un u1 Y q rh : Nat) : Prop where
  kn : Kn un u1 (Y / 4294967296) (Y % 4294967296) q rh
  hq : q ≤ 4294967297
  hr : rh < 4294967296
theorem KL.start {un u1 Y : Nat} (h1 : u1 < 4294967296) (hun : un < Y) (hY : 9223372036854775808 ≤ Y) (hY2 : Y < 18446744073709551616) : KL un u1 Y (un / (Y / 4294967296)) (un % (Y / 4294967296)) := by
  have hy1 : 2147483648 ≤ Y / 4294967296 := by omega
  have hm := Nat.mod_lt un (show 0 < Y / 4294967296 by omega)
  refine ⟨.start h1 (by omega), kn_guess (y0 := Y % 4294967296) (by rw [kn_sp]; exact hun) hy1 (Nat.mod_lt _ (by omega)), by omega⟩
theorem KL.next {un u1 Y q rh : Nat} (k : KL un u1 Y q rh) (h1 : u1 < 4294967296) (hun : un < Y) (hY : 9223372036854775808 ≤ Y) (h : 4294967296 ≤ q ∨ 4294967296 * rh + u1 < q * (Y % 4294967296)) : 0 < q ∧ Kn un u1 (Y / 4294967296) (Y % 4294967296) (q - 1) (rh + Y / 4294967296) := k.kn.next (by omega) (by rw [kn_sp]; exact hun) h1 h
theorem KL.done {un u1 Y q rh : Nat} (k : KL un u1 Y q rh) (hY : 9223372036854775808 ≤ Y) (h : ¬ (4294967296 * rh + u1 < q * (Y % 4294967296))) : q = (un * 4294967296 + u1) / Y := by
  have := k.kn.done (by omega) (by omega)
  rwa [kn_sp] at this
theorem kn_far {un u1 Y q rh : Nat} (k : Kn un u1 (Y / 4294967296) (Y % 4294967296) q rh) (hY : 9223372036854775808 ≤ Y) (hq : q ≤ 4294967296) (hr : 4294967296 ≤ rh) : q = (un * 4294967296 + u1) / Y := by
  have := k.far (by omega) (Nat.mod_lt _ (by omega)) hq hr
  rwa [kn_sp] at this
theorem kn_join (un u0 : Nat) : (un * 4294967296 + u0 / 4294967296) * 4294967296 + u0 % 4294967296 = un * 18446744073709551616 + u0 := by omega
theorem kn_all {hi lo y s Y un u0 : Nat} (d : Dv hi lo y s Y un u0) (hy : 0 < y) : (un * 4294967296 + u0 / 4294967296) / Y * 4294967296 + ((un * 4294967296 + u0 / 4294967296) % Y * 4294967296 + u0 % 4294967296) / Y = (hi * 18446744073709551616 + lo) / y ∧ ((un * 4294967296 + u0 / 4294967296) % Y * 4294967296 + u0 % 4294967296) % Y / 2 ^ s = (hi * 18446744073709551616 + lo) % y := by
  have hY := d.big
  obtain ⟨h1, h2⟩ := kn_two (N := un * 4294967296 + u0 / 4294967296) (un0 := u0 % 4294967296) (y := Y) (by omega)
  have e : (un * 4294967296 + u0 / 4294967296) * 4294967296 + u0 % 4294967296 = (hi * 18446744073709551616 + lo) * 2 ^ s := (kn_join un u0).trans d.all.symm
  rw [e, ← d.Y2] at h1 h2
  rw [← d.Y2, h1, h2]
  exact kn_up
end Go.Proofs.X
end

section
/- Types and functions of bits, as instances. -/
open Go Go.Bx Go.Proofs
namespace Go.Proofs.X
instance : Clb Tryz.prog 170 := ⟨_, Tryz.func170, by kernel_rfl, rfl⟩
instance : Clb Tryz.prog 168 := ⟨_, Tryz.func168, by kernel_rfl, rfl⟩
instance : Clb Tryz.prog 159 := ⟨_, Tryz.func159, by kernel_rfl, rfl⟩
instance : Clb Tryz.prog 163 := ⟨_, Tryz.func163, by kernel_rfl, rfl⟩
instance : Clb Tryz.prog 160 := ⟨_, Tryz.func160, by kernel_rfl, rfl⟩
instance : Und Tryz.prog 9 (.string) := ⟨Tryz.underlying9⟩
instance : Sz Tryz.prog 9 1 := ⟨Tryz.sizeOf9⟩
instance : Ag Tryz.prog 9 false := ⟨Tryz.isAgg9⟩
instance : Zv Tryz.prog 9 [.one (.val (.string ⟨#[]⟩))] := ⟨_, Tryz.zeroValue9, by kernel_rfl⟩
instance : Inf Tryz.prog 9 Tryz.t9 := ⟨by kernel_rfl⟩
instance : Und Tryz.prog 261 (.interface #[("Error", 266)]) := ⟨Tryz.underlying261⟩
instance : Sz Tryz.prog 261 1 := ⟨Tryz.sizeOf261⟩
instance : Ag Tryz.prog 261 false := ⟨Tryz.isAgg261⟩
instance : Zv Tryz.prog 261 [.one (.val .nilIface)] := ⟨_, Tryz.zeroValue261, by kernel_rfl⟩
instance : Inf Tryz.prog 261 Tryz.t261 := ⟨by kernel_rfl⟩
end Go.Proofs.X
end
