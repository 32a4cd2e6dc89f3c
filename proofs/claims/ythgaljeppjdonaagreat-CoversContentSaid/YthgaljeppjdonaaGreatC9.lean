/- A part of the proofs of this claim: Bx35, Bx36, BParT, BPar1, Bx37, Bx38, BParS, BPar2, BPar3, BPar4, Bx39, BPcsT, BPcsS, BPcs1, BPcs2. No conditions. -/
import Derived.Test.YthgaljeppjdonaaGreatC8
import Derived.Lib.Overlaps
set_option linter.unusedVariables false
set_option linter.unusedSimpArgs false
section
/- A full slice of integers, and integers behind it: a new row. No program. -/
namespace Go.Bx
section
variable {P : Program} {T : Tm} {H : Heap} {d : Option Tmp} {ty : TypeId} {pos : String} {af : Array Edge} {g : Option (Nat × Bool)}
theorem l_apf {x y : Operand} {t tx e rt : TypeId} {id base idx len n0 : Nat} {k : IntKind} {segs : List Seg} {l l2 : List Int} {inf : TypeInfo} {H' : Heap} (hx : ev T x = .s (.slice id base idx len len)) (hy : ev T y = .s (.fzi k l2)) (hb : hget H id = some ⟨true, segs⟩) (hsub : SubS segs (base + idx) (len * 1) [.ints k len l]) (hl : l.length = len)
    (hu : P.underlying t = some (.slice e)) (htn : P.underlying tx = some (.slice e)) (hi : P.info? e = some inf) (hsz : inf.size = 1) (hz : inf.zero = some (.int k 0)) (h0 : 0 < l2.length) (hbig : (len + l2.length) * inf.bytes ≤ 140737488355328) (hb1 : 0 < inf.bytes) (hn : H.length = n0) (hH : H ++ [some (Blk.mk true [.ints k (len + l2.length) (l ++ l2)])] = H') :
    LOk P ⟨d, .call ⟨.builtin .append, #[x, y], #[t, tx]⟩, rt, pos, af, g⟩ T H H' (.s (.gro n0 1 (len + l2.length))) [id] [] := by
  subst hH
  have hlt := hget_lt hb
  refine lok_new [id] (fun j h => by simp at h; subst h; exact hlt) fun H0 hl0 hg0 => ?_
  subst hn
  intro W ρ a w hH hf hW ho next Q hq
  have k1 : (ev T x).rep ρ (a.eval x) := ho x (by simp [Op.operands, Call.operands])
  have k2 : (ev T y).rep ρ (a.eval y) := ho y (by simp [Op.operands, Call.operands])
  rw [hx] at k1
  rw [hy] at k2
  obtain ⟨_, hsrc⟩ := asrc_sl (P := P) (cap := len) hu (id := id) (H := H) (base := base) (idx := idx) (n := len) (size := 1) hb hsub
  obtain ⟨olds, hS0, hnr0, _⟩ := hsrc _ W ρ w _ (fun j hj => hg0 j hj) hH k1
  obtain ⟨news, hS, hnr, _⟩ := (asrc_fzi (P := P) (H := H) (k := k) (l := l2) htn).2 _ W ρ w _ (fun _ h => by cases h) hH k2
  obtain ⟨b, o, hρ, hev⟩ := k1
  have hol : olds.length = len := by have := hS0.newsLen; omega
  have hnl : news.length = l2.length := by have := hS.newsLen; omega
  have hold := hS0.cellsD
  rw [hev] at hold
  have h63 : ((len + l2.length : Nat) : Int) ≤ 9223372036854775807 := by
    have : len + l2.length ≤ (len + l2.length) * inf.bytes := Nat.le_mul_of_pos_right _ hb1
    omega
  have hS' : Src P inf.size tx (a.eval y) l2.length news w := by rw [hsz]; exact hS
  have hr := run_append_grow_src (P := P) w t tx rt e inf (.int k 0) hu hi hz (some ⟨b, o + base + idx, none⟩) len len olds (by rw [hsz]; exact hold) _ l2.length news hS' (by omega) h63 (growslice_fits (by omega) hbig)
  generalize hcap : grownCap w (len + l2.length) len e = cap at hr
  have hcap' : len + l2.length ≤ cap := hcap ▸ grownCap_ge w _ _ _
  have hrun : (execOp a.eval ⟨d, .call ⟨.builtin .append, #[x, y], #[t, tx]⟩, rt, pos, af, g⟩).run P w = .ok (.value (.slice (some ⟨w.heap.size, 0, none⟩) (len + l2.length) cap)) (w.drew.alloc (.cells ((olds ++ news).toArray ++ Builtin.zeroCells (Value.int k 0).cells (cap - (len + l2.length))) e)) := by
    simp only [execOp, resolve, invoke, builtin, List.map_toArray, List.map_cons, List.map_nil, hev]
    simp [Sem.run_bind, hr]
  rw [hrun]
  generalize hcells : (olds ++ news).toArray ++ Builtin.zeroCells (Value.int k 0).cells (cap - (len + l2.length)) = cells
  have hHd : HRep W ρ (hget H0) w.drew := hH.ext (.drew w)
  have hsize : cells.size = cap := by
    rw [← hcells]; simp [Builtin.zeroCells, hnl, hol, Value.cells]; omega
  obtain ⟨ρ', k3, k4, k5⟩ := nx_alloc (t := e) (w := w.drew) (H0 := H0) (cells := cells) (segs := [.ints k (len + l2.length) (l ++ l2)]) hHd (hf _ (Nat.le_refl _) (by simp)) (fun b hb => hW b hb) (fun ρ' hle i z hz => by
    obtain ⟨hi2, rfl⟩ := atS_ints1 hz
    have hcell : ∀ v, (olds ++ news)[i]? = some v → cells[i]? = some v := fun v hv => by
      have hi' := (List.getElem?_eq_some_iff.1 hv).1
      rw [← hcells, Array.getElem?_append_left (by simpa using hi')]
      simpa using hv
    rcases Nat.lt_or_ge i len with h | h
    · obtain ⟨v, hv, hc⟩ := hnr0 i (.int k (l.getD i 0)) (by simp [atS, Seg.size, Seg.at, h])
      have hv' : v = .int k (l.getD i 0) := hc.1
      subst hv'
      refine ⟨.int k (l.getD i 0), hcell _ (by rw [List.getElem?_append_left (by omega)]; exact hv), ?_, rfl⟩
      show _ = _
      rw [List.getD_eq_getElem?_getD, List.getD_eq_getElem?_getD, List.getElem?_append_left (by omega)]
    · obtain ⟨v, hv, hc⟩ := hnr (i - len) (.int k (l2.getD (i - len) 0)) (by simp only [atS]; rw [if_pos (by show i - len < l2.length; omega)]; rfl)
      have hv' : v = .int k (l2.getD (i - len) 0) := hc.1
      subst hv'
      refine ⟨.int k (l2.getD (i - len) 0), hcell _ (by rw [List.getElem?_append_right (by omega), hol]; exact hv), ?_, rfl⟩
      show _ = _
      rw [List.getD_eq_getElem?_getD, List.getD_eq_getElem?_getD, List.getElem?_append_right (by omega), hl])
  refine hq _ _ ⟨ρ', W, ?_, .inr ⟨w.heap.size, 0, cap, cells.size, ?_, rfl, hcap', k5, by rw [hsize]; omega⟩⟩
  · exact ⟨k3.le, k3.old, k3.rep, ((Ext.drew w).fr W).trans k3.fr, k3.sub, k3.fresh, k3.fzn⟩
  · rw [← hl0]; exact k4
theorem k_apf {x y : Operand} {t tx e rt : TypeId} {id len c n0 : Nat} {k : IntKind} {l l2 l' : List Int} {inf : TypeInfo} {H' : Heap} [hu : Und P t (.slice e)] [htn : Und P tx (.slice e)] [hi : Inf P e inf] [hN : LenN H n0] (hx : ev T x = .s (.slice id 0 0 len len) := by rfl) (hy : ev T y = .s (.fzi k l2) := by rfl) (hb : hget H id = some ⟨true, [.ints k len l]⟩ := by rfl) (hl : l.length = len := by first | assumption | omega | simp [*]) (hsz : inf.size = 1 := by exact rfl) (hz : inf.zero = some (.int k 0) := by exact rfl) (h0 : 0 < l2.length := by omega) (hc : len + l2.length = c := by rfl) (hl' : l ++ l2 = l' := by rfl) (hbig : len + l2.length ≤ 1000000 := by omega) (hbb : Nat.ble (1000000 * inf.bytes) 140737488355328 = true := by exact rfl) (hb1 : 0 < inf.bytes := by exact Nat.le_of_ble_eq_true rfl) (hH : H ++ [some (Blk.mk true [.ints k c l'])] = H' := by repeat (first | exact happ_0 | apply happ_s)) :
    LOk P ⟨d, .call ⟨.builtin .append, #[x, y], #[t, tx]⟩, rt, pos, af, g⟩ T H H' (.s (.gro n0 1 c)) [id] [] := by
  subst hc; subst hl'
  exact l_apf hx hy hb (by rw [Nat.mul_one]; exact .whole (by simp [sizeS, Seg.size])) hl hu.h htn.h hi.h hsz hz h0 (big_ok hbig hbb) hb1 hN.h hH
end
end Go.Bx
end

section
/- Plain function values, told as closures that catch nothing. No program. -/
namespace Go.Bx
theorem conv_vf {H : Heap} {f : Nat} {q : Nat → SV} : AConv [] H (.s (.val (.func (.func f) #[] #[]))) (.s (.noid (.clo f 0 q))) := fun _ _ _ _ _ _ _ h => by
  have h1 := h.1
  subst h1
  exact ⟨⟨#[], rfl, rfl, fun i hi => absurd hi (Nat.not_lt_zero i)⟩, rfl⟩
end Go.Bx
end

section
/- Types and functions of pieces, as instances. -/
open Go Go.Bx Go.Proofs
namespace Go.Proofs.X
instance : Clb Tryz.prog 45 := ⟨_, Tryz.func45, by kernel_rfl, rfl⟩
instance : Clb Tryz.prog 25 := ⟨_, Tryz.func25, by kernel_rfl, rfl⟩
instance : Clb Tryz.prog 59 := ⟨_, Tryz.func59, by kernel_rfl, rfl⟩
instance : Clb Tryz.prog 81 := ⟨_, Tryz.func81, by kernel_rfl, rfl⟩
instance : Clb Tryz.prog 32 := ⟨_, Tryz.func32, by kernel_rfl, rfl⟩
instance : Clb Tryz.prog 108 := ⟨_, Tryz.func108, by kernel_rfl, rfl⟩
instance : Clb Tryz.prog 78 := ⟨_, Tryz.func78, by kernel_rfl, rfl⟩
instance : Clb Tryz.prog 79 := ⟨_, Tryz.func79, by kernel_rfl, rfl⟩
instance : Clb Tryz.prog 26 := ⟨_, Tryz.func26, by kernel_rfl, rfl⟩
instance : Clb Tryz.prog 36 := ⟨_, Tryz.func36, by kernel_rfl, rfl⟩
instance : Clb Tryz.prog 77 := ⟨_, Tryz.func77, by kernel_rfl, rfl⟩
instance : Clb Tryz.prog 35 := ⟨_, Tryz.func35, by kernel_rfl, rfl⟩
instance : Und Tryz.prog 25 (.slice 40) := ⟨Tryz.underlying25⟩
instance : Sz Tryz.prog 25 1 := ⟨Tryz.sizeOf25⟩
instance : Ag Tryz.prog 25 false := ⟨Tryz.isAgg25⟩
instance : Zv Tryz.prog 25 [.one .nils] := ⟨_, Tryz.zeroValue25, by kernel_rfl⟩
instance : Zn Tryz.prog 25 := ⟨Tryz.zeroValue25⟩
instance : Inf Tryz.prog 25 Tryz.t25 := ⟨by kernel_rfl⟩
instance : Und Tryz.prog 37 (.int .u16) := ⟨Tryz.underlying37⟩
instance : Sz Tryz.prog 37 1 := ⟨Tryz.sizeOf37⟩
instance : Ag Tryz.prog 37 false := ⟨Tryz.isAgg37⟩
instance : Zv Tryz.prog 37 [.one (.int .u16 0)] := ⟨_, Tryz.zeroValue37, by kernel_rfl⟩
instance : Zi Tryz.prog 37 .u16 := ⟨Tryz.zeroValue37⟩
instance : Inf Tryz.prog 37 Tryz.t37 := ⟨by kernel_rfl⟩
instance : Und Tryz.prog 40 (.struct #[{ name := "Type", type := 37, offset := 0, embedded := false, tag := "", pkgPath := "", byteOffset := 0 }, { name := "Body", type := 38, offset := 1, embedded := false, tag := "", pkgPath := "", byteOffset := 8 }]) := ⟨Tryz.underlying40⟩
instance : Sz Tryz.prog 40 2 := ⟨Tryz.sizeOf40⟩
instance : Ag Tryz.prog 40 true := ⟨Tryz.isAgg40⟩
instance : Zv Tryz.prog 40 [.one (.int .u16 0), .one .nils] := ⟨_, Tryz.zeroValue40, by kernel_rfl⟩
instance : FldC Tryz.prog 40 0 0 := ⟨_, _, _, Tryz.underlying40, rfl, Tryz.sizeOf37, by decide, rfl⟩
instance : FldC Tryz.prog 40 1 1 := ⟨_, _, _, Tryz.underlying40, rfl, Tryz.sizeOf38, by decide, rfl⟩
instance : Pl Tryz.prog 40 #[(0, 1), (1, 1)] := ⟨_, Tryz.underlying40, fun w => by kernel_rfl⟩
instance : Inf Tryz.prog 40 Tryz.t40 := ⟨by kernel_rfl⟩
instance : Und Tryz.prog 83 (.struct #[{ name := "Bits", type := 5, offset := 0, embedded := false, tag := "", pkgPath := "", byteOffset := 0 }, { name := "Gen", type := 28, offset := 1, embedded := false, tag := "", pkgPath := "", byteOffset := 8 }, { name := "I", type := 34, offset := 2, embedded := false, tag := "", pkgPath := "", byteOffset := 16 }]) := ⟨Tryz.underlying83⟩
instance : Sz Tryz.prog 83 34 := ⟨Tryz.sizeOf83⟩
instance : Ag Tryz.prog 83 true := ⟨Tryz.isAgg83⟩
instance : Zv Tryz.prog 83 [.one (.int .u8 0), .one (.int .u64 0), .ints .u8 32 (zs (List.replicate 32 0))] := ⟨_, Tryz.zeroValue83, by kernel_rfl⟩
instance : FldC Tryz.prog 83 0 0 := ⟨_, _, _, Tryz.underlying83, rfl, Tryz.sizeOf5, by decide, rfl⟩
instance : FldC Tryz.prog 83 1 1 := ⟨_, _, _, Tryz.underlying83, rfl, Tryz.sizeOf28, by decide, rfl⟩
instance : FldC Tryz.prog 83 2 2 := ⟨_, _, _, Tryz.underlying83, rfl, Tryz.sizeOf34, by decide, rfl⟩
instance : Pl Tryz.prog 83 #[(0, 1), (1, 1), (2, 32)] := ⟨_, Tryz.underlying83, fun w => by kernel_rfl⟩
instance : Inf Tryz.prog 83 Tryz.t83 := ⟨by kernel_rfl⟩
instance : Und Tryz.prog 125 (.func #[38] #[83] false) := ⟨Tryz.underlying125⟩
instance : Sz Tryz.prog 125 1 := ⟨Tryz.sizeOf125⟩
instance : Ag Tryz.prog 125 false := ⟨Tryz.isAgg125⟩
instance : Zv Tryz.prog 125 [.one (.val .nilFunc)] := ⟨_, Tryz.zeroValue125, by kernel_rfl⟩
instance : Inf Tryz.prog 125 Tryz.t125 := ⟨by kernel_rfl⟩
instance : Und Tryz.prog 126 (.func #[38] #[4] false) := ⟨Tryz.underlying126⟩
instance : Sz Tryz.prog 126 1 := ⟨Tryz.sizeOf126⟩
instance : Ag Tryz.prog 126 false := ⟨Tryz.isAgg126⟩
instance : Zv Tryz.prog 126 [.one (.val .nilFunc)] := ⟨_, Tryz.zeroValue126, by kernel_rfl⟩
instance : Inf Tryz.prog 126 Tryz.t126 := ⟨by kernel_rfl⟩
instance : Und Tryz.prog 171 (.slice 126) := ⟨Tryz.underlying171⟩
instance : Sz Tryz.prog 171 1 := ⟨Tryz.sizeOf171⟩
instance : Ag Tryz.prog 171 false := ⟨Tryz.isAgg171⟩
instance : Zv Tryz.prog 171 [.one .nils] := ⟨_, Tryz.zeroValue171, by kernel_rfl⟩
instance : Zn Tryz.prog 171 := ⟨Tryz.zeroValue171⟩
instance : Inf Tryz.prog 171 Tryz.t171 := ⟨by kernel_rfl⟩
end Go.Proofs.X
end

section
open Go Go.Bx Go.Proofs
namespace Go.Proofs.X
attribute [local irreducible] wd dg be gN
set_option maxRecDepth 100000 in
set_option maxHeartbeats 4000000 in
theorem clone_1 (A : List Int) (h0 : 0 < A.length) (hA : A.length ≤ 1000000) : Con Tryz.prog 45 [.s (.fzi .u8 A)] [] (.s (.fzi .u8 A)) [] := by
 refine con_in 8 Tryz.func45 rfl rfl (m := 0) rfl ?_
 intro E hP hn hE
 refine w_seq ?_
 refine g_reg hP hn ?_
 refine s_op k_as ?_
 refine s_nil trivial ?_
 refine n_wp ?_
 refine w_seq ?_
 refine w_seq ?_
 refine g_reg hP hn ?_
 refine s_op k_mv ?_
 refine s_op (k_snf (hl := h0)) ?_
 refine s_nil trivial ?_
 refine n_wp ?_
 refine w_F rfl ?_ 
 refine w_skip ?_
 refine n_wp ?_
 refine w_seq ?_
 refine g_reg hP hn ?_
 refine s_op (k_bs0 .u8) ?_
 refine s_op k_mv ?_
 refine s_op (k_apg (c := A.length) (l' := A) (hc := by omega) (hl' := by rfl) (hl := by rfl)) ?_
 refine s_op k_as ?_
 refine s_nil trivial ?_
 refine n_wp ?_
 refine w_ret ?_
 exact d_retw hP hn (r_tmp Tryz.results45) ((frz_gro 0 (l' := A) (hl := rfl) (hl' := List.take_length)).trans (wk hE []))

set_option maxRecDepth 100000 in
set_option maxHeartbeats 4000000 in
theorem clone_n (c : Nat) : Con Tryz.prog 45 [.s (.val (.slice none 0 c))] [] (.s (.fzi .u8 [])) [] := by
 refine con_in 8 Tryz.func45 rfl rfl (m := 0) rfl ?_
 intro E hP hn hE
 refine w_seq ?_
 refine g_reg hP hn ?_
 refine s_op k_as ?_
 refine s_nil trivial ?_
 refine n_wp ?_
 refine w_seq ?_
 refine w_seq ?_
 refine g_reg hP hn ?_
 refine s_op k_mv ?_
 refine s_op k_snv ?_
 refine s_nil trivial ?_
 refine n_wp ?_
 refine w_T rfl ?_ 
 refine w_seq ?_
 refine g_reg hP hn ?_
 refine s_op k_as ?_
 refine s_nil trivial ?_
 refine n_wp ?_
 refine w_ret ?_
 refine r_thn ?_
 exact d_retw hP hn (r_tmp Tryz.results45) ((weak_conv 0 rfl conv_nil).trans (wk hE []))

set_option maxRecDepth 100000 in
set_option maxHeartbeats 4000000 in
theorem clone_e (a : Addr) (c : Nat) : Con Tryz.prog 45 [.s (.val (.slice (some a) 0 c))] [] (.s (.fzi .u8 [])) [] := by
 refine con_in 8 Tryz.func45 rfl rfl (m := 0) rfl ?_
 intro E hP hn hE
 refine w_seq ?_
 refine g_reg hP hn ?_
 refine s_op k_as ?_
 refine s_nil trivial ?_
 refine n_wp ?_
 refine w_seq ?_
 refine w_seq ?_
 refine g_reg hP hn ?_
 refine s_op k_mv ?_
 refine s_op k_snv ?_
 refine s_nil trivial ?_
 refine n_wp ?_
 refine w_F rfl ?_ 
 refine w_skip ?_
 refine n_wp ?_
 refine w_seq ?_
 refine g_reg hP hn ?_
 refine s_op (k_bs0 .u8) ?_
 refine s_op k_mv ?_
 refine s_op k_ape ?_
 refine s_op k_as ?_
 refine s_nil trivial ?_
 refine n_wp ?_
 refine w_ret ?_
 exact d_retw hP hn (r_tmp Tryz.results45) ((frz_gro 0 (n := 0) (kk := .u8) (l := []) (l' := []) (hl := rfl) (hl' := rfl)).trans (wk hE []))

theorem clone_c (A : List Int) (hA : A.length ≤ 1000000) : Con Tryz.prog 45 [.s (.fzi .u8 A)] [] (.s (.fzi .u8 A)) [] := by
 cases A with
 | nil => exact con_e fun a c => (match a with | none => clone_n c | some a => clone_e a c)
 | cons x r => exact clone_1 (x :: r) (by simp) hA

set_option maxRecDepth 100000 in
set_option maxHeartbeats 4000000 in
theorem clip_f (A : List Int) : Con Tryz.prog 71 [.s (.fzi .u8 A)] [] (.s (.fzi .u8 A)) [] := by
 refine con_in 9 Tryz.func71 rfl rfl (m := 0) rfl ?_
 intro E hP hn hE
 refine w_seq ?_
 refine g_reg hP hn ?_
 refine s_op k_as ?_
 refine s_nil trivial ?_
 refine n_wp ?_
 refine w_seq ?_
 refine g_reg hP hn ?_
 refine s_op k_mv ?_
 refine s_op k_mv ?_
 refine s_op k_len ?_
 refine s_op k_mv ?_
 refine s_op k_len ?_
 refine s_op (l_sli (ys := A) (l := 0) (h := A.length) rfl rfl ⟨_, _, rfl, rfl⟩ (.inr ⟨A.length, ⟨_, rfl, _, _, rfl, rfl⟩, Nat.le_refl _, Nat.le_refl _⟩) rfl Und.h Sz.h (Nat.zero_le _) (Nat.le_refl _) (by simp)) ?_
 refine s_op k_as ?_
 refine s_nil trivial ?_
 refine n_wp ?_
 refine w_ret ?_
 exact d_ret hP hn hE [] (by first | exact r_tmp Tryz.results71 | exact r_tmpa Tryz.results71)

set_option maxRecDepth 100000 in
set_option maxHeartbeats 4000000 in
theorem psum_n (B : List Int) (hB : B.length = 32) : Con Tryz.prog 59 [.agg [.ints .u8 32 B]] [] (.s (.fzi .u8 B)) [] := by
 refine con_in 5 Tryz.func59 rfl rfl (m := 0) rfl ?_
 intro E hP hn hE
 refine w_seq ?_
 refine g_reg hP hn ?_
 refine s_op k_bxf ?_
 refine s_op k_as ?_
 refine s_nil trivial ?_
 refine n_wp ?_
 refine w_seq ?_
 refine g_reg hP hn ?_
 refine s_op k_slf ?_
 refine s_op (k_call [] (con := clone_c B (by omega))) ?_
 refine s_op k_as ?_
 refine s_nil trivial ?_
 refine n_wp ?_
 refine w_ret ?_
 exact d_ret hP hn hE [] (by first | exact r_tmp Tryz.results59 | exact r_tmpa Tryz.results59)

set_option maxRecDepth 100000 in
set_option maxHeartbeats 4000000 in
theorem psig_n (c s : Nat) : Con Tryz.prog 25 [.agg [.ints .u64 4 (zs (wd c)), .ints .u64 4 (zs (wd s))]] [] (.s (.fzi .u8 (be 32 c ++ be 32 s))) [] := by
 refine con_in 10 Tryz.func25 rfl rfl (m := 0) rfl ?_
 intro E hP hn hE
 refine w_seq ?_
 refine g_reg hP hn ?_
 refine s_op k_bx ?_
 refine s_op k_as ?_
 refine s_nil trivial ?_
 refine n_wp ?_
 refine w_seq ?_
 refine g_any hP hn ?_
 refine s_op k_fa ?_
 refine s_op k_ld ?_
 refine s_op (k_call [] (con := pl0_n c)) ?_
 refine s_op k_fa ?_
 refine s_op k_ld ?_
 refine s_op (k_call [] (con := pl_n (be 32 c) s (by rw [be_len]; decide))) ?_
 refine s_op (k_call [] (con := clip_f (be 32 c ++ be 32 s))) ?_
 refine s_op k_as ?_
 refine s_nil (by kernel_rfl) ?_
 refine n_wp ?_
 refine w_ret ?_
 exact d_ret hP hn hE [] (by first | exact r_tmp Tryz.results25 | exact r_tmpa Tryz.results25)

set_option maxRecDepth 100000 in
set_option maxHeartbeats 4000000 in
theorem filled_n (n : Nat) (h : n ≤ 1000000000) : Con Tryz.prog 81 [.s (.int .i64 ((n : Nat) : Int))] [] (.s (.int .i64 (((n + 8 - 1) / 8 * 8 : Nat) : Int))) [] := by
 refine con_in 8 Tryz.func81 rfl rfl (m := 0) rfl ?_
 intro E hP hn hE
 refine w_seq ?_
 refine g_reg hP hn ?_
 refine s_op k_as ?_
 refine s_nil trivial ?_
 refine n_wp ?_
 refine w_seq ?_
 refine g_reg hP hn ?_
 refine s_op k_mv ?_
 refine s_op k_add ?_
 refine s_op k_sub ?_
 refine s_op k_quo ?_
 refine s_op k_mul ?_
 refine s_op k_as ?_
 refine s_nil trivial ?_
 refine n_wp ?_
 refine w_ret ?_
 exact d_ret hP hn hE [] (by first | exact r_tmp Tryz.results81 | exact r_tmpa Tryz.results81)

end Go.Proofs.X
end

section
/- Rows of several cells that may be written: made, put behind, copied, cleared, set; their overlaps. No program. -/
namespace Go.Bx
theorem atS_rowsW {c w j : Nat} {g : Nat → Nat → SV} {y : SV} (h : atS [.rows c w g] j = some y) : j < c * w ∧ y = .noid (g (j / w) (j % w)) := by
  have hs : (Seg.rows c w g).size = c * w := rfl
  simp only [atS] at h
  rw [hs] at h
  by_cases hj : j < c * w
  · rw [if_pos hj] at h
    exact ⟨hj, (Option.some.inj h).symm⟩
  · rw [if_neg hj] at h; cases h
theorem rowsW_at {c w : Nat} (g : Nat → Nat → SV) {j : Nat} (h : j < c * w) : atS [.rows c w g] j = some (.noid (g (j / w) (j % w))) := by
  have hs : (Seg.rows c w g).size = c * w := rfl
  simp only [atS]
  rw [hs, if_pos h]
  rfl
theorem row_ix {w p j : Nat} (hw : 0 < w) : (p * w + j) / w = p + j / w ∧ (p * w + j) % w = j % w := by
  constructor
  · rw [Nat.add_comm, Nat.add_mul_div_right _ _ hw, Nat.add_comm]
  · rw [Nat.add_comm, Nat.add_mul_mod_self_right]
theorem div_lt' {w c j : Nat} (h : j < c * w) : j / w < c := by
  have hw : 0 < w := by
    rcases Nat.eq_zero_or_pos w with rfl | h'
    · simp at h
    · exact h'
  exact (Nat.div_lt_iff_lt_mul hw).2 h
theorem PutS.rowsW {w m p c : Nat} {g g2 g' : Nat → Nat → SV} (hw : 0 < w) (h0 : 0 < m) (hc : p + m ≤ c) (hg : ∀ i j, i < m → j < w → g' (p + i) j = g2 i j) (hg2 : ∀ i j, ¬(p ≤ i ∧ i < p + m) → i < c → j < w → g' i j = g i j) : PutS [.rows c w g] (p * w) (m * w) [.rows m w g2] [.rows c w g'] := by
  refine ⟨⟨Nat.mul_pos h0 hw, ?_⟩, fun j y hy => ?_⟩
  · have : (p + m) * w ≤ c * w := Nat.mul_le_mul_right w hc
    rw [Nat.add_mul] at this
    simpa [sizeS, Seg.size] using this
  obtain ⟨hj, rfl⟩ := atS_rowsW hy
  have hm := Nat.mod_lt j hw
  split
  · rename_i h
    obtain ⟨k, rfl⟩ : ∃ k, j = p * w + k := ⟨j - p * w, by omega⟩
    have hk : k < m * w := by omega
    rw [Nat.add_sub_cancel_left, rowsW_at g2 hk, (row_ix hw).1, (row_ix hw).2, hg _ _ (div_lt' hk) (Nat.mod_lt _ hw)]
  · rename_i h
    rw [rowsW_at g hj, hg2 _ _ (fun hh => h ?_) (div_lt' hj) hm]
    have e := Nat.div_add_mod' j w
    have h1 : p * w ≤ j / w * w := Nat.mul_le_mul_right w hh.1
    have h2 : (j / w + 1) * w ≤ (p + m) * w := Nat.mul_le_mul_right w hh.2
    rw [Nat.add_mul, Nat.one_mul] at h2
    rw [Nat.add_mul] at h2
    omega
theorem SubS.rowsW {w m p c : Nat} {g g2 : Nat → Nat → SV} (hw : 0 < w) (hc : p + m ≤ c) (hg : ∀ i j, i < m → j < w → g2 i j = g (p + i) j) : SubS [.rows c w g] (p * w) (m * w) [.rows m w g2] := by
  refine .of_eq (by simp [sizeS, Seg.size]) fun k hk => ?_
  have h1 : p * w + k < c * w := by
    have : (p + m) * w ≤ c * w := Nat.mul_le_mul_right w hc
    rw [Nat.add_mul] at this
    omega
  rw [rowsW_at g2 hk, rowsW_at g h1, (row_ix hw).1, (row_ix hw).2, hg _ _ (div_lt' hk) (Nat.mod_lt _ hw)]
/-- A row without numbers, told as one of rows. -/
theorem row_noid {ρ : Rho} {row : List Seg} {w : Nat} {get : Nat → Option Value} (hs : sizeS row = w) (hid : row.all (Seg.idB fun _ => false) = true) {g2 : Nat → Nat → SV} (hg : ∀ j, j < w → g2 0 j = cellsF row j) (hr : RowRep ρ row get) : RowRep ρ [.rows 1 w g2] get := fun j y hy => by
  obtain ⟨hj, rfl⟩ := atS_rowsW hy
  rw [Nat.one_mul] at hj
  obtain ⟨x, hx⟩ := atS_some (l := row) (i := j) (by omega)
  obtain ⟨v, hv, hc⟩ := hr j x hx
  refine ⟨v, hv, ?_⟩
  rw [Nat.div_eq_of_lt hj, Nat.mod_eq_of_lt hj, hg j hj, show cellsF row j = x by simp [cellsF, hx]]
  exact joined (.inr ⟨rfl, atS_idB hid hx⟩) hc
section
variable {P : Program} {T : Tm} {H : Heap} {d : Option Tmp} {ty : TypeId} {pos : String} {af : Array Edge} {g : Option (Nat × Bool)}
/-- 'make' of structs, all of them nought. -/
theorem k_mkW {t e : TypeId} {x y : Operand} {l c n w : Nat} {k1 k2 : IntKind} {m1 m2 : Int} {inf : TypeInfo} {z : Value} {H' : Heap} (Z : List Seg) (q : Nat → Nat → SV) [hu : Und P t (.slice e)] [hi : Inf P e inf] [hN : LenN H n] [hm1 : IsN m1 l] [hm2 : IsN m2 c] (hx : ev T x = .s (.int k1 m1) := by rfl) (hy : ev T y = .s (.int k2 m2) := by rfl) (hlc : l ≤ c := by omega) (hc2 : c ≤ 1000000 := by omega) (hbb : Nat.ble (inf.bytes * 1000000) 281474976710656 = true := by exact rfl)
    (hs : inf.size = w := by exact rfl) (hw : 0 < w := by exact Nat.le_of_ble_eq_true rfl) (hz : inf.zero = some z := by exact rfl) (hZ : rowOk Z z.cells = true := by exact rfl) (hZn : sizeS Z = w := by exact rfl) (hid : Z.all (Seg.idB fun _ => false) = true := by exact rfl) (hq : ∀ i j, i < c → j < w → q i j = cellsF Z j := by exact fun _ _ _ _ => rfl) (hH : H ++ [some (Blk.mk true [.rows c w q])] = H' := by repeat (first | exact happ_0 | apply happ_s)) :
    LOk P ⟨d, .makeSlice t x y, ty, pos, af, g⟩ T H H' (.s (.slice n 0 0 l c)) [] [] := by
  subst hH
  have hc : inf.bytes * c ≤ 281474976710656 := Nat.le_trans (Nat.mul_le_mul_left _ hc2) (Nat.le_of_ble_eq_true hbb)
  refine lok_new [] (fun _ h => by cases h) fun H0 hl0 _ => ?_
  have hn := hN.h
  subst hn
  have e1 := hm1.h
  have e2 := hm2.h
  subst e1; subst e2
  intro W ρ a w' hH hf hW ho next Q hQ
  obtain ⟨h1, h2⟩ := two (op := .makeSlice t x y) rfl ho hx hy
  simp only [AV.rep, AV.rep0, SV.rep] at h1 h2
  have hm := run_make (P := P) w' t e inf z hu.h hi.h hz k1 k2 (l : Int) (c : Int) (by omega) (by omega) (by
    have h : ((inf.bytes * c : Nat) : Int) ≤ 281474976710656 := by omega
    rwa [Int.natCast_mul] at h) (by omega)
  simp only [Int.toNat_natCast, hs] at hm
  have hrun : (execOp a.eval ⟨d, .makeSlice t x y, ty, pos, af, g⟩).run P w' = .ok (.value (.slice (some ⟨w'.heap.size, 0, none⟩) l c)) (w'.alloc (.cells (madeCells z.cells (c * w)) e)) := by
    simp [execOp, h1, h2, Sem.run_bind, hm]
  rw [hrun]
  obtain ⟨hzs, hzr⟩ := rowOk_rep hZ
  obtain ⟨ρ', k3, k4, _⟩ := nx_alloc (t := e) hH (hf _ (Nat.le_refl _) (by simp)) hW (cells := madeCells z.cells (c * w)) (segs := [.rows c w q]) (fun ρ' _ i y hy => by
    obtain ⟨hi, rfl⟩ := atS_rowsW hy
    have hm := Nat.mod_lt i hw
    obtain ⟨x, hx⟩ := atS_some (l := Z) (i := i % w) (by omega)
    obtain ⟨v, hv, hc⟩ := hzr ρ' _ x hx
    refine ⟨v, ?_, ?_⟩
    · have hsz : z.cells.size = w := by omega
      have : i % z.cells.size < z.cells.size := by rw [hsz]; exact hm
      have hv : z.cells[i % w]? = some v := hv
      rw [← hsz] at hv
      simp only [madeCells, Array.getElem?_map, Array.getElem?_range, hi, if_true, Option.map_some]
      rw [getElem!_pos z.cells (i % z.cells.size) this]
      rw [Array.getElem?_eq_getElem this] at hv
      exact hv
    · rw [hq _ _ (div_lt' hi) hm, show cellsF Z (i % w) = x by simp [cellsF, hx]]
      exact joined (.inr ⟨rfl, atS_idB hid hx⟩) hc)
  exact hQ _ _ ⟨ρ', W, k3, w'.heap.size, 0, by rw [← hl0]; exact k4, rfl⟩
/-- Rows put behind rows, where there is room. -/
theorem k_apiW (q' : Nat → Nat → SV) {x y : Operand} {t tx e rt : TypeId} {id n m dc c r w : Nat} {q g2 : Nat → Nat → SV} {inf : TypeInfo} {H' : Heap} [hu : Und P t (.slice e)] [hux : Und P tx (.slice e)] [hi : Inf P e inf] (hx : ev T x = .s (.slice id 0 0 n dc) := by rfl) (hy : ev T y = .s (.fz m w g2) := by rfl) (hb : hget H id = some ⟨true, [.rows c w q]⟩ := by rfl) (hsz : inf.size = w := by exact rfl) (hw : 0 < w := by exact Nat.le_of_ble_eq_true rfl) (h0 : 0 < m := by exact Nat.le_of_ble_eq_true rfl) (hdc : n + m ≤ dc := by omega) (hc : n + m ≤ c := by omega) (hr : n + m = r := by rfl) (hg : ∀ i j, i < m → j < w → q' (n + i) j = g2 i j) (hg2 : ∀ i j, ¬(n ≤ i ∧ i < n + m) → i < c → j < w → q' i j = q i j) (hH : H.set id (some ⟨true, [.rows c w q']⟩) = H' := by repeat (first | exact hset_0 | apply hset_s)) :
    LOk P ⟨d, .call ⟨.builtin .append, #[x, y], #[t, tx]⟩, rt, pos, af, g⟩ T H H' (.s (.slice id 0 0 r dc)) [id] [id] := by
  subst hH; subst hr
  have hlt := hget_lt hb
  refine lok_set [id] (fun j hj => by simp at hj; subst hj; exact hlt) (by simp) fun H0 hl hag => ?_
  intro W ρ a w' hH hnn hW ho next Q hq
  have k1 : (ev T x).rep ρ (a.eval x) := ho x (by simp [Op.operands, Call.operands])
  have k2 : (ev T y).rep ρ (a.eval y) := ho y (by simp [Op.operands, Call.operands])
  rw [hx] at k1
  rw [hy] at k2
  obtain ⟨b, o, hρ, k1⟩ := k1
  obtain ⟨news, hS, hnr, _⟩ := (asrc_fz (P := P) (H := H) (n := m) (g := g2) hw hux.h).2 _ W ρ w' _ (fun _ h => by cases h) hH k2
  have hb0 : hget H0 id = some ⟨true, [.rows c w q]⟩ := (hag id (by simp)).trans hb
  obtain ⟨⟨cells, tt, fr, g1, g2', _, g4⟩, hWb⟩ := hH.rep id b o _ hρ hb0
  have hfr := g2' rfl
  subst hfr
  have hp : PutS [.rows c w q] (n * w) (m * w) [.rows m w g2] [.rows c w q'] := .rowsW hw h0 hc hg hg2
  have hfit := fits g4 hp
  have hnl : news.length = m * w := hS.newsLen
  have hst := run_storeCells_at P b (o + n * w) tt news 0 cells w' g1 (by rw [hnl]; omega) hS.one
  rw [Nat.add_zero] at hst
  have hrun : (execOp a.eval ⟨d, .call ⟨.builtin .append, #[x, y], #[t, tx]⟩, rt, pos, af, g⟩).run P w' = .ok (.value (.slice (some ⟨b, o, none⟩) (n + m) dc)) (w'.setRow b (cells.toList.take (o + n * w) ++ news ++ cells.toList.drop (o + n * w + news.length)).toArray) := by
    simp only [execOp, resolve, invoke, builtin, List.map_toArray, List.map_cons, List.map_nil, k1]
    have hc2 := hS.cells
    rcases hS.kind with ⟨e', hk⟩ | hk <;> (simp [Builtin.append_, Sem.run_bind, run_underlying hu.h, run_underlying hk, sizeOf, typeInfo, hi.h, hsz, hS.len, hc2, hdc, addr_add]; rw [hst]; simp)
  rw [hrun]
  refine hq _ _ ⟨ρ, W, nx_write hH hW hρ hb0 g1 g4 hp hnl (fun i z hz => ?_) hfit, b, o, hρ, rfl⟩
  exact hnr i z hz
/-- Rows copied into rows. -/
theorem l_cpW (p : Nat) (q' : Nat → Nat → SV) {x y : Operand} {t tx e rt : TypeId} {u : SV} {id ix dl dc n m c w : Nat} {R : List Nat} {q g2 : Nat → Nat → SV} {H' : Heap} [hu : Und P t (.slice e)] [hs : Sz P e w] (hx : ev T x = .s (.slice id 0 ix dl dc)) (hp : ix = p * w) (hy : ev T y = .s u) (hsrc : ASrc P tx w R H u m [.rows m w g2]) (hb : hget H id = some ⟨true, [.rows c w q]⟩) (hw : 0 < w) (hn : min m dl = n) (h0 : 0 < n) (hc : p + n ≤ c) (hg : ∀ i j, i < n → j < w → q' (p + i) j = g2 i j) (hg2 : ∀ i j, ¬(p ≤ i ∧ i < p + n) → i < c → j < w → q' i j = q i j) (hRi : ∀ i ∈ R, i < H.length) (hH : H.set id (some ⟨true, [.rows c w q']⟩) = H') :
    LOk P ⟨d, .call ⟨.builtin .copy, #[x, y], #[t, tx]⟩, rt, pos, af, g⟩ T H H' (.s (.int .i64 (n : Int))) (id :: R) [id] := by
  subst hp
  refine l_copy (sub' := [.rows n w g2]) hx hy hb hsrc hn hu.h hs.h ?_ ?_ hRi hH
  · have h := SubS.rowsW (p := 0) (m := n) (c := m) (g := g2) (g2 := g2) hw (by omega) (fun i j _ _ => by rw [Nat.zero_add])
    rwa [Nat.zero_mul] at h
  · rw [Nat.zero_add]
    exact .rowsW hw h0 hc hg hg2
/-- .. out of rows, of the same memory too. -/
theorem k_cpW (p s : Nat) (g2 q' : Nat → Nat → SV) {x y : Operand} {t tx e rt : TypeId} {id id2 ix iy dl dc n m mc c c2 w : Nat} {b2 : Bool} {q q2 : Nat → Nat → SV} {H' : Heap} [hu : Und P t (.slice e)] [hux : Und P tx (.slice e)] [hs : Sz P e w] (hx : ev T x = .s (.slice id 0 ix dl dc) := by rfl) (hp : ix = p * w := by rfl) (hy : ev T y = .s (.slice id2 0 iy m mc) := by rfl) (hsy : iy = s * w := by rfl) (hb : hget H id = some ⟨true, [.rows c w q]⟩ := by rfl) (hb2 : hget H id2 = some ⟨b2, [.rows c2 w q2]⟩ := by rfl) (hw : 0 < w := by exact Nat.le_of_ble_eq_true rfl) (hn : min m dl = n := by omega) (h0 : 0 < n := by omega) (hc : p + n ≤ c := by omega) (hc2 : s + m ≤ c2 := by omega) (hgs : ∀ i j, i < m → j < w → g2 i j = q2 (s + i) j) (hg : ∀ i j, i < n → j < w → q' (p + i) j = g2 i j) (hg2 : ∀ i j, ¬(p ≤ i ∧ i < p + n) → i < c → j < w → q' i j = q i j) (hlt : id2 < H.length := by exact Nat.le_of_ble_eq_true rfl) (hH : H.set id (some ⟨true, [.rows c w q']⟩) = H' := by repeat (first | exact hset_0 | apply hset_s)) :
    LOk P ⟨d, .call ⟨.builtin .copy, #[x, y], #[t, tx]⟩, rt, pos, af, g⟩ T H H' (.s (.int .i64 (n : Int))) [id, id2] [id] := by
  subst hsy
  refine l_cpW p q' (g2 := g2) hx hp hy (asrc_sl hux.h hb2 ?_) hb hw hn h0 hc hg hg2 (fun i hi => by simp at hi; subst hi; exact hlt) hH
  rw [Nat.zero_add]
  exact .rowsW hw hc2 hgs
/-- Rows made nought. -/
theorem k_clW (p : Nat) (Z : List Seg) (q' : Nat → Nat → SV) {x : Operand} {t e rt : TypeId} {id ix n dc c w : Nat} {q : Nat → Nat → SV} {z : Value} {H' : Heap} [hu : Und P t (.slice e)] (hzv : ∀ w, (zeroValue e).run P w = .ok z w) (hx : ev T x = .s (.slice id 0 ix n dc) := by rfl) (hp : ix = p * w := by rfl) (hb : hget H id = some ⟨true, [.rows c w q]⟩ := by rfl) (hw : 0 < w := by exact Nat.le_of_ble_eq_true rfl) (h0 : 0 < n := by omega) (hc : p + n ≤ c := by omega) (hZ : rowOk Z z.cells = true := by exact rfl) (hZn : sizeS Z = w := by exact rfl) (hid : Z.all (Seg.idB fun _ => false) = true := by exact rfl) (hone : ∀ u ∈ z.cells.toList, u.oneCell' = true) (hg : ∀ i j, i < n → j < w → q' (p + i) j = cellsF Z j) (hg2 : ∀ i j, ¬(p ≤ i ∧ i < p + n) → i < c → j < w → q' i j = q i j) (hH : H.set id (some ⟨true, [.rows c w q']⟩) = H' := by repeat (first | exact hset_0 | apply hset_s)) :
    LOk P ⟨d, .call ⟨.builtin .clear, #[x], #[t]⟩, rt, pos, af, g⟩ T H H' (.s .junk) [id] [id] := by
  subst hH; subst hp
  have hlt := hget_lt hb
  refine lok_set [id] (fun j hj => by simp at hj; subst hj; exact hlt) (by simp) fun H0 hl hag => ?_
  intro W ρ a w' hH hnn hW ho next Q hq
  have k1 : (ev T x).rep ρ (a.eval x) := ho x (by simp [Op.operands, Call.operands])
  rw [hx] at k1
  obtain ⟨b, o, hρ, k1⟩ := k1
  have hb0 : hget H0 id = some ⟨true, [.rows c w q]⟩ := (hag id (by simp)).trans hb
  obtain ⟨⟨cells, tt, fr, g1, g2', _, g4⟩, hWb⟩ := hH.rep id b o _ hρ hb0
  have hfr := g2' rfl
  subst hfr
  obtain ⟨hzs, hzr⟩ := rowOk_rep hZ
  have hsz : z.cells.size = w := by omega
  have hnews : (Builtin.zeroCells z.cells n).toList.length = n * w := by simp [Builtin.zeroCells, hsz]
  have hp : PutS [.rows c w q] (p * w) (n * w) [.rows n w fun _ j => cellsF Z j] [.rows c w q'] := .rowsW hw h0 hc (fun i j hi hj => hg i j hi hj) hg2
  have hfit := fits g4 hp
  have hget : ∀ i, i < n * w → ∃ v, (Builtin.zeroCells z.cells n).toList[i]? = some v ∧ z.cells[i % w]? = some v := by
    intro i hi
    have hm := Nat.mod_lt i hw
    have : i % z.cells.size < z.cells.size := by rw [hsz]; exact hm
    refine ⟨z.cells[i % z.cells.size], ?_, ?_⟩
    · have hi' : i < n * z.cells.size := by rw [hsz]; exact hi
      simp only [Builtin.zeroCells, Array.getElem?_toList, Array.getElem?_map, Array.getElem?_range, hi', if_true, Option.map_some]
      rw [getElem!_pos z.cells (i % z.cells.size) this]
    · rw [Array.getElem?_eq_some_iff]
      refine ⟨by rw [hsz]; exact hm, ?_⟩
      congr 1
      rw [hsz]
  have hall : ∀ u ∈ (Builtin.zeroCells z.cells n).toList, u.oneCell' = true := by
    intro u hu
    obtain ⟨i, hi, rfl⟩ := List.mem_iff_getElem.1 hu
    obtain ⟨v, h1, h2⟩ := hget i (by rw [← hnews]; exact hi)
    rw [List.getElem?_eq_getElem hi] at h1
    cases h1
    exact hone _ (Array.mem_toList_iff.2 (Array.mem_of_getElem? h2))
  have hst := run_storeCells_at P b (o + p * w) tt (Builtin.zeroCells z.cells n).toList 0 cells w' g1 (by rw [hnews]; omega) hall
  rw [Nat.add_zero] at hst
  obtain ⟨n, rfl⟩ : ∃ k, n = k + 1 := ⟨n - 1, by omega⟩
  have hrun : (execOp a.eval ⟨d, .call ⟨.builtin .clear, #[x], #[t]⟩, rt, pos, af, g⟩).run P w' = .ok (.value (.tuple #[])) (w'.setRow b (cells.toList.take (o + p * w) ++ (Builtin.zeroCells z.cells (n + 1)).toList ++ cells.toList.drop (o + p * w + (Builtin.zeroCells z.cells (n + 1)).toList.length)).toArray) := by
    simp only [execOp, resolve, invoke, builtin, List.map_toArray, List.map_cons, List.map_nil, k1]
    simp [Builtin.clear_, Sem.run_bind, run_underlying hu.h, hzv]
    rw [hst]; simp
  rw [hrun]
  refine hq _ _ ⟨ρ, W, nx_write hH hW hρ hb0 g1 g4 hp hnews (fun i y hy => ?_) hfit, trivial⟩
  obtain ⟨hi, rfl⟩ := atS_rowsW hy
  obtain ⟨v, h1, h2⟩ := hget i hi
  have hm := Nat.mod_lt i hw
  obtain ⟨x', hx'⟩ := atS_some (l := Z) (i := i % w) (by omega)
  obtain ⟨v', hv', hc'⟩ := hzr ρ _ x' hx'
  have hv' : z.cells[i % w]? = some v' := hv'
  rw [h2] at hv'
  cases hv'
  refine ⟨v, h1, ?_⟩
  rw [show cellsF Z (i % w) = x' by simp [cellsF, hx']]
  exact joined (.inr ⟨rfl, atS_idB hid hx'⟩) hc'
/-- One of rows, set. -/
theorem k_stW (i : Nat) (q' : Nat → Nat → SV) {t : TypeId} {x y : Operand} {id ix c w : Nat} {q : Nat → Nat → SV} {row : List Seg} {H' : Heap} [hs : Sz P t w] (hx : ev T x = .s (.ptr id 0 ix) := by rfl) (hi : ix = i * w := by rfl) (hy : ev T y = .agg row := by rfl) (hb : hget H id = some ⟨true, [.rows c w q]⟩ := by rfl) (hw : 0 < w := by exact Nat.le_of_ble_eq_true rfl) (hr : sizeS row = w := by exact rfl) (hid : row.all (Seg.idB fun _ => false) = true := by exact rfl) (hc : i < c := by omega) (hg : ∀ j, j < w → q' i j = cellsF row j) (hg2 : ∀ k j, k ≠ i → k < c → j < w → q' k j = q k j) (hH : H.set id (some ⟨true, [.rows c w q']⟩) = H' := by repeat (first | exact hset_0 | apply hset_s)) :
    LOk P ⟨d, .store t x y, ty, pos, af, g⟩ T H H' (.s .junk) [id] [id] := by
  subst hH; subst hi
  refine l_store (n := w) (sub := [.rows 1 w fun _ j => cellsF row j]) hx hb (fun ρ v h => ?_) ?_ hs.h
  · rw [hy] at h
    obtain ⟨h1, h2, h3⟩ := rep_cells_agg h hr
    exact ⟨h1, row_noid hr hid (fun _ _ => rfl) h2, h3⟩
  · rw [Nat.zero_add]
    have h := PutS.rowsW (m := 1) (p := i) (c := c) (g := q) (g2 := fun _ j => cellsF row j) (g' := q') hw Nat.zero_lt_one (by omega) (fun k j hk hj => by
      obtain rfl : k = 0 := by omega
      rw [Nat.add_zero]; exact hg j hj) (fun k j hk hkc hj => hg2 k j (by omega) hkc hj)
    rwa [Nat.one_mul] at h
end
end Go.Bx
end

section
/- Rows built to be written; one of their cells set; frozen; two rows' overlaps. No program. -/
namespace Go.Bx
theorem conv_slW {H : Heap} {id len cap n w : Nat} {k : Blk} {g g' : Nat → Nat → SV} (hb : hget H id = some k) (hro : k.rw = false) (hs : k.segs = [.rows n w g]) (hn : len ≤ n) (hc : len ≤ cap) (hg : ∀ i j, i < len → j < w → g' i j = g i j) :
    AConv [id] H (.s (.slice id 0 0 len cap)) (.s (.fz len w g')) := by
  rintro c W ρ w0 u hcc hH ⟨b, o, h1, rfl⟩
  obtain ⟨⟨cells, t, fr, g1, g2, g3, g4⟩, _⟩ := hH.rep id b o k h1 ((hcc id (by simp)).trans hb)
  refine .inr ⟨b, o, cap, cells, rfl, hc, g3 hro, fun i j hi hj => ?_⟩
  have hlt := row_lt (i := i) (n := n) (w := w) (j := j) (by omega) hj
  obtain ⟨v, hv, hr⟩ := g4 (i * w + j) _ (by rw [hs]; exact rowsW_at g hlt)
  rw [(row_div hj).1, (row_div hj).2] at hr
  rw [hg i j hi hj]
  exact ⟨v, hv, hr.1.1, hr.2⟩
section
variable {E : Env} {P : Program} {T : Tm} {H : Heap} {d : Option Tmp} {ty : TypeId} {pos : String} {af : Array Edge} {g : Option (Nat × Bool)}
/-- A slice's rows are not written any more: they become a value. -/
theorem frz_slW (t : Nat) (g' : Nat → Nat → SV) {id len cap n w : Nat} {g : Nat → Nat → SV} {H' : Heap} (hx : look T t = .s (.slice id 0 0 len cap) := by rfl) (hb : hget H id = some ⟨true, [.rows n w g]⟩ := by rfl) (hn : len ≤ n := by omega) (hc : len ≤ cap := by omega) (hg : ∀ i j, i < len → j < w → g' i j = g i j) (hH : H.set id none = H' := by repeat (first | exact hset_0 | apply hset_s)) : Weak E T H ((t, .s (.fz len w g')) :: T) H' := by
  have hlt := hget_lt hb
  refine (weak_frz id hb rfl).trans ((weak_conv t hx (conv_slW (k := ⟨false, [.rows n w g]⟩) (by rw [hget_set hlt, if_pos rfl]) rfl rfl hn hc hg)).trans (weak_drop id ?_))
  rw [List.set_set]; exact hH
/-- A literal slice of one struct, memory of its own. -/
theorem k_bsW {t e : TypeId} {n0 w : Nat} {parts : Array (Nat × Operand)} {ps : List (Nat × Operand)} {l : List (Nat × AV)} {Z row : List Seg} {H' : Heap} (q : Nat → Nat → SV) [hu : Und P t (.slice e)] [he : Sz P e w] [hz : Zv P e Z] [hN : LenN H n0] (hps : parts.toList = ps := by rfl) (hl : PartL T ps l := by exact (pc (k := .nil))) (hbig : 1 * w ≤ 16777216 := by exact Nat.le_of_ble_eq_true rfl) (hZn : sizeS Z = w := by rfl) (hs : fillS (fun i => some (i * w, w)) (List.replicate 1 Z).flatten l = some row := by exact rfl) (hr : sizeS row = w := by exact rfl) (hid : row.all (Seg.idB fun _ => false) = true := by exact rfl) (hq : ∀ j, j < w → q 0 j = cellsF row j := by exact fun _ _ => rfl) (h0 : 0 < 1 * w := by exact Nat.le_of_ble_eq_true rfl) (hH : H ++ [some (Blk.mk true [.rows 1 w q])] = H' := by repeat (first | exact happ_0 | apply happ_s)) : LOk P ⟨d, .buildSlice t 1 parts, ty, pos, af, g⟩ T H H' (.s (.slice n0 0 0 1 1)) [] [] := by
  obtain ⟨z, hz1, hz2⟩ := hz.h
  have hzs : z.cells.size = w := by rw [(rowOk_rep hz2).1, hZn]
  have hZ1 : rowOk (List.replicate 1 Z).flatten ((Array.range (1 * w)).map fun i => z.cells[i % z.cells.size]!) = true := by
    have := range_rep z.cells 1
    rw [hzs] at this
    rw [hzs, this]
    exact rowOk_rep_n hz2 1
  exact l_bsl hps hl hu.h he.h hbig hz1 hZ1 hs h0 (fun ρ get h => row_noid hr hid hq h) hN.h hH
/-- One of a row's cells, set. -/
theorem k_stC (i k : Nat) (q' : Nat → Nat → SV) {t : TypeId} {x y : Operand} {id ix c w : Nat} {q : Nat → Nat → SV} {v : SV} {H' : Heap} [hs : Sz P t 1] (hx : ev T x = .s (.ptr id 0 ix) := by rfl) (hi : ix = i * w + k := by rfl) (hy : ev T y = .s v := by rfl) (hb : hget H id = some ⟨true, [.rows c w q]⟩ := by rfl) (hj : v ≠ .junk := by exact fun h => by cases h) (hid : v.idB (fun _ => false) = true := by exact rfl) (hk : k < w := by exact Nat.le_of_ble_eq_true rfl) (hc : i < c := by omega) (hg : q' i k = v) (hg2 : ∀ a b, ¬(a = i ∧ b = k) → a < c → b < w → q' a b = q a b) (hH : H.set id (some ⟨true, [.rows c w q']⟩) = H' := by repeat (first | exact hset_0 | apply hset_s)) :
    LOk P ⟨d, .store t x y, ty, pos, af, g⟩ T H H' (.s .junk) [id] [id] := by
  subst hH; subst hi
  have hlt : i * w + k < c * w := row_lt hc hk
  refine l_store (n := 1) (sub := [.one (.noid v)]) hx hb (fun ρ u h => ?_) ?_ hs.h
  · rw [hy] at h
    obtain ⟨h1, h2, h3⟩ := rep_cells_s h hj
    refine ⟨h1, fun j y hy => ?_, h3⟩
    obtain ⟨rfl, rfl⟩ := atS_one1 hy
    obtain ⟨u', hu', hr'⟩ := h2 0 v (by simp [atS, Seg.size, Seg.at])
    exact ⟨u', hu', joined (.inr ⟨rfl, hid⟩) hr'⟩
  · rw [Nat.zero_add]
    refine ⟨⟨Nat.zero_lt_one, by simp [sizeS, Seg.size]; omega⟩, fun j y hy => ?_⟩
    obtain ⟨hj', rfl⟩ := atS_rowsW hy
    have hm := Nat.mod_lt j (show 0 < w by omega)
    split
    · rename_i h
      obtain rfl : j = i * w + k := by omega
      rw [(row_div hk).1, (row_div hk).2, Nat.sub_self, hg]
      simp [atS, Seg.size, Seg.at]
    · rename_i h
      rw [rowsW_at q hj', hg2 _ _ (fun hh => h ?_) (div_lt' hj') hm]
      have e := Nat.div_add_mod' j w
      rw [hh.1, hh.2] at e
      omega
/-- Two rows that may be written do not overlap. -/
theorem k_ovl {f : FuncId} {fn : Func} {tS tR e : TypeId} {x y : Operand} {at_ : Array TypeId} {id id2 b1 i1 l1 c1 b2 i2 l2 c2 n1 n2 w : Nat} {q1 q2 : Nat → Nat → SV} (hf : P.funcs[f]? = some fn) (hname : (fn.name == "runtime.NumGoroutine") = false) (hbn : fn.body.isNone = true) (hnx : Extern.findNext fn = none) (he : Extern.find fn = some (Extern.SlicesOverlaps.overlaps #[tS, tS] #[tR])) [hu : Und P tS (.slice e)] [hs : Sz P e w] (hx : ev T x = .s (.slice id b1 i1 l1 c1) := by rfl) (hy : ev T y = .s (.slice id2 b2 i2 l2 c2) := by rfl) (hb : hget H id = some ⟨true, [.rows n1 w q1]⟩ := by rfl) (hb2 : hget H id2 = some ⟨true, [.rows n2 w q2]⟩ := by rfl) (hne : id ≠ id2 := by decide) (hw : 0 < w := by exact Nat.le_of_ble_eq_true rfl) (hn2 : 0 < n2 := by omega) :
    LOk P ⟨d, .call ⟨.value (.func f), #[x, y], at_⟩, ty, pos, af, g⟩ T H H (.s (.bool false)) [id, id2] [] :=
  lok_read [id, id2] (fun i hi => by
    simp at hi
    rcases hi with rfl | rfl
    · exact hget_lt hb
    · exact hget_lt hb2) fun H0 hl hag => .pure fun W ρ a w0 hH ho => by
    have k1 : (ev T x).rep ρ (a.eval x) := ho x (by simp [Op.operands, Call.operands])
    have k2 : (ev T y).rep ρ (a.eval y) := ho y (by simp [Op.operands, Call.operands])
    rw [hx] at k1
    rw [hy] at k2
    obtain ⟨ba, oa, hρ1, k1⟩ := k1
    obtain ⟨bb, ob, hρ2, k2⟩ := k2
    have e1 : hget H0 id = some ⟨true, [.rows n1 w q1]⟩ := (hag id (by simp)).trans hb
    have e2 : hget H0 id2 = some ⟨true, [.rows n2 w q2]⟩ := (hag id2 (by simp)).trans hb2
    obtain ⟨⟨ca, ta, fra, g1, g2, _, g3⟩, _⟩ := hH.rep id ba oa _ hρ1 e1
    obtain ⟨⟨cb, tb, frb, h1, h2, _, h3⟩, _⟩ := hH.rep id2 bb ob _ hρ2 e2
    obtain rfl := g2 rfl
    obtain rfl := h2 rfl
    have hbb : ba ≠ bb := by
      rintro rfl
      have := (hH.apart id id2 ba oa ob _ _ hne hρ1 hρ2 e1 e2).1
      cases this
    have hcb : cb.size ≠ 0 := by
      obtain ⟨v, hv, _⟩ := h3 0 _ (rowsW_at q2 (Nat.mul_pos hn2 hw))
      have hv : cb[ob + 0]? = some v := hv
      have := (Array.getElem?_eq_some_iff.1 hv).1
      omega
    refine ⟨.bool false, ?_, rfl⟩
    have hr := Lib.run_overlaps_apart w0 tS tR e hu.h w hs.h ⟨ba, oa + b1 + i1, none⟩ ⟨bb, ob + b2 + i2, none⟩ l1 c1 l2 c2 hbb ta tb ca.size cb.size (by simp [World.shape?, g1]) (by simp [World.shape?, h1]) hcb (by simp [World.frozen?, g1]) (by simp [World.frozen?, g1])
    have hc : (execOp a.eval ⟨d, .call ⟨.value (.func f), #[x, y], at_⟩, ty, pos, af, g⟩).run P w0 = (callFunc f #[a.eval x, a.eval y]).run P w0 := by
      simp [execOp, resolve, Deferred.ofValue, invoke, Act.eval, Sem.run_bind]
    rw [hc, run_callFunc_extern hf hname hbn hnx he, k1, k2, hr]
    rfl
end
end Go.Bx
end

section
/- Pieces, as lists. No program. -/
open Go Go.Bx
namespace Go.Proofs.X
abbrev Pc := Nat × List Int
abbrev p0 : Pc := (0, [])
abbrev PR (p : Nat × List Int) : List Seg := [.one (.int .u16 ((p.1 : Nat) : Int)), .one (.fzi .u8 p.2)]
/-- Rows of pieces. -/
abbrev gP (F : Nat → Nat × List Int) : Nat → Nat → SV := rowsF fun i => PR (F i)
abbrev PARS (L : List (Nat × List Int)) : SV := .fz L.length 2 (gP fun i => L.getD i p0)
section
variable {P : Program} {T : Tm} {H : Heap} {d : Option Tmp} {ty : TypeId} {pos : String} {af : Array Edge} {g : Option (Nat × Bool)}
/-- A piece, read. -/
theorem k_ldP {F : Nat → Nat × List Int} {i : Nat} {t : TypeId} {x : Operand} [ha : Ag P t true] [hz : Sz P t 2] (hx : ev T x = .s (.fptr 2 (gP F i) 0 0) := by rfl) : LOk P ⟨d, .load t x, ty, pos, af, g⟩ T H H (.agg (PR (F i))) [] [] := l_loadf_agg (segs := PR (F i)) hx (Nat.le_refl _) (.whole rfl) ha.h hz.h
/-- .. out of memory that may be written. -/
theorem k_ldM (i : Nat) {F : Nat → Nat × List Int} {id ix c : Nat} {b : Bool} {t : TypeId} {x : Operand} [ha : Ag P t true] [hz : Sz P t 2] (hx : ev T x = .s (.ptr id 0 ix) := by rfl) (hi : ix = i * 2 := by rfl) (hb : hget H id = some ⟨b, [.rows c 2 (gP F)]⟩ := by rfl) (hc : i < c := by omega) : LOk P ⟨d, .load t x, ty, pos, af, g⟩ T H H (.agg (PR (F i))) [id] [] := by
  subst hi
  exact a_load_rowA (rows := fun i => PR (F i)) hx hb rfl hc rfl
end
/-- The type ahead of a piece. -/
def lastT (L : List (Nat × List Int)) : Nat → Nat
  | 0 => 0
  | i + 1 => (L.getD i p0).1
end Go.Proofs.X
end

section
open Go Go.Bx Go.Proofs
namespace Go.Proofs.X
theorem spl_all {B : List Int} {n : Nat} (hB : B.length = n) : spl (z n) (B.take n) 0 n n = B := by
 have h := spl_app [] (B.take n) (z n) 0 n n rfl (by rw [List.length_take]; omega) (by omega) (by simp [z])
 have h2 : spl (z n) (B.take n) 0 n n = B.take n ++ (z n).drop n := h
 rw [h2, List.take_of_length_le (by omega)]; simp [z]
attribute [local irreducible] wd dg be gN
set_option maxRecDepth 100000 in
set_option maxHeartbeats 4000000 in
theorem twin_n (t : Nat) (A : List Int) (hA : A.length ≤ 1000000) : Con Tryz.prog 32 [.agg (PR (t, A))] [] (.agg (PR (t, A))) [] := by
 refine con_in 9 Tryz.func32 rfl rfl (m := 0) rfl ?_
 intro E hP hn hE
 refine w_seq ?_
 refine g_reg hP hn ?_
 refine s_op k_bx ?_
 refine s_op k_al ?_
 refine s_nil trivial ?_
 refine n_wp ?_
 refine w_seq ?_
 refine g_reg hP hn ?_
 refine s_op k_fa ?_
 refine s_op k_ld ?_
 refine s_op (k_call [] (con := clone_c A hA)) ?_
 refine s_op (k_call [] (con := clip_f A)) ?_
 refine s_op k_fa ?_
 refine s_st k_st ?_
 refine s_nil trivial ?_
 refine n_wp ?_
 refine w_seq ?_
 refine g_reg hP hn ?_
 refine s_op k_ld ?_
 refine s_st k_st ?_
 refine s_nil trivial ?_
 refine n_wp ?_
 refine w_ret ?_
 exact d_ret hP hn hE [] (r_cell Tryz.results32)

set_option maxRecDepth 100000 in
set_option maxHeartbeats 4000000 in
theorem sump_n (B : List Int) (hB : B.length = 32) : Con Tryz.prog 108 [.s (.fzi .u8 B)] [] (.agg [.ints .u8 32 B]) [] := by
 refine con_in 7 Tryz.func108 rfl rfl (m := 0) rfl ?_
 intro E hP hn hE
 refine w_seq ?_
 refine g_reg hP hn ?_
 refine s_op k_al ?_
 refine s_nil trivial ?_
 refine n_wp ?_
 refine w_seq ?_
 refine g_reg hP hn ?_
 refine s_op k_sl ?_
 refine s_op k_mv ?_
 refine s_op (k_cpn 32) ?_
 refine s_nil trivial ?_
 refine n_wp ?_
 refine w_seq ?_
 refine g_reg hP hn ?_
 refine s_op k_ld ?_
 refine s_st k_st ?_
 refine s_nil trivial ?_
 refine n_wp ?_
 rw [show spl (zs (List.replicate 32 0)) (B.take 32) 0 32 32 = B from spl_all hB]
 refine w_ret ?_
 exact d_ret hP hn hE [] (r_cell Tryz.results108)

set_option maxRecDepth 100000 in
set_option maxHeartbeats 4000000 in
theorem work_n (B : List Int) (h : 0 < B.length) : Con Tryz.prog 79 [.s (.fzi .u8 B)] [] (.s (.bool (decide (B.getD 0 0 ≤ 12)))) [] := by
 refine con_in 7 Tryz.func79 rfl rfl (m := 0) rfl ?_
 intro E hP hn hE
 refine w_seq ?_
 refine g_reg hP hn ?_
 refine s_op k_as ?_
 refine s_nil trivial ?_
 refine n_wp ?_
 refine w_seq ?_
 refine g_reg hP hn ?_
 refine s_op k_mv ?_
 refine s_op k_ix ?_
 refine s_op k_ld ?_
 refine s_op k_leq ?_
 refine s_op k_as ?_
 refine s_nil trivial ?_
 refine n_wp ?_
 refine w_ret ?_
 exact d_ret hP hn hE [] (by first | exact r_tmp Tryz.results79 | exact r_tmpa Tryz.results79)

set_option maxRecDepth 100000 in
set_option maxHeartbeats 4000000 in
theorem maypar_y (L : List (Nat × List Int)) (hLb : L.length ≤ 1000000) (hall : ∀ i, i < L.length → lastT L i < (L.getD i p0).1) : Con Tryz.prog 26 [.s (PARS L)] [] (.s (.bool true)) [] := by
 refine con_in 19 Tryz.func26 rfl rfl (m := 0) rfl ?_
 intro E hP hn hE
 refine w_seq ?_
 refine g_reg hP hn ?_
 refine s_op k_as ?_
 refine s_nil trivial ?_
 refine n_wp ?_
 refine w_seq ?_
 refine g_reg hP hn ?_
 refine s_op k_as ?_
 refine s_nil trivial ?_
 refine n_wp ?_
 refine w_seq ?_
 refine w_seq ?_
 refine g_reg hP hn ?_
 refine s_op k_mv ?_
 refine s_op k_len ?_
 refine s_op k_mv ?_
 refine s_nil trivial ?_
 refine n_wp ?_
 refine w_block ?_
 refine c_loop (fun m_ T H => ∃ i, i ≤ L.length ∧ m_ = L.length - i ∧ (∀ k, k < i → lastT L k < (L.getD k p0).1) ∧ T = [(3, .s (.int .u16 ((lastT L i : Nat) : Int))), (6, .s (PARS L)), (7, .s (.int .i64 ((L.length : Nat) : Int))), (8, .s (.int .i64 ((i : Nat) : Int)))] ∧ H = []) (L.length) ⟨0, by omega, rfl, fun k hk => absurd hk (Nat.not_lt_zero k), rfl, rfl⟩ (wk hE []) ?_
 rintro n_ T_ H_ ⟨i, hi, rfl, hup, rfl, rfl⟩
 refine w_seq ?_
 refine g_reg hP hn ?_
 refine s_op k_lss ?_
 refine s_nil trivial ?_
 refine n_wp ?_
 refine w_seq ?_
 refine w_if rfl (fun h_t9 => ?_) (fun h_t9 => ?_)
 · skip
   have hlt := hall i h_t9
   refine w_skip ?_
   refine n_wp ?_
   refine w_seq ?_
   refine w_block ?_
   refine w_seq ?_
   refine g_reg hP hn ?_
   refine s_op k_ix ?_
   refine s_op k_ldP ?_
   refine s_op k_al ?_
   refine s_st k_st ?_
   refine s_nil trivial ?_
   refine n_wp ?_
   refine w_seq ?_
   refine w_seq ?_
   refine g_reg hP hn ?_
   refine s_op k_fa ?_
   refine s_op k_ld ?_
   refine s_op k_mv ?_
   refine s_op k_leq ?_
   refine s_nil trivial ?_
   refine n_wp ?_
   refine w_F rfl ?_ (decide_eq_false (by omega))
   refine w_skip ?_
   refine n_wp ?_
   refine g_reg hP hn ?_
   refine s_op k_fa ?_
   refine s_op k_ld ?_
   refine s_op k_as ?_
   refine s_nil trivial ?_
   refine n_blo ?_
   refine n_wp ?_
   refine g_reg hP hn ?_
   refine s_op k_add ?_
   refine s_op k_mv ?_
   refine s_nil trivial ?_
   exact n_round (L.length - (i + 1)) (by omega) ⟨i + 1, by omega, rfl, fun k hk => (Nat.lt_succ_iff_lt_or_eq.1 hk).elim (hup k) (fun e => e ▸ hlt), rfl, rfl⟩ (wk hE [])
 · skip
   refine w_exit ?_
   refine x_thn ?_
   refine x_thn ?_
   refine x_eq ?_
   refine n_wp ?_
   refine w_seq ?_
   refine g_reg hP hn ?_
   refine s_op k_as ?_
   refine s_nil trivial ?_
   refine n_wp ?_
   refine w_ret ?_
   exact d_ret hP hn hE [] (by first | exact r_tmp Tryz.results26 | exact r_tmpa Tryz.results26)

set_option maxRecDepth 100000 in
set_option maxHeartbeats 4000000 in
theorem maypar_no (L : List (Nat × List Int)) (hLb : L.length ≤ 1000000) (j : Nat) (hj : j < L.length) (hno : ¬ lastT L j < (L.getD j p0).1) : Con Tryz.prog 26 [.s (PARS L)] [] (.s (.bool false)) [] := by
 refine con_in 19 Tryz.func26 rfl rfl (m := 0) rfl ?_
 intro E hP hn hE
 refine w_seq ?_
 refine g_reg hP hn ?_
 refine s_op k_as ?_
 refine s_nil trivial ?_
 refine n_wp ?_
 refine w_seq ?_
 refine g_reg hP hn ?_
 refine s_op k_as ?_
 refine s_nil trivial ?_
 refine n_wp ?_
 refine w_seq ?_
 refine w_seq ?_
 refine g_reg hP hn ?_
 refine s_op k_mv ?_
 refine s_op k_len ?_
 refine s_op k_mv ?_
 refine s_nil trivial ?_
 refine n_wp ?_
 refine w_block ?_
 refine c_loop (fun m_ T H => ∃ i, i ≤ L.length ∧ m_ = L.length - i ∧ (∀ k, k < i → lastT L k < (L.getD k p0).1) ∧ T = [(3, .s (.int .u16 ((lastT L i : Nat) : Int))), (6, .s (PARS L)), (7, .s (.int .i64 ((L.length : Nat) : Int))), (8, .s (.int .i64 ((i : Nat) : Int)))] ∧ H = []) (L.length) ⟨0, by omega, rfl, fun k hk => absurd hk (Nat.not_lt_zero k), rfl, rfl⟩ (wk hE []) ?_
 rintro n_ T_ H_ ⟨i, hi, rfl, hup, rfl, rfl⟩
 refine w_seq ?_
 refine g_reg hP hn ?_
 refine s_op k_lss ?_
 refine s_nil trivial ?_
 refine n_wp ?_
 refine w_seq ?_
 have h_t9 : i < L.length := by
  rcases Nat.lt_or_ge i L.length with h | h
  · exact h
  · exact absurd (hup j (by omega)) hno
 refine w_T rfl ?_ (decide_eq_true h_t9)
 refine w_skip ?_
 refine n_wp ?_
 refine w_seq ?_
 refine w_block ?_
 refine w_seq ?_
 refine g_reg hP hn ?_
 refine s_op k_ix ?_
 refine s_op k_ldP ?_
 refine s_op k_al ?_
 refine s_st k_st ?_
 refine s_nil trivial ?_
 refine n_wp ?_
 refine w_seq ?_
 refine w_seq ?_
 refine g_reg hP hn ?_
 refine s_op k_fa ?_
 refine s_op k_ld ?_
 refine s_op k_mv ?_
 refine s_op k_leq ?_
 refine s_nil trivial ?_
 refine n_wp ?_
 refine w_if rfl (fun h_t15 => ?_) (fun h_t15 => ?_)
 · skip
   refine w_seq ?_
   refine g_reg hP hn ?_
   refine s_op k_as ?_
   refine s_nil trivial ?_
   refine n_wp ?_
   refine w_ret ?_
   refine r_thn ?_
   refine r_blo ?_
   refine r_thn ?_
   refine r_thn ?_
   refine r_blo ?_
   refine r_thn ?_
   exact d_ret hP hn hE [] (by first | exact r_tmp Tryz.results26 | exact r_tmpa Tryz.results26)
 · skip
   have hlt : lastT L i < (L.getD i p0).1 := by omega
   refine w_skip ?_
   refine n_wp ?_
   refine g_reg hP hn ?_
   refine s_op k_fa ?_
   refine s_op k_ld ?_
   refine s_op k_as ?_
   refine s_nil trivial ?_
   refine n_blo ?_
   refine n_wp ?_
   refine g_reg hP hn ?_
   refine s_op k_add ?_
   refine s_op k_mv ?_
   refine s_nil trivial ?_
   exact n_round (L.length - (i + 1)) (by omega) ⟨i + 1, by omega, rfl, fun k hk => (Nat.lt_succ_iff_lt_or_eq.1 hk).elim (hup k) (fun e => e ▸ hlt), rfl, rfl⟩ (wk hE [])

set_option maxRecDepth 100000 in
set_option maxHeartbeats 4000000 in
theorem readp_n (B : List Int) (hB : B.length = 41 ∨ B.length = 73) (hU : U8' B) : Con Tryz.prog 78 [.s (.fzi .u8 B)] [] (.agg [.one (.int .u8 (B.getD 0 0)), .one (.int .u64 (((gN ((B.drop 1).take (B.length - 1)) 8) : Nat) : Int)), .ints .u8 32 ((B.drop 9).take 32)]) [] := by
 refine con_in 19 Tryz.func78 rfl rfl (m := 0) rfl ?_
 intro E hP hn hE
 refine w_seq ?_
 refine g_reg hP hn ?_
 refine s_op k_al ?_
 refine s_nil trivial ?_
 refine n_wp ?_
 refine w_seq ?_
 refine g_reg hP hn ?_
 refine s_op k_mv ?_
 refine s_op k_sl ?_
 refine s_op (k_call [] (con := get_n ((B.drop 1).take (B.length - 1)) 8 (by decide) (by decide) (by simp; omega) (U8'_take (U8'_drop hU 1) _))) ?_
 refine s_op k_mv ?_
 refine s_op k_ex ?_
 refine s_op k_ex ?_
 refine s_op k_as ?_
 refine s_op k_as ?_
 refine s_nil trivial ?_
 refine n_wp ?_
 refine w_seq ?_
 refine g_any hP hn ?_
 refine s_op k_mv ?_
 refine s_op k_ix ?_
 refine s_op k_ld ?_
 refine s_op k_mv ?_
 refine s_op k_mv ?_
 refine s_op k_sl ?_
 refine s_op (k_call [] (con := sump_n ((B.drop 9).take 32) (by simp; omega))) ?_
 refine s_op k_bd ?_
 refine s_st k_st ?_
 refine s_nil (by kernel_rfl) ?_
 refine n_wp ?_
 refine w_ret ?_
 exact d_ret hP hn hE [] (r_cell Tryz.results78)

end Go.Proofs.X
end

section
open Go Go.Bx Go.Proofs
namespace Go.Proofs.X
set_option maxRecDepth 100000 in
set_option maxHeartbeats 4000000 in
theorem row1_m (B ws : List Int) (each tot : Nat) (ht : tot = B.length + each * ws.length) (htb : tot ≤ 140737488355328) (hws : ws.length ≤ 1000000) (h0 : 0 < B.length) : Con Tryz.prog 106 [.s (.fzi .u8 B), .s (.int .i64 ((each : Nat) : Int)), .s (.fzi .u64 ws)] [] (.s (.slice 0 0 0 tot tot)) [some ⟨true, [.ints .u8 tot (spl (rr tot each ws.length ws ws.length) (B.take B.length) 0 B.length tot)]⟩] := by
 refine con_in 44 Tryz.func106 rfl rfl (m := 0) rfl ?_
 intro E hP hn hE
 refine w_seq ?_
 refine g_reg hP hn ?_
 refine s_op k_bx ?_
 refine s_op k_as ?_
 refine s_nil trivial ?_
 refine n_wp ?_
 refine w_seq ?_
 refine g_reg hP hn ?_
 refine s_op k_mv ?_
 refine s_op k_len ?_
 refine s_op k_ld ?_
 refine s_op k_mv ?_
 refine s_op k_len ?_
 refine s_op k_mul ?_
 refine s_op (k_add (by exact l_bin rfl rfl (b_add (r := ((tot : Nat) : Int)) (by rw [ht]; exact m_add (by omega))))) ?_
 refine s_op k_mk ?_
 refine s_op k_al ?_
 refine s_st k_st ?_
 refine s_nil trivial ?_
 refine n_wp ?_
 refine w_seq ?_
 refine g_reg hP hn ?_
 refine s_op k_ld ?_
 refine s_op k_len ?_
 refine s_op k_al ?_
 refine s_st k_st ?_
 refine s_nil trivial ?_
 refine n_wp ?_
 refine w_seq ?_
 refine w_seq ?_
 refine g_reg hP hn ?_
 refine s_op k_mv ?_
 refine s_op (k_call [] (con := backward_c _)) ?_
 refine s_nil trivial ?_
 refine n_wp ?_
 refine w_block ?_
 have hmul : each * ws.length ≤ tot := by omega
 refine w_weak (weak_tm (T' := [(0, .s (.fzi .u8 B)), (4, .s (.ptr 0 0 0)), (7, .s (.ptr 2 0 0)), (8, .s (.ptr 3 0 0)), (22, .s (.clo 142 1 (capF [.ptr 4 0 0])))])) ?_
 refine w_rangeFunc (gf := 142) (n := 1) (q := capF [.ptr 4 0 0]) (Hend := RH each tot (tot - each * ws.length) (rr tot each ws.length ws ws.length) ws) rfl (by rw [hP]; exact Clb.h) (Nat.le_refl _) (back_iter hP hn 4 ws 23 24 (by decide) (by decide) _ _ _ (fun k => RH each tot (tot - each * k) (rr tot each ws.length ws k) ws) hws (fun _ _ => rfl) (fun k hk => ?_)) ?_
 · have hk1 : each * (k + 1) ≤ each * ws.length := Nat.mul_le_mul_left each hk
   have hnx : tot - each * (k + 1) = tot - each * k - each := by rw [Nat.mul_succ]; omega
   have hA1 : each ≤ tot - each * k := by rw [Nat.mul_succ] at hk1; omega
   have hA2 : tot - each * k ≤ tot := Nat.sub_le _ _
   show YRound _ _ _ _ _ (RH each tot (tot - each * k) (rr tot each ws.length ws k) ws) (RH each tot (tot - each * (k + 1)) (rb (rr tot each ws.length ws k) (tot - each * k) (ws.getD (ws.length - 1 - k) 0) each).1 ws)
   rw [hnx]
   have hout := rr_len tot each ws.length ws k
   generalize tot - each * k = A at *
   generalize rr tot each ws.length ws k = out at *
   generalize ws.getD (ws.length - 1 - k) 0 = v at *
   refine ⟨Nat.le_refl _, [(4, .s (.ptr 0 0 0)), (7, .s (.ptr 2 0 0)), (8, .s (.ptr 3 0 0)), (10, .s (.int .u64 v))], fun l E hP hn hE => ⟨?_, ?_⟩⟩
   · skip
     refine ig_reg hP hn ?_
     refine s_op k_as ?_
     refine s_nil trivial ?_
     exact ⟨rfl, weak_tm⟩
   · skip
     refine i_block ?_
     refine i_seq ?_
     refine ig_reg hP hn ?_
     refine s_op k_ld ?_
     refine s_op k_mv ?_
     refine s_nil trivial ?_
     refine ni_wp ?_
     refine i_block ?_
     refine i_loop (fun m T H => ∃ j, j ≤ each ∧ m = each - j ∧ T = [(4, .s (.ptr 0 0 0)), (7, .s (.ptr 2 0 0)), (8, .s (.ptr 3 0 0)), (10, .s (.int .u64 (rb out A v j).2)), (25, .s (.int .i64 ((each : Nat) : Int))), (26, .s (.int .i64 ((j : Nat) : Int)))] ∧ H = RH each tot (A - j) (rb out A v j).1 ws) (each) ⟨0, by omega, rfl, rfl, rfl⟩ weak_tm ?_
     rintro n_ T_ H_ ⟨j, hj, rfl, rfl, rfl⟩
     have hlj : (rb out A v j).1.length = tot := (rb_len out A v j).trans hout
     refine i_seq ?_
     refine ig_reg hP hn ?_
     refine s_op k_lss ?_
     refine s_nil trivial ?_
     refine ni_wp ?_
     refine i_seq ?_
     refine iw_if rfl (fun h_t27 => ?_) (fun h_t27 => ?_)
     · skip
       refine i_skip ?_
       refine ni_wp ?_
       refine i_seq ?_
       refine i_block ?_
       refine i_seq ?_
       refine ig_reg hP hn ?_
       refine s_op k_ld ?_
       refine s_op k_sub ?_
       refine s_st k_st ?_
       refine s_nil trivial ?_
       refine ni_wp ?_
       refine ig_reg hP hn ?_
       refine s_op k_ld ?_
       refine s_op k_ld ?_
       refine s_op k_mv ?_
       refine s_op k_cv ?_
       refine s_op k_mv ?_
       refine s_op (k_quo (by exact l_bin rfl rfl (b_quo (by decide) rfl))) ?_
       refine s_op k_ix ?_
       refine s_st k_st ?_
       refine s_op k_as ?_
       refine s_nil trivial ?_
       refine n_blo ?_
       refine ni_wp ?_
       refine ig_reg hP hn ?_
       refine s_op k_add ?_
       refine s_op k_mv ?_
       refine s_nil trivial ?_
       exact n_round (each - (j + 1)) (by omega) ⟨j + 1, by omega, rfl, rfl, rfl⟩ weak_tm
     · skip
       have hje : j = each := by omega
       subst hje
       refine i_exit ?_
       refine x_thn ?_
       refine x_thn ?_
       refine x_eq ?_
       refine n_blo ?_
       exact ⟨rfl, weak_tm⟩
 have hat : tot - each * ws.length = B.length := by omega
 rw [hat]
 refine n_blo ?_
 refine n_wp ?_
 refine w_seq ?_
 refine g_reg hP hn ?_
 refine s_op k_ld ?_
 refine s_op k_ld ?_
 refine s_op k_sl ?_
 refine s_op k_mv ?_
 refine s_op (k_cpn B.length) ?_
 refine s_nil trivial ?_
 refine n_wp ?_
 refine w_seq ?_
 refine g_reg hP hn ?_
 refine s_op k_ld ?_
 refine s_op k_as ?_
 refine s_nil trivial ?_
 refine n_wp ?_
 refine w_ret ?_
 exact d_retw hP hn (r_tmp Tryz.results106) (wk hE [1])

theorem row1_b (B : List Int) (n v : Nat) (hn0 : 0 < n) (hv : v < 18446744073709551616) (h0 : 0 < B.length) (hB : B.length + n ≤ 140737488355000) : Con Tryz.prog 106 [.s (.fzi .u8 B), .s (.int .i64 ((n : Nat) : Int)), .s (.fzi .u64 [(v : Int)])] [] (.s (.slice 0 0 0 (B.length + n) (B.length + n))) [some ⟨true, [.ints .u8 (B.length + n) (B ++ be n v)]⟩] := by
 have h := row1_m B [(v : Int)] n (B.length + n) (by simp) (by omega) (Nat.le_of_ble_eq_true rfl) h0
 have e := rowL_1 B n v hn0 hv
 rw [rowL, if_neg (by omega)] at e
 rw [show spl (rr (B.length + n) n [(v : Int)].length [(v : Int)] [(v : Int)].length) (B.take B.length) 0 B.length (B.length + n) = B ++ be n v from e] at h
 exact h

attribute [local irreducible] wd dg be gN rr
set_option maxRecDepth 100000 in
set_option maxHeartbeats 4000000 in
theorem put_m (B : List Int) (v n : Nat) (hn0 : 0 < n) (hn8 : n ≤ 8) (hv : v < 18446744073709551616) (h0 : 0 < B.length) (hB : B.length ≤ 1000000) : Con Tryz.prog 69 [.s (.fzi .u8 B), .s (.int .u64 ((v : Nat) : Int)), .s (.int .i64 ((n : Nat) : Int))] [] (.s (.slice 0 0 0 (B.length + n) (B.length + n))) [some ⟨true, [.ints .u8 (B.length + n) (B ++ be n v)]⟩] := by
 refine con_in 14 Tryz.func69 rfl rfl (m := 0) rfl ?_
 intro E hP hn hE
 refine w_seq ?_
 refine g_reg hP hn ?_
 refine s_op k_as ?_
 refine s_nil trivial ?_
 refine n_wp ?_
 refine w_seq ?_
 refine g_reg hP hn ?_
 refine s_op k_mv ?_
 refine s_op k_mv ?_
 refine s_op (k_min (by exact l_min (r := ((n : Nat) : Int)) rfl rfl (by have := hn8; split <;> omega))) ?_
 refine s_op (k_max (by exact l_max (r := ((n : Nat) : Int)) rfl rfl (by split <;> omega))) ?_
 refine s_op k_mv ?_
 refine s_op k_bsf ?_
 refine s_op (k_call [] (con := row1_b B n v hn0 hv h0 (by omega))) ?_
 refine s_op k_as ?_
 refine s_nil trivial ?_
 refine n_wp ?_
 refine w_ret ?_
 exact d_ret hP hn hE [1] (by first | exact r_tmp Tryz.results69 | exact r_tmpa Tryz.results69)

theorem put9_m (b : Int) (n : Nat) (hn64 : n < 18446744073709551616) : Con Tryz.prog 69 [.s (.fzi .u8 [b]), .s (.int .u64 ((n : Nat) : Int)), .s (.int .i64 ((8 : Nat) : Int))] [] (.s (.slice 0 0 0 9 9)) [some ⟨true, [.ints .u8 9 ([b] ++ be 8 n)]⟩] := put_m [b] n 8 (by decide) (by decide) hn64 (Nat.le_of_ble_eq_true rfl) (Nat.le_of_ble_eq_true rfl)

set_option maxRecDepth 100000 in
set_option maxHeartbeats 4000000 in
theorem pp_n (b : Int) (n : Nat) (I : List Int) (hn64 : n < 18446744073709551616) (hI : I.length = 32) : Con Tryz.prog 36 [.agg [.one (.int .u8 b), .one (.int .u64 ((n : Nat) : Int)), .ints .u8 32 I]] [] (.s (.fzi .u8 ([b] ++ be 8 n ++ I))) [] := by
 refine con_in 13 Tryz.func36 rfl rfl (m := 0) rfl ?_
 intro E hP hn hE
 refine w_seq ?_
 refine g_reg hP hn ?_
 refine s_op k_bxf ?_
 refine s_op k_as ?_
 refine s_nil trivial ?_
 refine n_wp ?_
 refine w_seq ?_
 refine g_any hP hn ?_
 refine s_op k_fa ?_
 refine s_op k_ld ?_
 refine s_op k_bsf ?_
 refine s_op k_fa ?_
 refine s_op k_ld ?_
 refine s_op (k_call [] (con := put9_m b n hn64) (v := .s (.slice 2 0 0 9 9)) (hv := rfl) (H' := [none, none, some ⟨true, [.ints .u8 9 ([b] ++ be 8 n)]⟩]) (hH := rfl)) ?_
 refine s_op k_fa ?_
 refine s_op k_slp ?_
 refine s_op (k_apf (hl := by simp [be_len]) (c := 41) (hc := by simp [hI]) (l' := [b] ++ be 8 n ++ I) (hl' := by rfl) (hbig := by simp [hI])) ?_
 refine s_op (k_call [3] (con := clip_g 41 41 ([b] ++ be 8 n ++ I))) ?_
 refine s_op k_as ?_
 refine s_nil (by kernel_rfl) ?_
 refine n_wp ?_
 refine w_ret ?_
 have HL : ([b] ++ be 8 n ++ I).length = 41 := by simp [be_len, hI]
 exact d_retw hP hn (r_tmp Tryz.results36) ((frz_gro 0 (l' := [b] ++ be 8 n ++ I) (hl := HL) (hl' := List.take_of_length_le (Nat.le_of_eq HL))).trans (wk hE []))

end Go.Proofs.X
end

section
open Go Go.Bx Go.Proofs
namespace Go.Proofs.X
attribute [local irreducible] wd dg be gN rr
set_option maxRecDepth 100000 in
set_option maxHeartbeats 4000000 in
theorem ex_form (B : List Int) (hB : ¬ B.length = 41) : Con Tryz.prog 77 [.s (.fzi .u8 B), .s (.int .i64 41), .s (.val (.func (.func 78) #[] #[])), .s (.fz 1 1 fun _ _ => .val (.func (.func 79) #[] #[]))] [] (.tup [.agg [.one (.int .u8 0), .one (.int .u64 0), .ints .u8 32 (zs (List.replicate 32 0))], .s (.int .i64 4)]) [] := by
 refine con_in 32 Tryz.func77 rfl rfl (m := 0) rfl ?_
 intro E hP hn hE
 refine w_seq ?_
 refine g_reg hP hn ?_
 refine s_op k_al ?_
 refine s_op k_as ?_
 refine s_nil trivial ?_
 refine n_wp ?_
 refine w_seq ?_
 refine w_seq ?_
 refine g_reg hP hn ?_
 refine s_op k_mv ?_
 refine s_op k_len ?_
 refine s_op k_mv ?_
 refine s_op k_neq ?_
 refine s_nil trivial ?_
 refine n_wp ?_
 refine w_T rfl ?_ (by first | (rw [decide_eq_false hB]; rfl) | (simp [hB]; done) | exact decide_eq_true (by omega))
 refine w_seq ?_
 refine g_reg hP hn ?_
 refine s_op k_ld ?_
 refine s_st k_st ?_
 refine s_op k_as ?_
 refine s_nil trivial ?_
 refine n_wp ?_
 refine w_ret ?_
 refine r_thn ?_
 exact d_ret hP hn hE [] (ret2 Tryz.results77 r_cella (by first | exact ri_tmp rfl | exact ri_tmpa rfl))

set_option maxRecDepth 100000 in
set_option maxHeartbeats 4000000 in
theorem ex_y (B : List Int) (hB : B.length = 41) (hU : U8' B) (hw : B.getD 0 0 ≤ 12) : Con Tryz.prog 77 [.s (.fzi .u8 B), .s (.int .i64 41), .s (.val (.func (.func 78) #[] #[])), .s (.fz 1 1 fun _ _ => .val (.func (.func 79) #[] #[]))] [] (.tup [.agg [.one (.int .u8 (B.getD 0 0)), .one (.int .u64 (((gN ((B.drop 1).take (B.length - 1)) 8) : Nat) : Int)), .ints .u8 32 ((B.drop 9).take 32)], .s (.int .i64 0)]) [] := by
 refine con_in 32 Tryz.func77 rfl rfl (m := 0) rfl ?_
 intro E hP hn hE
 refine w_seq ?_
 refine g_reg hP hn ?_
 refine s_op k_al ?_
 refine s_op k_as ?_
 refine s_nil trivial ?_
 refine n_wp ?_
 refine w_seq ?_
 refine w_seq ?_
 refine g_reg hP hn ?_
 refine s_op k_mv ?_
 refine s_op k_len ?_
 refine s_op k_mv ?_
 refine s_op k_neq ?_
 refine s_nil trivial ?_
 refine n_wp ?_
 refine w_F rfl ?_ (by rw [hB]; rfl)
 refine w_skip ?_
 refine n_wp ?_
 refine w_seq ?_
 refine w_seq ?_
 refine g_reg hP hn ?_
 refine s_op k_mv ?_
 refine s_op k_len ?_
 refine s_op k_mv ?_
 refine s_nil trivial ?_
 refine n_wp ?_
 refine w_block ?_
 refine c_loop (fun m_ T H => ∃ i, i ≤ 1 ∧ m_ = 1 - i ∧ T = [(0, .s (.fzi .u8 B)), (2, .s (.val (.func (.func 78) #[] #[]))), (8, .s (.ptr 0 0 0)), (9, .s (.int .i64 0)), (17, .s (.fz 1 1 fun _ _ => .val (.func (.func 79) #[] #[]))), (18, .s (.int .i64 ((1 : Nat) : Int))), (19, .s (.int .i64 ((i : Nat) : Int)))] ∧ H = [some ⟨true, [.one (.int .u8 0), .one (.int .u64 0), .ints .u8 32 (zs (List.replicate 32 0))]⟩]) (1) ⟨0, by omega, rfl, rfl, rfl⟩ (wk hE [0]) ?_
 rintro n_ T_ H_ ⟨i, hi, rfl, rfl, rfl⟩
 refine w_seq ?_
 refine g_reg hP hn ?_
 refine s_op k_lss ?_
 refine s_nil trivial ?_
 refine n_wp ?_
 refine w_seq ?_
 refine w_if rfl (fun h_t20 => ?_) (fun h_t20 => ?_)
 · skip
   refine w_skip ?_
   refine n_wp ?_
   refine w_seq ?_
   refine w_block ?_
   refine w_seq ?_
   refine g_reg hP hn ?_
   refine s_op k_ix ?_
   refine s_op (k_ld (by exact a_loadf (v := .val (.func (.func 79) #[] #[])) rfl (by omega) rfl)) ?_
   refine s_op k_as ?_
   refine s_nil trivial ?_
   refine n_wp ?_
   refine w_seq ?_
   refine w_weak (weak_conv 11 rfl (conv_vf (q := capF []))) ?_
   refine g_reg hP hn ?_
   refine s_op k_mv ?_
   refine s_op k_mv ?_
   refine s_op (k_callN [] (con := work_n B (by omega))) ?_
   refine s_op k_not ?_
   refine s_nil trivial ?_
   refine n_wp ?_
   refine w_F rfl ?_ (by rw [decide_eq_true hw]; rfl)
   refine w_skip ?_
   refine n_blo ?_
   refine n_wp ?_
   refine g_reg hP hn ?_
   refine s_op k_add ?_
   refine s_op k_mv ?_
   refine s_nil trivial ?_
   exact n_round (1 - (i + 1)) (by omega) ⟨i + 1, by omega, rfl, rfl, rfl⟩ (wk hE [0])
 · skip
   refine w_exit ?_
   refine x_thn ?_
   refine x_thn ?_
   refine x_eq ?_
   refine n_wp ?_
   refine w_seq ?_
   refine w_weak (weak_conv 2 rfl (conv_vf (q := capF []))) ?_
   refine g_reg hP hn ?_
   refine s_op k_mv ?_
   refine s_op k_mv ?_
   refine s_op (k_callN [] (con := readp_n B (.inl hB) hU)) ?_
   refine s_st k_st ?_
   refine s_op k_as ?_
   refine s_nil trivial ?_
   refine n_wp ?_
   refine w_ret ?_
   exact d_ret hP hn hE [] (ret2 Tryz.results77 r_cella (by first | exact ri_tmp rfl | exact ri_tmpa rfl))

set_option maxRecDepth 100000 in
set_option maxHeartbeats 4000000 in
theorem ex_work (B : List Int) (hB : B.length = 41) (hw : ¬ B.getD 0 0 ≤ 12) : Con Tryz.prog 77 [.s (.fzi .u8 B), .s (.int .i64 41), .s (.val (.func (.func 78) #[] #[])), .s (.fz 1 1 fun _ _ => .val (.func (.func 79) #[] #[]))] [] (.tup [.agg [.one (.int .u8 0), .one (.int .u64 0), .ints .u8 32 (zs (List.replicate 32 0))], .s (.int .i64 4)]) [] := by
 refine con_in 32 Tryz.func77 rfl rfl (m := 0) rfl ?_
 intro E hP hn hE
 refine w_seq ?_
 refine g_reg hP hn ?_
 refine s_op k_al ?_
 refine s_op k_as ?_
 refine s_nil trivial ?_
 refine n_wp ?_
 refine w_seq ?_
 refine w_seq ?_
 refine g_reg hP hn ?_
 refine s_op k_mv ?_
 refine s_op k_len ?_
 refine s_op k_mv ?_
 refine s_op k_neq ?_
 refine s_nil trivial ?_
 refine n_wp ?_
 refine w_F rfl ?_ (by rw [hB]; rfl)
 refine w_skip ?_
 refine n_wp ?_
 refine w_seq ?_
 refine w_seq ?_
 refine g_reg hP hn ?_
 refine s_op k_mv ?_
 refine s_op k_len ?_
 refine s_op k_mv ?_
 refine s_nil trivial ?_
 refine n_wp ?_
 refine w_block ?_
 refine c_loop (fun m_ T H => ∃ i, i ≤ 1 ∧ m_ = 1 - i ∧ i = 0 ∧ T = [(0, .s (.fzi .u8 B)), (2, .s (.val (.func (.func 78) #[] #[]))), (8, .s (.ptr 0 0 0)), (9, .s (.int .i64 0)), (17, .s (.fz 1 1 fun _ _ => .val (.func (.func 79) #[] #[]))), (18, .s (.int .i64 ((1 : Nat) : Int))), (19, .s (.int .i64 ((i : Nat) : Int)))] ∧ H = [some ⟨true, [.one (.int .u8 0), .one (.int .u64 0), .ints .u8 32 (zs (List.replicate 32 0))]⟩]) (1) ⟨0, by omega, rfl, rfl, rfl, rfl⟩ (wk hE [0]) ?_
 rintro n_ T_ H_ ⟨i, hi, rfl, hi0, rfl, rfl⟩
 refine w_seq ?_
 refine g_reg hP hn ?_
 refine s_op k_lss ?_
 refine s_nil trivial ?_
 refine n_wp ?_
 refine w_seq ?_
 have h_t20 : i < 1 := by omega
 refine w_T rfl ?_ (decide_eq_true (by omega))
 refine w_skip ?_
 refine n_wp ?_
 refine w_seq ?_
 refine w_block ?_
 refine w_seq ?_
 refine g_reg hP hn ?_
 refine s_op k_ix ?_
 refine s_op (k_ld (by exact a_loadf (v := .val (.func (.func 79) #[] #[])) rfl (by omega) rfl)) ?_
 refine s_op k_as ?_
 refine s_nil trivial ?_
 refine n_wp ?_
 refine w_seq ?_
 refine w_weak (weak_conv 11 rfl (conv_vf (q := capF []))) ?_
 refine g_reg hP hn ?_
 refine s_op k_mv ?_
 refine s_op k_mv ?_
 refine s_op (k_callN [] (con := work_n B (by omega))) ?_
 refine s_op k_not ?_
 refine s_nil trivial ?_
 refine n_wp ?_
 refine w_T rfl ?_ (by rw [decide_eq_false hw]; rfl)
 refine w_seq ?_
 refine g_reg hP hn ?_
 refine s_op k_ld ?_
 refine s_st k_st ?_
 refine s_op k_as ?_
 refine s_nil trivial ?_
 refine n_wp ?_
 refine w_ret ?_
 refine r_blo ?_
 refine r_thn ?_
 refine r_thn ?_
 refine r_blo ?_
 refine r_thn ?_
 exact d_ret hP hn hE [] (ret2 Tryz.results77 r_cella (by first | exact ri_tmp rfl | exact ri_tmpa rfl))

end Go.Proofs.X
end

section
/- Rows put behind rows out of other memory; a struct's field. No program. -/
namespace Go.Bx
section
variable {P : Program} {T : Tm} {H : Heap} {d : Option Tmp} {ty : TypeId} {pos : String} {af : Array Edge} {g : Option (Nat × Bool)}
/-- Rows put behind rows, where there is room: out of other memory. -/
theorem k_apiS (q' : Nat → Nat → SV) {x y : Operand} {t tx e rt : TypeId} {id id2 n m dc c c2 mc r w : Nat} {b2 : Bool} {q g2 : Nat → Nat → SV} {inf : TypeInfo} {H' : Heap} [hu : Und P t (.slice e)] [hux : Und P tx (.slice e)] [hi : Inf P e inf] (hx : ev T x = .s (.slice id 0 0 n dc) := by rfl) (hy : ev T y = .s (.slice id2 0 0 m mc) := by rfl) (hb : hget H id = some ⟨true, [.rows c w q]⟩ := by rfl) (hb2 : hget H id2 = some ⟨b2, [.rows c2 w g2]⟩ := by rfl) (hsz : inf.size = w := by exact rfl) (hw : 0 < w := by exact Nat.le_of_ble_eq_true rfl) (h0 : 0 < m := by exact Nat.le_of_ble_eq_true rfl) (hdc : n + m ≤ dc := by omega) (hc : n + m ≤ c := by omega) (hc2 : m ≤ c2 := by omega) (hr : n + m = r := by rfl) (hg : ∀ i j, i < m → j < w → q' (n + i) j = g2 i j) (hg2 : ∀ i j, ¬(n ≤ i ∧ i < n + m) → i < c → j < w → q' i j = q i j) (hH : H.set id (some ⟨true, [.rows c w q']⟩) = H' := by repeat (first | exact hset_0 | apply hset_s)) :
    LOk P ⟨d, .call ⟨.builtin .append, #[x, y], #[t, tx]⟩, rt, pos, af, g⟩ T H H' (.s (.slice id 0 0 r dc)) [id, id2] [id] := by
  subst hH; subst hr
  have hlt := hget_lt hb
  have hlt2 := hget_lt hb2
  refine lok_set [id, id2] (fun j hj => by
    simp at hj
    rcases hj with rfl | rfl
    · exact hlt
    · exact hlt2) (by simp) fun H0 hl hag => ?_
  intro W ρ a w' hH hnn hW ho next Q hq
  have k1 : (ev T x).rep ρ (a.eval x) := ho x (by simp [Op.operands, Call.operands])
  have k2 : (ev T y).rep ρ (a.eval y) := ho y (by simp [Op.operands, Call.operands])
  rw [hx] at k1
  rw [hy] at k2
  obtain ⟨b, o, hρ, k1⟩ := k1
  have hsub : SubS [.rows c2 w g2] (0 + 0) (m * w) [.rows m w g2] := by
    have h := SubS.rowsW (p := 0) (m := m) (c := c2) (g := g2) (g2 := g2) hw (by omega) (fun i j _ _ => by rw [Nat.zero_add])
    rwa [Nat.zero_mul] at h
  obtain ⟨news, hS, hnr, _⟩ := (asrc_sl (P := P) (tx := tx) (cap := mc) (base := 0) (idx := 0) (n := m) (size := w) hux.h hb2 hsub).2 _ W ρ w' _ (fun j hj => by simp at hj; subst hj; exact hag _ (by simp)) hH k2
  have hb0 : hget H0 id = some ⟨true, [.rows c w q]⟩ := (hag id (by simp)).trans hb
  obtain ⟨⟨cells, tt, fr, g1, g2', _, g4⟩, hWb⟩ := hH.rep id b o _ hρ hb0
  have hfr := g2' rfl
  subst hfr
  have hp : PutS [.rows c w q] (n * w) (m * w) [.rows m w g2] [.rows c w q'] := .rowsW hw h0 hc hg hg2
  have hfit := fits g4 hp
  have hnl : news.length = m * w := hS.newsLen
  have hst := run_storeCells_at P b (o + n * w) tt news 0 cells w' g1 (by rw [hnl]; omega) hS.one
  rw [Nat.add_zero] at hst
  have hrun : (execOp a.eval ⟨d, .call ⟨.builtin .append, #[x, y], #[t, tx]⟩, rt, pos, af, g⟩).run P w' = .ok (.value (.slice (some ⟨b, o, none⟩) (n + m) dc)) (w'.setRow b (cells.toList.take (o + n * w) ++ news ++ cells.toList.drop (o + n * w + news.length)).toArray) := by
    simp only [execOp, resolve, invoke, builtin, List.map_toArray, List.map_cons, List.map_nil, k1]
    have hc2 := hS.cells
    rcases hS.kind with ⟨e', hk⟩ | hk <;> (simp [Builtin.append_, Sem.run_bind, run_underlying hu.h, run_underlying hk, sizeOf, typeInfo, hi.h, hsz, hS.len, hc2, hdc, addr_add]; rw [hst]; simp)
  rw [hrun]
  refine hq _ _ ⟨ρ, W, nx_write hH hW hρ hb0 g1 g4 hp hnl (fun i z hz => ?_) hfit, b, o, hρ, rfl⟩
  exact hnr i z hz
/-- One cell boxed, not written any more. -/
theorem k_bxs {t : TypeId} {x : Operand} {v : SV} {H' : Heap} (hx : ev T x = .s v := by rfl) (hj : v ≠ .junk := by exact fun h => by cases h) (hid : v.idB (fun _ => false) = true := by exact rfl) (hH : H ++ [none] = H' := by repeat (first | exact happ_0 | apply happ_s)) : LOk P ⟨d, .box t x, ty, pos, af, g⟩ T H H' (.s (.fptr 1 (cellsF [.one v]) 0 0)) [] [] :=
  lok_val' (l_box hx hj rfl) (conv_ptr (k := ⟨false, [.one v]⟩) (hget_last _ _) rfl rfl (by simp [Seg.idB, hid])) hH
/-- A field of one cell. -/
theorem k_fd {t : TypeId} {x : Operand} {f : Nat} {fs : Array Field} {fd : Field} {segs : List Seg} {v : SV} [hu : Und P t (.struct fs)] (hf : fs[f]? = some fd := by rfl) (ha : ∀ w, (isAgg fd.type).run P w = .ok false w := by exact Ag.h) (hx : ev T x = .agg segs := by rfl) (hv : atS segs fd.offset = some v := by rfl) : LOk P ⟨d, .field t x f, ty, pos, af, g⟩ T H H (.s v) [] [] :=
  lok_pure fun ρ a w ho => by
    have h1 := one (op := .field t x f) rfl ho hx
    obtain ⟨cs, e1, _, e2⟩ := h1
    obtain ⟨u, hu1, hr, _⟩ := e2 _ v hv
    have hu1 : cs[fd.offset]? = some u := hu1
    exact ⟨u, by simp [execOp, e1, Instr.field, Sem.run_bind, run_underlying hu.h, hf, ha, part, hu1, asAgg], hr⟩
end
end Go.Bx
end

section
/- Types and functions of pieces in memory, as instances. -/
open Go Go.Bx Go.Proofs
namespace Go.Proofs.X
instance : Clb Tryz.prog 80 := ⟨_, Tryz.func80, by kernel_rfl, rfl⟩
instance : Clb Tryz.prog 61 := ⟨_, Tryz.func61, by kernel_rfl, rfl⟩
instance : Clb Tryz.prog 29 := ⟨_, Tryz.func29, by kernel_rfl, rfl⟩
instance : Clb Tryz.prog 30 := ⟨_, Tryz.func30, by kernel_rfl, rfl⟩
instance : Clb Tryz.prog 37 := ⟨_, Tryz.func37, by kernel_rfl, rfl⟩
instance : Clb Tryz.prog 27 := ⟨_, Tryz.func27, by kernel_rfl, rfl⟩
instance : Clb Tryz.prog 38 := ⟨_, Tryz.func38, by kernel_rfl, rfl⟩
instance : Clb Tryz.prog 28 := ⟨_, Tryz.func28, by kernel_rfl, rfl⟩
instance : Clb Tryz.prog 93 := ⟨_, Tryz.func93, by kernel_rfl, rfl⟩
instance : Clb Tryz.prog 62 := ⟨_, Tryz.func62, by kernel_rfl, rfl⟩
instance : Clb Tryz.prog 31 := ⟨_, Tryz.func31, by kernel_rfl, rfl⟩
instance : Clb Tryz.prog 12 := ⟨_, Tryz.func12, by kernel_rfl, rfl⟩
instance : Clb Tryz.prog 9 := ⟨_, Tryz.func9, by kernel_rfl, rfl⟩
instance : Clb Tryz.prog 55 := ⟨_, Tryz.func55, by kernel_rfl, rfl⟩
instance : Clb Tryz.prog 35 := ⟨_, Tryz.func35, by kernel_rfl, rfl⟩
instance : Und Tryz.prog 52 (.func #[27] #[38, 45] false) := ⟨Tryz.underlying52⟩
instance : Sz Tryz.prog 52 1 := ⟨Tryz.sizeOf52⟩
instance : Ag Tryz.prog 52 false := ⟨Tryz.isAgg52⟩
instance : Zv Tryz.prog 52 [.one (.val .nilFunc)] := ⟨_, Tryz.zeroValue52, by kernel_rfl⟩
instance : Inf Tryz.prog 52 Tryz.t52 := ⟨by kernel_rfl⟩
instance : Und Tryz.prog 65 (.struct #[{ name := "t", type := 37, offset := 0, embedded := false, tag := "", pkgPath := "burrow/covers", byteOffset := 0 }, { name := "body", type := 52, offset := 1, embedded := false, tag := "", pkgPath := "burrow/covers", byteOffset := 8 }]) := ⟨Tryz.underlying65⟩
instance : Sz Tryz.prog 65 2 := ⟨Tryz.sizeOf65⟩
instance : Ag Tryz.prog 65 true := ⟨Tryz.isAgg65⟩
instance : Zv Tryz.prog 65 [.one (.int .u16 0), .one (.val .nilFunc)] := ⟨_, Tryz.zeroValue65, by kernel_rfl⟩
instance : FldC Tryz.prog 65 0 0 := ⟨_, _, _, Tryz.underlying65, rfl, Tryz.sizeOf37, by decide, rfl⟩
instance : FldC Tryz.prog 65 1 1 := ⟨_, _, _, Tryz.underlying65, rfl, Tryz.sizeOf52, by decide, rfl⟩
instance : Pl Tryz.prog 65 #[(0, 1), (1, 1)] := ⟨_, Tryz.underlying65, fun w => by kernel_rfl⟩
instance : Inf Tryz.prog 65 Tryz.t65 := ⟨by kernel_rfl⟩
instance : Und Tryz.prog 77 (.func #[40, 37] #[3] false) := ⟨Tryz.underlying77⟩
instance : Sz Tryz.prog 77 1 := ⟨Tryz.sizeOf77⟩
instance : Ag Tryz.prog 77 false := ⟨Tryz.isAgg77⟩
instance : Zv Tryz.prog 77 [.one (.val .nilFunc)] := ⟨_, Tryz.zeroValue77, by kernel_rfl⟩
instance : Inf Tryz.prog 77 Tryz.t77 := ⟨by kernel_rfl⟩
instance : Und Tryz.prog 88 (.func #[40] #[4] false) := ⟨Tryz.underlying88⟩
instance : Sz Tryz.prog 88 1 := ⟨Tryz.sizeOf88⟩
instance : Ag Tryz.prog 88 false := ⟨Tryz.isAgg88⟩
instance : Zv Tryz.prog 88 [.one (.val .nilFunc)] := ⟨_, Tryz.zeroValue88, by kernel_rfl⟩
instance : Inf Tryz.prog 88 Tryz.t88 := ⟨by kernel_rfl⟩
end Go.Proofs.X
end

section
/- Pieces in memory, as functions. No program. -/
open Go Go.Bx
namespace Go.Proofs.X
/-- The first i of them. -/
def twF (L : List Pc) (i : Nat) : Nat → Pc := fun k => if k < i then L.getD k p0 else p0
def kpF (L : List Pc) : Nat → Pc := fun k => L.getD k p0
theorem tw_kp (L : List Pc) : twF L L.length = kpF L := by
  funext k
  unfold twF kpF
  split
  · rfl
  · rename_i h
    rw [List.getD_eq_getElem?_getD, List.getElem?_eq_none (by omega)]; rfl
theorem tw_g (L : List Pc) (i : Nat) : ∀ a b, a < 1 → b < 2 → gP (twF L (i + 1)) (i + a) b = rowsF (fun k => [PR (L.getD i p0)].getD k []) a b := fun a b ha _ => by
  obtain rfl : a = 0 := by omega
  show cellsF (PR (twF L (i + 1) (i + 0))) b = cellsF (PR (L.getD i p0)) b
  rw [show i + 0 = i from rfl, twF, if_pos (show i < i + 1 by omega)]
theorem tw_g2 (L : List Pc) (i c : Nat) : ∀ a b, ¬(i ≤ a ∧ a < i + 1) → a < c → b < 2 → gP (twF L (i + 1)) a b = gP (twF L i) a b := fun a b h _ _ => by
  have : twF L (i + 1) a = twF L i a := by
    unfold twF
    by_cases h1 : a < i
    · rw [if_pos h1, if_pos (by omega)]
    · rw [if_neg h1, if_neg (by omega)]
  show cellsF (PR (twF L (i + 1) a)) b = cellsF (PR (twF L i a)) b
  rw [this]
theorem tw_0 (L : List Pc) (c : Nat) : ∀ i j, i < c → j < 2 → gP (twF L 0) i j = cellsF (PR p0) j := fun i j _ _ => by
  show cellsF (PR (twF L 0 i)) j = _
  rw [twF, if_neg (Nat.not_lt_zero i)]
theorem kp_out {L : List Pc} {k : Nat} (h : L.length ≤ k) : kpF L k = p0 := by
  unfold kpF; rw [List.getD_eq_getElem?_getD, List.getElem?_eq_none h]; rfl
theorem gP_at (F : Nat → Pc) (i j : Nat) : gP F i j = cellsF (PR (F i)) j := rfl
theorem gP_congr {F G : Nat → Pc} {i : Nat} (h : F i = G i) (j : Nat) : gP F i j = gP G i j := by rw [gP_at, gP_at, h]
/-- One is put in at i. -/
def insF (F : Nat → Pc) (i : Nat) (p : Pc) : Nat → Pc := fun k => if k < i then F k else if k = i then p else F (k - 1)
/-- .. what is from there on moved. -/
def shF (F : Nat → Pc) (i : Nat) : Nat → Pc := fun k => if k < i + 1 then F k else F (k - 1)
def insL (L : List Pc) (i : Nat) (p : Pc) : List Pc := L.take i ++ p :: L.drop i
theorem ins_kp {L : List Pc} {i : Nat} {p : Pc} (h : i ≤ L.length) (k : Nat) : (insL L i p).getD k p0 = insF (kpF L) i p k := by
  unfold insL insF kpF
  simp only [List.getD_eq_getElem?_getD]
  by_cases h1 : k < i
  · rw [if_pos h1, List.getElem?_append_left (by simp; omega), List.getElem?_take_of_lt h1]
  · rw [if_neg h1, List.getElem?_append_right (by simp; omega), List.length_take, Nat.min_eq_left h]
    by_cases h2 : k = i
    · subst h2; simp
    · rw [if_neg h2]
      obtain ⟨q, hq⟩ : ∃ q, k - i = q + 1 := ⟨k - i - 1, by omega⟩
      rw [hq, List.getElem?_cons_succ, List.getElem?_drop, show i + q = k - 1 by omega]
theorem ins_g (F G : Nat → Pc) (i : Nat) : ∀ a b, a < 1 → b < 2 → gP (insF F i (G 0)) (i + a) b = gP G a b := fun a b ha _ => by
  obtain rfl : a = 0 := by omega
  show cellsF (PR (insF F i (G 0) (i + 0))) b = cellsF (PR (G 0)) b
  rw [show i + 0 = i from rfl, insF, if_neg (Nat.lt_irrefl i), if_pos rfl]
theorem ins_ge (F : Nat → Pc) (p : Pc) (n : Nat) : ∀ a b, ¬(n ≤ a ∧ a < n + 1) → a < n + 1 → b < 2 → gP (insF F n p) a b = gP F a b := fun a b h h1 _ => by
  show cellsF (PR (insF F n p a)) b = cellsF (PR (F a)) b
  rw [insF, if_pos (by omega)]
theorem sh_g (F : Nat → Pc) (i m : Nat) : ∀ a b, a < m → b < 2 → gP (shF F i) (i + 1 + a) b = gP F (i + a) b := fun a b _ _ => by
  show cellsF (PR (shF F i (i + 1 + a))) b = cellsF (PR (F (i + a))) b
  rw [shF, if_neg (by omega), show i + 1 + a - 1 = i + a by omega]
theorem sh_ge (F : Nat → Pc) (i n : Nat) (hi : i ≤ n) : ∀ a b, ¬(i + 1 ≤ a ∧ a < i + 1 + (n - i)) → a < n + 1 → b < 2 → gP (shF F i) a b = gP F a b := fun a b h h1 _ => by
  show cellsF (PR (shF F i a)) b = cellsF (PR (F a)) b
  rw [shF, if_pos (by omega)]
theorem ins_sh (F : Nat → Pc) (p : Pc) (i c : Nat) : ∀ a b, ¬(i ≤ a ∧ a < i + 1) → a < c → b < 2 → gP (insF F i p) a b = gP (shF F i) a b := fun a b h _ _ => by
  show cellsF (PR (insF F i p a)) b = cellsF (PR (shF F i a)) b
  unfold insF shF
  by_cases h1 : a < i
  · rw [if_pos h1, if_pos (by omega)]
  · rw [if_neg h1, if_neg (by omega), if_neg (by omega)]
/-- What a puzzle's bytes tell. -/
def okPz (B : List Int) : Bool := decide (B.length = 41) && decide (B.getD 0 0 ≤ 12)
def pzb (B : List Int) : Int := if okPz B then B.getD 0 0 else 0
def pzg (B : List Int) : Nat := if okPz B then gN ((B.drop 1).take (B.length - 1)) 8 else 0
def pzi (B : List Int) : List Int := if okPz B then (B.drop 9).take 32 else zs (List.replicate 32 0)
def pze (B : List Int) : Int := if okPz B then 0 else 4
/-- The first one of which it is so. -/
theorem first_or (pr : Nat → Bool) : ∀ (L : List Pc), (∃ j, j < L.length ∧ (∀ k, k < j → pr (L.getD k p0).1 = false) ∧ pr (L.getD j p0).1 = true ∧ L.any (fun p => pr p.1) = true) ∨ ((∀ k, k < L.length → pr (L.getD k p0).1 = false) ∧ L.any (fun p => pr p.1) = false)
  | [] => .inr ⟨fun k h => absurd h (Nat.not_lt_zero k), rfl⟩
  | x :: r => by
    cases hx : pr x.1 with
    | true => exact .inl ⟨0, by simp, fun k h => absurd h (Nat.not_lt_zero k), hx, by simp [hx]⟩
    | false =>
      rcases first_or pr r with ⟨j, h1, h2, h3, h4⟩ | ⟨h1, h2⟩
      · refine .inl ⟨j + 1, by simpa using h1, fun k hk => ?_, h3, by rw [List.any_cons, h4, Bool.or_true]⟩
        cases k with
        | zero => exact hx
        | succ k => exact h2 k (by omega)
      · refine .inr ⟨fun k hk => ?_, by rw [List.any_cons, h2, hx]; rfl⟩
        cases k with
        | zero => exact hx
        | succ k => exact h1 k (by simpa using hk)
/-- Those that are kept. -/
def keepL (pr : Nat → Bool) (L : List Pc) : List Pc := L.filter fun p => !pr p.1
theorem keep_none {pr : Nat → Bool} {L : List Pc} (h : ∀ k, k < L.length → pr (L.getD k p0).1 = false) : keepL pr L = L := by
  refine List.filter_eq_self.2 fun p hp => ?_
  obtain ⟨i, hi, rfl⟩ := List.mem_iff_getElem.1 hp
  have := h i hi
  rw [List.getD_eq_getElem?_getD, List.getElem?_eq_getElem hi] at this
  simp only [Option.getD_some] at this
  simp [this]
theorem take_snoc {L : List Pc} {i : Nat} (h : i < L.length) : L.take (i + 1) = L.take i ++ [L.getD i p0] := by
  rw [List.take_add_one, List.getD_eq_getElem?_getD, List.getElem?_eq_getElem h]; simp
theorem keep_yes {pr : Nat → Bool} {L : List Pc} {i : Nat} (h : i < L.length) (hp : pr (L.getD i p0).1 = false) : keepL pr (L.take (i + 1)) = keepL pr (L.take i) ++ [L.getD i p0] := by
  rw [take_snoc h, keepL, List.filter_append, List.filter_cons_of_pos (by rw [hp]; rfl)]; rfl
theorem keep_no {pr : Nat → Bool} {L : List Pc} {i : Nat} (h : i < L.length) (hp : pr (L.getD i p0).1 = true) : keepL pr (L.take (i + 1)) = keepL pr (L.take i) := by
  rw [take_snoc h, keepL, List.filter_append, List.filter_cons_of_neg (by rw [hp]; exact Bool.false_ne_true), List.filter_nil, List.append_nil]; rfl
theorem keep_first {pr : Nat → Bool} {L : List Pc} {j : Nat} (h : j < L.length) (hn : ∀ k, k < j → pr (L.getD k p0).1 = false) (hp : pr (L.getD j p0).1 = true) : keepL pr (L.take (j + 1)) = L.take j := by
  rw [keep_no h hp]
  refine keep_none fun k hk => ?_
  rw [List.length_take, Nat.min_eq_left (by omega)] at hk
  rw [List.getD_eq_getElem?_getD, List.getElem?_take_of_lt hk, ← List.getD_eq_getElem?_getD]
  exact hn k hk
theorem keep_len (pr : Nat → Bool) (L : List Pc) (i : Nat) : (keepL pr (L.take i)).length ≤ i := Nat.le_trans (List.length_filter_le _ _) (by rw [List.length_take]; exact Nat.min_le_left _ _)
/-- What is at the head of a slice, in a loop that lets some go. -/
structure DelI (pr : Nat → Bool) (L : List Pc) (j : Nat) (F : Nat → Pc) : Prop where
  lo : ∀ k, k < (keepL pr (L.take j)).length → F k = (keepL pr (L.take j)).getD k p0
  hi : ∀ k, j ≤ k → F k = kpF L k
theorem DelI.start {pr : Nat → Bool} {L : List Pc} {j : Nat} (h : j < L.length) (hn : ∀ k, k < j → pr (L.getD k p0).1 = false) (hp : pr (L.getD j p0).1 = true) : DelI pr L (j + 1) (kpF L) ∧ (keepL pr (L.take (j + 1))).length = j := by
  have e := keep_first h hn hp
  have l : (L.take j).length = j := by rw [List.length_take]; omega
  refine ⟨⟨fun k hk => ?_, fun _ _ => rfl⟩, by rw [e, l]⟩
  rw [e] at hk ⊢
  rw [l] at hk
  rw [List.getD_eq_getElem?_getD, List.getElem?_take_of_lt hk, ← List.getD_eq_getElem?_getD]; rfl
def setF (F : Nat → Pc) (i : Nat) (p : Pc) : Nat → Pc := fun k => if k = i then p else F k
theorem DelI.yes {pr : Nat → Bool} {L : List Pc} {j : Nat} {F : Nat → Pc} (h : DelI pr L j F) (hj : j < L.length) (hp : pr (L.getD j p0).1 = false) : DelI pr L (j + 1) (setF F (keepL pr (L.take j)).length (F j)) ∧ (keepL pr (L.take (j + 1))).length = (keepL pr (L.take j)).length + 1 := by
  have e := keep_yes hj hp
  have hlen := keep_len pr L j
  refine ⟨⟨fun k hk => ?_, fun k hk => ?_⟩, by rw [e]; simp⟩
  · rw [e] at hk ⊢
    unfold setF
    rw [List.getD_eq_getElem?_getD]
    by_cases h1 : k = (keepL pr (L.take j)).length
    · rw [if_pos h1, h1, List.getElem?_append_right (Nat.le_refl _), Nat.sub_self, h.hi j (Nat.le_refl _)]; rfl
    · have hk2 : k < (keepL pr (L.take j)).length := by simp at hk; omega
      rw [if_neg h1, List.getElem?_append_left hk2, h.lo k hk2, List.getD_eq_getElem?_getD]
  · unfold setF
    rw [if_neg (by omega)]
    exact h.hi k (by omega)
theorem DelI.no {pr : Nat → Bool} {L : List Pc} {j : Nat} {F : Nat → Pc} (h : DelI pr L j F) (hj : j < L.length) (hp : pr (L.getD j p0).1 = true) : DelI pr L (j + 1) F ∧ (keepL pr (L.take (j + 1))).length = (keepL pr (L.take j)).length := by
  have e := keep_no hj hp
  exact ⟨⟨by rw [e]; exact h.lo, fun k hk => h.hi k (by omega)⟩, by rw [e]⟩
theorem DelI.done {pr : Nat → Bool} {L : List Pc} {F : Nat → Pc} (h : DelI pr L L.length F) : (∀ k, k < (keepL pr L).length → F k = kpF (keepL pr L) k) ∧ ∀ k, L.length ≤ k → F k = kpF (keepL pr L) k := by
  have e : L.take L.length = L := List.take_length
  have hlo := h.lo
  rw [e] at hlo
  refine ⟨fun k hk => hlo k hk, fun k hk => ?_⟩
  rw [h.hi k hk, kp_out hk, kp_out]
  exact Nat.le_trans (List.length_filter_le _ _) hk
theorem keepL_le (pr : Nat → Bool) (L : List Pc) : (keepL pr L).length ≤ L.length := List.length_filter_le _ _
end Go.Proofs.X
end

section
open Go Go.Bx Go.Proofs
namespace Go.Proofs.X
set_option maxRecDepth 100000 in
set_option maxHeartbeats 4000000 in
theorem below1_n (t : Nat) (p : Pc) : Con Tryz.prog 38 [.agg (PR p), .s (.fptr 1 (cellsF [.one (.int .u16 ((t : Nat) : Int))]) 0 0)] [] (.s (.bool (decide (t ≤ p.1)))) [] := by
 refine con_in 8 Tryz.func38 rfl rfl (m := 0) rfl ?_
 intro E hP hn hE
 refine w_seq ?_
 refine g_reg hP hn ?_
 refine s_op k_bxf ?_
 refine s_op k_as ?_
 refine s_nil trivial ?_
 refine n_wp ?_
 refine w_seq ?_
 refine g_reg hP hn ?_
 refine s_op k_fa ?_
 refine s_op k_ld ?_
 refine s_op k_ld ?_
 refine s_op k_geq ?_
 refine s_op k_as ?_
 refine s_nil trivial ?_
 refine n_wp ?_
 refine w_ret ?_
 exact d_ret hP hn hE [] (by first | exact r_tmp Tryz.results38 | exact r_tmpa Tryz.results38)

set_option maxRecDepth 100000 in
set_option maxHeartbeats 4000000 in
theorem find1_n (t : Nat) (p : Pc) : Con Tryz.prog 93 [.agg (PR p), .s (.fptr 1 (cellsF [.one (.int .u16 ((t : Nat) : Int))]) 0 0)] [] (.s (.bool (decide (p.1 = t)))) [] := by
 refine con_in 8 Tryz.func93 rfl rfl (m := 0) rfl ?_
 intro E hP hn hE
 refine w_seq ?_
 refine g_reg hP hn ?_
 refine s_op k_bxf ?_
 refine s_op k_as ?_
 refine s_nil trivial ?_
 refine n_wp ?_
 refine w_seq ?_
 refine g_reg hP hn ?_
 refine s_op k_fa ?_
 refine s_op k_ld ?_
 refine s_op k_ld ?_
 refine s_op k_eql ?_
 refine s_op k_as ?_
 refine s_nil trivial ?_
 refine n_wp ?_
 refine w_ret ?_
 exact d_ret hP hn hE [] (by first | exact r_tmp Tryz.results93 | exact r_tmpa Tryz.results93)

set_option maxRecDepth 100000 in
set_option maxHeartbeats 4000000 in
theorem on1_n (t : Nat) (y : SV) (p : Pc) : Con Tryz.prog 62 [.agg (PR p), .s (.fptr 2 (cellsF [.one (.int .u16 ((t : Nat) : Int)), .one y]) 0 0)] [] (.s (.bool (decide (t ≤ p.1)))) [] := by
 refine con_in 9 Tryz.func62 rfl rfl (m := 0) rfl ?_
 intro E hP hn hE
 refine w_seq ?_
 refine g_reg hP hn ?_
 refine s_op k_bxf ?_
 refine s_op k_as ?_
 refine s_nil trivial ?_
 refine n_wp ?_
 refine w_seq ?_
 refine g_reg hP hn ?_
 refine s_op k_fa ?_
 refine s_op k_ld ?_
 refine s_op k_fa ?_
 refine s_op k_ld ?_
 refine s_op k_geq ?_
 refine s_op k_as ?_
 refine s_nil trivial ?_
 refine n_wp ?_
 refine w_ret ?_
 exact d_ret hP hn hE [] (by first | exact r_tmp Tryz.results62 | exact r_tmpa Tryz.results62)

set_option maxRecDepth 100000 in
set_option maxHeartbeats 4000000 in
theorem with1_n (t : Nat) (p : Pc) (ht : t < 65536) (hp1 : p.1 < 65536) : Con Tryz.prog 28 [.agg (PR p), .s (.int .u16 ((t : Nat) : Int))] [] (.s (.int .i64 ((p.1 : Int) - (t : Int)))) [] := by
 refine con_in 11 Tryz.func28 rfl rfl (m := 0) rfl ?_
 intro E hP hn hE
 refine w_seq ?_
 refine g_reg hP hn ?_
 refine s_op k_bxf ?_
 refine s_op k_as ?_
 refine s_nil trivial ?_
 refine n_wp ?_
 refine w_seq ?_
 refine g_reg hP hn ?_
 refine s_op k_fa ?_
 refine s_op k_ld ?_
 refine s_op k_cv ?_
 refine s_op k_mv ?_
 refine s_op k_cv ?_
 refine s_op (l_bin rfl rfl (b_sub (wrap_i64 (by omega)))) ?_
 refine s_op k_as ?_
 refine s_nil trivial ?_
 refine n_wp ?_
 refine w_ret ?_
 exact d_ret hP hn hE [] (by first | exact r_tmp Tryz.results28 | exact r_tmpa Tryz.results28)

set_option maxRecDepth 100000 in
set_option maxHeartbeats 4000000 in
theorem idx_y {f m : Nat} {q : Nat → SV} (pr : Nat → Bool) [Clb Tryz.prog f] (hf : ∀ p : Pc, Con Tryz.prog f [.agg (PR p), .s (.fptr m q 0 0)] [] (.s (.bool (pr p.1))) []) (L : List Pc) (hLb : L.length ≤ 1000000) (j : Nat) (hj : j < L.length) (hno : ∀ k, k < j → pr (L.getD k p0).1 = false) (hy : pr (L.getD j p0).1 = true) : Con Tryz.prog 80 [.s (PARS L), .s (.noid (.clo f 1 (capF [(.fptr m q 0 0)])))] [] (.s (.int .i64 ((j : Nat) : Int))) [] := by
 refine con_in 19 Tryz.func80 rfl rfl (m := 0) rfl ?_
 intro E hP hn hE
 refine w_seq ?_
 refine g_reg hP hn ?_
 refine s_op k_as ?_
 refine s_nil trivial ?_
 refine n_wp ?_
 refine w_seq ?_
 refine w_seq ?_
 refine g_reg hP hn ?_
 refine s_op k_mv ?_
 refine s_op k_len ?_
 refine s_op k_mv ?_
 refine s_nil trivial ?_
 refine n_wp ?_
 refine w_block ?_
 refine c_loop (fun m_ T H => ∃ i, i ≤ L.length ∧ m_ = L.length - i ∧ (∀ k, k < i → pr (L.getD k p0).1 = false) ∧ T = [(0, .s (PARS L)), (1, .s (.noid (.clo f 1 (capF [(.fptr m q 0 0)])))), (7, .s (.int .i64 ((L.length : Nat) : Int))), (8, .s (.int .i64 ((i : Nat) : Int)))] ∧ H = []) (L.length) ⟨0, by omega, rfl, fun k hk => absurd hk (Nat.not_lt_zero k), rfl, rfl⟩ (wk hE []) ?_
 rintro n_ T_ H_ ⟨i, hi, rfl, hup, rfl, rfl⟩
 refine w_seq ?_
 refine g_reg hP hn ?_
 refine s_op k_lss ?_
 refine s_nil trivial ?_
 refine n_wp ?_
 refine w_seq ?_
 have hij : i ≤ j := Nat.le_of_not_lt fun h => by rw [hup j h] at hy; cases hy
 have h_t9 : i < L.length := by omega
 refine w_T rfl ?_ (decide_eq_true h_t9)
 refine w_skip ?_
 refine n_wp ?_
 refine w_seq ?_
 refine w_block ?_
 refine w_seq ?_
 refine g_reg hP hn ?_
 refine s_op k_mv ?_
 refine s_op k_as ?_
 refine s_nil trivial ?_
 refine n_wp ?_
 refine w_seq ?_
 refine g_reg hP hn ?_
 refine s_op k_mv ?_
 refine s_op k_mv ?_
 refine s_op k_mv ?_
 refine s_op k_ix ?_
 refine s_op k_ldP ?_
 refine s_op (k_callN [(.fptr m q 0 0)] (con := hf (L.getD i p0))) ?_
 refine s_nil trivial ?_
 refine n_wp ?_
 refine w_cond rfl (fun h_t16 => ?_) (fun h_t16 => ?_)
 · skip
   obtain rfl : i = j := Nat.le_antisymm hij (Nat.le_of_not_lt fun h => by rw [hno i h] at h_t16; cases h_t16)
   refine w_seq ?_
   refine g_reg hP hn ?_
   refine s_op k_mv ?_
   refine s_op k_as ?_
   refine s_nil trivial ?_
   refine n_wp ?_
   refine w_ret ?_
   refine r_blo ?_
   refine r_thn ?_
   refine r_thn ?_
   refine r_blo ?_
   refine r_thn ?_
   exact d_ret hP hn hE [] (by first | exact r_tmp Tryz.results80 | exact r_tmpa Tryz.results80)
 · skip
   refine w_skip ?_
   refine n_blo ?_
   refine n_wp ?_
   refine g_reg hP hn ?_
   refine s_op k_add ?_
   refine s_op k_mv ?_
   refine s_nil trivial ?_
   exact n_round (L.length - (i + 1)) (by omega) ⟨i + 1, by omega, rfl, fun k hk => (Nat.lt_succ_iff_lt_or_eq.1 hk).elim (hup k) (fun e => e ▸ h_t16), rfl, rfl⟩ (wk hE [])

set_option maxRecDepth 100000 in
set_option maxHeartbeats 4000000 in
theorem idx_n {f m : Nat} {q : Nat → SV} (pr : Nat → Bool) [Clb Tryz.prog f] (hf : ∀ p : Pc, Con Tryz.prog f [.agg (PR p), .s (.fptr m q 0 0)] [] (.s (.bool (pr p.1))) []) (L : List Pc) (hLb : L.length ≤ 1000000) (hno : ∀ k, k < L.length → pr (L.getD k p0).1 = false) : Con Tryz.prog 80 [.s (PARS L), .s (.noid (.clo f 1 (capF [(.fptr m q 0 0)])))] [] (.s (.int .i64 (-1))) [] := by
 refine con_in 19 Tryz.func80 rfl rfl (m := 0) rfl ?_
 intro E hP hn hE
 refine w_seq ?_
 refine g_reg hP hn ?_
 refine s_op k_as ?_
 refine s_nil trivial ?_
 refine n_wp ?_
 refine w_seq ?_
 refine w_seq ?_
 refine g_reg hP hn ?_
 refine s_op k_mv ?_
 refine s_op k_len ?_
 refine s_op k_mv ?_
 refine s_nil trivial ?_
 refine n_wp ?_
 refine w_block ?_
 refine c_loop (fun m_ T H => ∃ i, i ≤ L.length ∧ m_ = L.length - i ∧ (∀ k, k < i → pr (L.getD k p0).1 = false) ∧ T = [(0, .s (PARS L)), (1, .s (.noid (.clo f 1 (capF [(.fptr m q 0 0)])))), (7, .s (.int .i64 ((L.length : Nat) : Int))), (8, .s (.int .i64 ((i : Nat) : Int)))] ∧ H = []) (L.length) ⟨0, by omega, rfl, fun k hk => absurd hk (Nat.not_lt_zero k), rfl, rfl⟩ (wk hE []) ?_
 rintro n_ T_ H_ ⟨i, hi, rfl, hup, rfl, rfl⟩
 refine w_seq ?_
 refine g_reg hP hn ?_
 refine s_op k_lss ?_
 refine s_nil trivial ?_
 refine n_wp ?_
 refine w_seq ?_
 refine w_if rfl (fun h_t9 => ?_) (fun h_t9 => ?_)
 · skip
   refine w_skip ?_
   refine n_wp ?_
   refine w_seq ?_
   refine w_block ?_
   refine w_seq ?_
   refine g_reg hP hn ?_
   refine s_op k_mv ?_
   refine s_op k_as ?_
   refine s_nil trivial ?_
   refine n_wp ?_
   refine w_seq ?_
   refine g_reg hP hn ?_
   refine s_op k_mv ?_
   refine s_op k_mv ?_
   refine s_op k_mv ?_
   refine s_op k_ix ?_
   refine s_op k_ldP ?_
   refine s_op (k_callN [(.fptr m q 0 0)] (con := hf (L.getD i p0))) ?_
   refine s_nil trivial ?_
   refine n_wp ?_
   have h_t16 := hno i h_t9
   refine w_F rfl ?_ h_t16
   refine w_skip ?_
   refine n_blo ?_
   refine n_wp ?_
   refine g_reg hP hn ?_
   refine s_op k_add ?_
   refine s_op k_mv ?_
   refine s_nil trivial ?_
   exact n_round (L.length - (i + 1)) (by omega) ⟨i + 1, by omega, rfl, fun k hk => (Nat.lt_succ_iff_lt_or_eq.1 hk).elim (hup k) (fun e => e ▸ h_t16), rfl, rfl⟩ (wk hE [])
 · skip
   refine w_exit ?_
   refine x_thn ?_
   refine x_thn ?_
   refine x_eq ?_
   refine n_wp ?_
   refine w_seq ?_
   refine g_reg hP hn ?_
   refine s_op k_as ?_
   refine s_nil trivial ?_
   refine n_wp ?_
   refine w_ret ?_
   exact d_ret hP hn hE [] (by first | exact r_tmp Tryz.results80 | exact r_tmpa Tryz.results80)

set_option maxRecDepth 100000 in
set_option maxHeartbeats 4000000 in
theorem cnt_y {f m : Nat} {q : Nat → SV} (pr : Nat → Bool) [Clb Tryz.prog f] (hf : ∀ p : Pc, Con Tryz.prog f [.agg (PR p), .s (.fptr m q 0 0)] [] (.s (.bool (pr p.1))) []) (L : List Pc) (hLb : L.length ≤ 1000000) (j : Nat) (hj : j < L.length) (hno : ∀ k, k < j → pr (L.getD k p0).1 = false) (hy : pr (L.getD j p0).1 = true) : Con Tryz.prog 61 [.s (PARS L), .s (.noid (.clo f 1 (capF [(.fptr m q 0 0)])))] [] (.s (.bool true)) [] := by
 refine con_in 9 Tryz.func61 rfl rfl (m := 0) rfl ?_
 intro E hP hn hE
 refine w_seq ?_
 refine g_reg hP hn ?_
 refine s_op k_as ?_
 refine s_nil trivial ?_
 refine n_wp ?_
 refine w_seq ?_
 refine g_reg hP hn ?_
 refine s_op k_mv ?_
 refine s_op k_mv ?_
 refine s_op (k_call [] (con := idx_y pr hf L hLb j hj hno hy)) ?_
 refine s_op (l_bin rfl rfl (b_geq (r := true) (decide_eq_true (by omega)))) ?_
 refine s_op k_as ?_
 refine s_nil trivial ?_
 refine n_wp ?_
 refine w_ret ?_
 exact d_ret hP hn hE [] (by first | exact r_tmp Tryz.results61 | exact r_tmpa Tryz.results61)

set_option maxRecDepth 100000 in
set_option maxHeartbeats 4000000 in
theorem cnt_n {f m : Nat} {q : Nat → SV} (pr : Nat → Bool) [Clb Tryz.prog f] (hf : ∀ p : Pc, Con Tryz.prog f [.agg (PR p), .s (.fptr m q 0 0)] [] (.s (.bool (pr p.1))) []) (L : List Pc) (hLb : L.length ≤ 1000000) (hno : ∀ k, k < L.length → pr (L.getD k p0).1 = false) : Con Tryz.prog 61 [.s (PARS L), .s (.noid (.clo f 1 (capF [(.fptr m q 0 0)])))] [] (.s (.bool false)) [] := by
 refine con_in 9 Tryz.func61 rfl rfl (m := 0) rfl ?_
 intro E hP hn hE
 refine w_seq ?_
 refine g_reg hP hn ?_
 refine s_op k_as ?_
 refine s_nil trivial ?_
 refine n_wp ?_
 refine w_seq ?_
 refine g_reg hP hn ?_
 refine s_op k_mv ?_
 refine s_op k_mv ?_
 refine s_op (k_call [] (con := idx_n pr hf L hLb hno)) ?_
 refine s_op (l_bin rfl rfl (b_geq (r := false) (by decide))) ?_
 refine s_op k_as ?_
 refine s_nil trivial ?_
 refine n_wp ?_
 refine w_ret ?_
 exact d_ret hP hn hE [] (by first | exact r_tmp Tryz.results61 | exact r_tmpa Tryz.results61)

set_option maxRecDepth 100000 in
set_option maxHeartbeats 4000000 in
theorem find_y (L : List Pc) (t : Nat) (hLb : L.length ≤ 1000000) (j : Nat) (hj : j < L.length) (hno : ∀ k, k < j → decide ((L.getD k p0).1 = t) = false) (hy : decide ((L.getD j p0).1 = t) = true) (hB : (L.getD j p0).2.length ≤ 1000000) : Con Tryz.prog 55 [.s (PARS L), .s (.int .u16 ((t : Nat) : Int))] [] (.tup [.s (.fzi .u8 (L.getD j p0).2), .s (.bool true)]) [] := by
 refine con_in 18 Tryz.func55 rfl rfl (m := 0) rfl ?_
 intro E hP hn hE
 refine w_seq ?_
 refine g_reg hP hn ?_
 refine s_op k_bxs ?_
 refine s_op k_as ?_
 refine s_op k_as ?_
 refine s_nil trivial ?_
 refine n_wp ?_
 refine w_seq ?_
 refine g_reg hP hn ?_
 refine s_op k_mv ?_
 refine s_op (k_fnN [(.fptr 1 (cellsF [.one (.int .u16 ((t : Nat) : Int))]) 0 0)]) ?_
 refine s_op (k_call [] (con := idx_y (fun x => decide (x = t)) (find1_n t) L hLb j hj hno hy)) ?_
 refine s_op k_as ?_
 refine s_nil trivial ?_
 refine n_wp ?_
 refine w_seq ?_
 refine w_seq ?_
 refine g_reg hP hn ?_
 refine s_op k_mv ?_
 refine s_op k_lss ?_
 refine s_nil trivial ?_
 refine n_wp ?_
 refine w_F rfl ?_ (decide_eq_false (by omega))
 refine w_skip ?_
 refine n_wp ?_
 refine w_seq ?_
 refine g_reg hP hn ?_
 refine s_op k_mv ?_
 refine s_op k_mv ?_
 refine s_op k_ix ?_
 refine s_op k_ldP ?_
 refine s_op (k_call [] (con := twin_n (L.getD j p0).1 (L.getD j p0).2 hB)) ?_
 refine s_op (k_fd (ha := (Ag.h (P := Tryz.prog) (t := 38)))) ?_
 refine s_op k_as ?_
 refine s_op k_as ?_
 refine s_nil trivial ?_
 refine n_wp ?_
 refine w_ret ?_
 exact d_ret hP hn hE [] (ret2 Tryz.results55 (by first | exact ri_tmp rfl | exact ri_tmpa rfl) (by first | exact ri_tmp rfl | exact ri_tmpa rfl))

set_option maxRecDepth 100000 in
set_option maxHeartbeats 4000000 in
theorem find_n (L : List Pc) (t : Nat) (hLb : L.length ≤ 1000000) (hno : ∀ k, k < L.length → decide ((L.getD k p0).1 = t) = false) : Con Tryz.prog 55 [.s (PARS L), .s (.int .u16 ((t : Nat) : Int))] [] (.tup [.s .nils, .s (.bool false)]) [] := by
 refine con_in 18 Tryz.func55 rfl rfl (m := 0) rfl ?_
 intro E hP hn hE
 refine w_seq ?_
 refine g_reg hP hn ?_
 refine s_op k_bxs ?_
 refine s_op k_as ?_
 refine s_op k_as ?_
 refine s_nil trivial ?_
 refine n_wp ?_
 refine w_seq ?_
 refine g_reg hP hn ?_
 refine s_op k_mv ?_
 refine s_op (k_fnN [(.fptr 1 (cellsF [.one (.int .u16 ((t : Nat) : Int))]) 0 0)]) ?_
 refine s_op (k_call [] (con := idx_n (fun x => decide (x = t)) (find1_n t) L hLb hno)) ?_
 refine s_op k_as ?_
 refine s_nil trivial ?_
 refine n_wp ?_
 refine w_seq ?_
 refine w_seq ?_
 refine g_reg hP hn ?_
 refine s_op k_mv ?_
 refine s_op (l_bin rfl rfl (b_lss (r := true) (by decide))) ?_
 refine s_nil trivial ?_
 refine n_wp ?_
 refine w_T rfl ?_ 
 refine w_seq ?_
 refine g_reg hP hn ?_
 refine s_op k_as ?_
 refine s_op k_as ?_
 refine s_nil trivial ?_
 refine n_wp ?_
 refine w_ret ?_
 refine r_thn ?_
 exact d_ret hP hn hE [] (ret2 Tryz.results55 (by first | exact ri_tmp rfl | exact ri_tmpa rfl) (by first | exact ri_tmp rfl | exact ri_tmpa rfl))

end Go.Proofs.X
end

section
open Go Go.Bx Go.Proofs
namespace Go.Proofs.X
set_option maxRecDepth 100000 in
set_option maxHeartbeats 4000000 in
theorem twins_m (L : List Pc) (hLb : L.length ≤ 900000) (hbd : ∀ i, i < L.length → (L.getD i p0).2.length ≤ 1000000)  : Con Tryz.prog 31 [.s (PARS L)] [] (.s (.slice 0 0 0 L.length (L.length + 1))) [some ⟨true, [.rows ((L.length + 1)) 2 (gP (twF L L.length))]⟩] := by
 refine con_in 23 Tryz.func31 rfl rfl (m := 0) rfl ?_
 intro E hP hn hE
 refine w_seq ?_
 refine g_reg hP hn ?_
 refine s_op k_as ?_
 refine s_nil trivial ?_
 refine n_wp ?_
 refine w_seq ?_
 refine g_reg hP hn ?_
 refine s_op k_mv ?_
 refine s_op k_len ?_
 refine s_op k_add ?_
 refine s_op (k_mkW (PR p0) (gP (twF L 0)) (l := 0) (c := L.length + 1) (hq := tw_0 L _)) ?_
 refine s_op k_as ?_
 refine s_nil trivial ?_
 refine n_wp ?_
 refine w_seq ?_
 refine w_seq ?_
 refine g_reg hP hn ?_
 refine s_op k_mv ?_
 refine s_op k_len ?_
 refine s_op k_mv ?_
 refine s_nil trivial ?_
 refine n_wp ?_
 refine w_block ?_
 refine c_loop (fun m_ T H => ∃ i, i ≤ L.length ∧ m_ = L.length - i ∧ T = [(3, .s (.slice 0 0 0 i (L.length + 1))), (10, .s (PARS L)), (11, .s (.int .i64 ((L.length : Nat) : Int))), (12, .s (.int .i64 ((i : Nat) : Int)))] ∧ H = [some ⟨true, [.rows ((L.length + 1)) 2 (gP (twF L i))]⟩]) (L.length) ⟨0, by omega, rfl, rfl, rfl⟩ (wk hE [0]) ?_
 rintro n_ T_ H_ ⟨i, hi, rfl, rfl, rfl⟩
 refine w_seq ?_
 refine g_reg hP hn ?_
 refine s_op k_lss ?_
 refine s_nil trivial ?_
 refine n_wp ?_
 refine w_seq ?_
 refine w_if rfl (fun h_t13 => ?_) (fun h_t13 => ?_)
 · skip
   refine w_skip ?_
   refine n_wp ?_
   refine w_seq ?_
   refine w_block ?_
   refine w_seq ?_
   refine g_reg hP hn ?_
   refine s_op k_ix ?_
   refine s_op k_ldP ?_
   refine s_op k_al ?_
   refine s_st k_st ?_
   refine s_nil trivial ?_
   refine n_wp ?_
   refine g_reg hP hn ?_
   refine s_op k_mv ?_
   refine s_op k_ld ?_
   refine s_op (k_call [] (con := twin_n (L.getD i p0).1 (L.getD i p0).2 (hbd i h_t13))) ?_
   refine s_op (k_bsR [PR (L.getD i p0)]) ?_
   refine s_op (k_apiW (gP (twF L (i + 1))) (hg := tw_g L i) (hg2 := tw_g2 L i _)) ?_
   refine s_op k_as ?_
   refine s_nil trivial ?_
   refine n_blo ?_
   refine n_wp ?_
   refine g_reg hP hn ?_
   refine s_op k_add ?_
   refine s_op k_mv ?_
   refine s_nil trivial ?_
   exact n_round (L.length - (i + 1)) (by omega) ⟨i + 1, by omega, rfl, rfl, rfl⟩ (wk hE [0])
 · skip
   refine w_exit ?_
   refine x_thn ?_
   refine x_thn ?_
   refine x_eq ?_
   refine n_wp ?_
   refine w_seq ?_
   refine g_reg hP hn ?_
   refine s_op k_mv ?_
   refine s_op k_as ?_
   refine s_nil trivial ?_
   refine n_wp ?_
   refine w_ret ?_
   obtain rfl : i = L.length := Nat.le_antisymm hi (by omega)
   exact d_ret hP hn hE [0] (r_tmp Tryz.results31)

theorem twins_c (L : List Pc) (hLb : L.length ≤ 900000) (hbd : ∀ i, i < L.length → (L.getD i p0).2.length ≤ 1000000) : Con Tryz.prog 31 [.s (PARS L)] [] (.s (.slice 0 0 0 L.length (L.length + 1))) [some ⟨true, [.rows ((L.length + 1)) 2 (gP (kpF L))]⟩] := tw_kp L ▸ twins_m L hLb hbd

set_option maxRecDepth 100000 in
set_option maxHeartbeats 4000000 in
theorem clp_n (k c cc : Nat) (g : Nat → Nat → SV) (hk : k ≤ cc) : Con Tryz.prog 29 [.s (.slice 0 0 0 k cc)] [some ⟨true, [.rows c 2 g]⟩] (.s (.slice 0 0 0 k k)) [some ⟨true, [.rows c 2 g]⟩] := by
 refine con_in 9 Tryz.func29 rfl rfl (m := 1) rfl ?_
 intro E hP hn hE
 refine w_seq ?_
 refine g_reg hP hn ?_
 refine s_op k_as ?_
 refine s_nil trivial ?_
 refine n_wp ?_
 refine w_seq ?_
 refine g_reg hP hn ?_
 refine s_op k_mv ?_
 refine s_op k_mv ?_
 refine s_op k_len ?_
 refine s_op k_mv ?_
 refine s_op k_len ?_
 refine s_op k_sl ?_
 refine s_op k_as ?_
 refine s_nil trivial ?_
 refine n_wp ?_
 refine w_ret ?_
 exact d_ret hP hn hE [0] (by first | exact r_tmp Tryz.results29 | exact r_tmpa Tryz.results29)

set_option maxRecDepth 100000 in
set_option maxHeartbeats 4000000 in
theorem del_n {f m : Nat} {q : Nat → SV} (pr : Nat → Bool) [Clb Tryz.prog f] (hf : ∀ p : Pc, Con Tryz.prog f [.agg (PR p), .s (.fptr m q 0 0)] [] (.s (.bool (pr p.1))) []) (L : List Pc) (hLb : L.length ≤ 900000) (hno : ∀ k, k < L.length → pr (L.getD k p0).1 = false) : Con Tryz.prog 37 [.s (.slice 0 0 0 L.length (L.length + 1)), .s (.noid (.clo f 1 (capF [(.fptr m q 0 0)])))] [some ⟨true, [.rows ((L.length + 1)) 2 (gP (kpF L))]⟩] (.s (.slice 0 0 0 L.length (L.length + 1))) [some ⟨true, [.rows ((L.length + 1)) 2 (gP (kpF L))]⟩] := by
 refine con_in 42 Tryz.func37 rfl rfl (m := 1) rfl ?_
 intro E hP hn hE
 refine w_seq ?_
 refine g_reg hP hn ?_
 refine s_op k_as ?_
 refine s_nil trivial ?_
 refine n_wp ?_
 refine w_seq ?_
 refine g_reg hP hn ?_
 refine s_op k_mv ?_
 refine s_op k_mv ?_
 refine s_op (k_tmp 0 (h := k_call [] (con := idx_n pr hf L (by omega) hno) (hargs := by exact .cons rfl (conv_slW (id := 0) (k := ⟨false, [.rows (L.length + 1) 2 (gP (kpF L))]⟩) rfl rfl rfl (by omega) (by omega) (fun _ _ _ _ => rfl)) (.cons rfl cv .nil)))) ?_
 refine s_op k_as ?_
 refine s_nil trivial ?_
 refine n_wp ?_
 refine w_seq ?_
 refine w_seq ?_
 refine g_reg hP hn ?_
 refine s_op k_mv ?_
 refine s_op (l_bin rfl rfl (b_eql (r := true) (by decide))) ?_
 refine s_nil trivial ?_
 refine n_wp ?_
 refine w_T rfl ?_ 
 refine w_seq ?_
 refine g_reg hP hn ?_
 refine s_op k_mv ?_
 refine s_op k_as ?_
 refine s_nil trivial ?_
 refine n_wp ?_
 refine w_ret ?_
 refine r_thn ?_
 exact d_ret hP hn hE [0] (by first | exact r_tmp Tryz.results37 | exact r_tmpa Tryz.results37)

set_option maxRecDepth 100000 in
set_option maxHeartbeats 4000000 in
theorem del_y {f m : Nat} {q : Nat → SV} (pr : Nat → Bool) [Clb Tryz.prog f] (hf : ∀ p : Pc, Con Tryz.prog f [.agg (PR p), .s (.fptr m q 0 0)] [] (.s (.bool (pr p.1))) []) (L : List Pc) (hLb : L.length ≤ 900000) (j : Nat) (hj : j < L.length) (hno : ∀ k, k < j → pr (L.getD k p0).1 = false) (hy : pr (L.getD j p0).1 = true) : Con Tryz.prog 37 [.s (.slice 0 0 0 L.length (L.length + 1)), .s (.noid (.clo f 1 (capF [(.fptr m q 0 0)])))] [some ⟨true, [.rows ((L.length + 1)) 2 (gP (kpF L))]⟩] (.s (.slice 0 0 0 (keepL pr L).length (L.length + 1))) [some ⟨true, [.rows ((L.length + 1)) 2 (gP (kpF (keepL pr L)))]⟩] := by
 refine con_in 42 Tryz.func37 rfl rfl (m := 1) rfl ?_
 intro E hP hn hE
 refine w_seq ?_
 refine g_reg hP hn ?_
 refine s_op k_as ?_
 refine s_nil trivial ?_
 refine n_wp ?_
 refine w_seq ?_
 refine g_reg hP hn ?_
 refine s_op k_mv ?_
 refine s_op k_mv ?_
 refine s_op (k_tmp 0 (h := k_call [] (con := idx_y pr hf L (by omega) j hj hno hy) (hargs := by exact .cons rfl (conv_slW (id := 0) (k := ⟨false, [.rows (L.length + 1) 2 (gP (kpF L))]⟩) rfl rfl rfl (by omega) (by omega) (fun _ _ _ _ => rfl)) (.cons rfl cv .nil)))) ?_
 refine s_op k_as ?_
 refine s_nil trivial ?_
 refine n_wp ?_
 refine w_seq ?_
 refine w_seq ?_
 refine g_reg hP hn ?_
 refine s_op k_mv ?_
 refine s_op (l_bin rfl rfl (b_eql (r := false) (decide_eq_false (by omega)))) ?_
 refine s_nil trivial ?_
 refine n_wp ?_
 refine w_F rfl ?_ 
 refine w_skip ?_
 refine n_wp ?_
 refine w_seq ?_
 refine w_seq ?_
 refine g_reg hP hn ?_
 refine s_op k_mv ?_
 refine s_op k_add ?_
 refine s_op k_as ?_
 refine s_nil trivial ?_
 refine n_wp ?_
 refine w_block ?_
 refine c_loop (fun m_ T H => ∃ i F, i ≤ L.length ∧ m_ = L.length - i ∧ 0 < i ∧ (keepL pr (L.take i)).length < i ∧ DelI pr L i F ∧ T = [(0, .s (.slice 0 0 0 L.length (L.length + 1))), (1, .s (.noid (.clo f 1 (capF [(.fptr m q 0 0)])))), (5, .s (.int .i64 (((keepL pr (L.take i)).length : Nat) : Int))), (6, .s (.int .i64 ((i : Nat) : Int)))] ∧ H = [some ⟨true, [.rows ((L.length + 1)) 2 (gP (F))]⟩]) (L.length - (j + 1)) ⟨j + 1, kpF L, by omega, rfl, by omega, by rw [(DelI.start hj hno hy).2]; omega, (DelI.start hj hno hy).1, by rw [(DelI.start hj hno hy).2], rfl⟩ (wk hE [0]) ?_
 rintro n_ T_ H_ ⟨i, F, hi, rfl, hi0, hki, hF, rfl, rfl⟩
 refine w_seq ?_
 refine w_seq ?_
 refine g_reg hP hn ?_
 refine s_op k_mv ?_
 refine s_op k_mv ?_
 refine s_op k_len ?_
 refine s_op k_lss ?_
 refine s_nil trivial ?_
 refine n_wp ?_
 refine w_if rfl (fun h_t19 => ?_) (fun h_t19 => ?_)
 · skip
   refine w_skip ?_
   refine n_wp ?_
   refine w_seq ?_
   refine w_block ?_
   refine w_seq ?_
   refine g_reg hP hn ?_
   refine s_op k_mv ?_
   refine s_op k_mv ?_
   refine s_op k_ix ?_
   refine s_op (k_ldM i) ?_
   refine s_op k_al ?_
   refine s_st k_st ?_
   refine s_nil trivial ?_
   refine n_wp ?_
   refine w_seq ?_
   refine g_reg hP hn ?_
   refine s_op k_mv ?_
   refine s_op k_ld ?_
   refine s_op (k_callN [(.fptr m q 0 0)] (con := hf (F i))) ?_
   refine s_op k_not ?_
   refine s_nil trivial ?_
   refine n_wp ?_
   refine w_cond rfl (fun h_t29 => ?_) (fun h_t29 => ?_)
   · skip
     have h_p : pr (L.getD i p0).1 = false := by
      rw [hF.hi i (Nat.le_refl _)] at h_t29
      simpa [kpF] using h_t29
     have hN := hF.yes h_t19 h_p
     refine w_seq ?_
     refine g_reg hP hn ?_
     refine s_op k_mv ?_
     refine s_op k_mv ?_
     refine s_op k_ld ?_
     refine s_op k_ix ?_
     refine s_st (k_stW (keepL pr (L.take i)).length (gP (setF F (keepL pr (L.take i)).length (F i))) (hg := fun b hb => by rw [gP_at, setF, if_pos rfl]) (hg2 := fun a b h1 h2 h3 => gP_congr (by rw [setF, if_neg h1]) b)) ?_
     refine s_nil trivial ?_
     refine n_wp ?_
     refine g_reg hP hn ?_
     refine s_op k_mv ?_
     refine s_op k_add ?_
     refine s_op k_as ?_
     refine s_nil trivial ?_
     refine n_blo ?_
     refine n_wp ?_
     refine g_reg hP hn ?_
     refine s_op k_mv ?_
     refine s_op k_add ?_
     refine s_op k_as ?_
     refine s_nil trivial ?_
     exact n_round (L.length - (i + 1)) (by omega) ⟨i + 1, _, by omega, rfl, by omega, by rw [hN.2]; omega, hN.1, by rw [hN.2], rfl⟩ (wk hE [0])
   · skip
     have h_p : pr (L.getD i p0).1 = true := by
      rw [hF.hi i (Nat.le_refl _)] at h_t29
      simpa [kpF] using h_t29
     have hN := hF.no h_t19 h_p
     refine w_skip ?_
     refine n_blo ?_
     refine n_wp ?_
     refine g_reg hP hn ?_
     refine s_op k_mv ?_
     refine s_op k_add ?_
     refine s_op k_as ?_
     refine s_nil trivial ?_
     exact n_round (L.length - (i + 1)) (by omega) ⟨i + 1, _, by omega, rfl, by omega, by rw [hN.2]; omega, hN.1, by rw [hN.2], rfl⟩ (wk hE [0])
 · skip
   obtain rfl : i = L.length := Nat.le_antisymm hi (by omega)
   have hD := hF.done
   rw [List.take_length] at hki
   have hTl : L.take L.length = L := List.take_length
   rw [hTl]
   refine w_exit ?_
   refine x_thn ?_
   refine x_thn ?_
   refine x_eq ?_
   refine n_wp ?_
   refine w_seq ?_
   refine g_reg hP hn ?_
   refine s_op k_mv ?_
   refine s_op k_mv ?_
   refine s_op k_sl ?_
   refine s_st (k_clW (keepL pr L).length (PR p0) (gP (kpF (keepL pr L))) Tryz.zeroValue40 (hone := by simp [Value.cells, Value.oneCell']) (hg := fun a b ha hb => by rw [gP_at, kp_out (by omega)]) (hg2 := fun a b h1 h2 h3 => gP_congr ((Nat.lt_or_ge a (keepL pr L).length).elim (fun h => (hD.1 a h).symm) (fun h => (hD.2 a (by omega)).symm)) b)) ?_
   refine s_nil trivial ?_
   refine n_wp ?_
   refine w_seq ?_
   refine g_reg hP hn ?_
   refine s_op k_mv ?_
   refine s_op k_mv ?_
   refine s_op k_sl ?_
   refine s_op k_as ?_
   refine s_nil trivial ?_
   refine n_wp ?_
   refine w_ret ?_
   exact d_ret hP hn hE [0] (by first | exact r_tmp Tryz.results37 | exact r_tmpa Tryz.results37)

theorem del_c {f m : Nat} {q : Nat → SV} (pr : Nat → Bool) [Clb Tryz.prog f] (hf : ∀ p : Pc, Con Tryz.prog f [.agg (PR p), .s (.fptr m q 0 0)] [] (.s (.bool (pr p.1))) []) (L : List Pc) (hLb : L.length ≤ 900000) : Con Tryz.prog 37 [.s (.slice 0 0 0 L.length (L.length + 1)), .s (.noid (.clo f 1 (capF [(.fptr m q 0 0)])))] [some ⟨true, [.rows ((L.length + 1)) 2 (gP (kpF L))]⟩] (.s (.slice 0 0 0 (keepL pr L).length (L.length + 1))) [some ⟨true, [.rows ((L.length + 1)) 2 (gP (kpF (keepL pr L)))]⟩] := by
 rcases first_or pr L with ⟨j, h1, h2, h3, _⟩ | ⟨h1, _⟩
 · exact del_y pr hf L hLb j h1 h2 h3
 · rw [keep_none h1]; exact del_n pr hf L hLb h1

set_option maxRecDepth 100000 in
set_option maxHeartbeats 4000000 in
theorem below_m (L : List Pc) (t : Nat) (hLb : L.length ≤ 800000) (hbd : ∀ i, i < L.length → (L.getD i p0).2.length ≤ 1000000)  : Con Tryz.prog 12 [.s (PARS L), .s (.int .u16 ((t : Nat) : Int))] [] (.s (.slice 0 0 0 (keepL (fun x => decide (t ≤ x)) L).length (keepL (fun x => decide (t ≤ x)) L).length)) [some ⟨true, [.rows ((L.length + 1)) 2 (gP (kpF (keepL (fun x => decide (t ≤ x)) L)))]⟩] := by
 refine con_in 10 Tryz.func12 rfl rfl (m := 0) rfl ?_
 intro E hP hn hE
 refine w_seq ?_
 refine g_reg hP hn ?_
 refine s_op k_bxs ?_
 refine s_op k_as ?_
 refine s_nil trivial ?_
 refine n_wp ?_
 refine w_seq ?_
 refine g_reg hP hn ?_
 refine s_op k_mv ?_
 refine s_op (k_call [] (con := twins_c L (by omega) hbd)) ?_
 refine s_op (k_fnN [(.fptr 1 (cellsF [.one (.int .u16 ((t : Nat) : Int))]) 0 0)]) ?_
 refine s_op (k_call [1] (con := del_c (fun x => decide (t ≤ x)) (below1_n t) L (by omega))) ?_
 refine s_op (k_call [1] (con := clp_n _ _ _ _ (Nat.le_succ_of_le (keepL_le _ L)))) ?_
 refine s_op k_as ?_
 refine s_nil trivial ?_
 refine n_wp ?_
 refine w_ret ?_
 exact d_ret hP hn hE [1] (by first | exact r_tmp Tryz.results12 | exact r_tmpa Tryz.results12)

end Go.Proofs.X
end
