/- A part of the proofs of this claim: YRow (YRowW1, YRowW2, YRowW3). No conditions. -/
import Derived.Test.YthlkbpkjmkdilaaGreatSpecA
import Derived.Test.YthlkbpkjmkdilaaGreatYShaA
import Derived.Test.YthlkbpkjmkdilaaGreatAbC
set_option linter.unusedVariables false
set_option linter.unusedSimpArgs false
section
open Go Go.Ab Go.Proofs
namespace Go.Proofs.X
theorem callable_265 : Callable Tryz.prog 265 := ⟨_, Tryz.func265, by kernel_rfl, rfl⟩
theorem callable_304 : Callable Tryz.prog 304 := ⟨_, Tryz.func304, by kernel_rfl, rfl⟩
theorem callable_205 : Callable Tryz.prog 205 := ⟨_, Tryz.func205, by kernel_rfl, rfl⟩
set_option maxRecDepth 100000 in
set_option maxHeartbeats 2000000 in
theorem backward_c (H : Heap) (id sh n cap : Nat) (hid : id < H.length) : ACall Tryz.prog 265 H [.s (.slice id (0 + sh) 0 n cap)] (.s (.clo 304 [(H.length + 0, 0 + 0, 0)])) [⟨true, [.one (.slice id (0 + sh) 0 n cap)]⟩] := by
  refine acall_gen2 (args0 := [.s (.slice 0 0 0 n cap)]) (H0 := [none]) (Hf := [none, some ⟨true, [.one (.slice 0 0 0 n cap)]⟩]) (v0 := .s (.clo 304 [(1, 0, 0)])) [(id, sh)] [1] Tryz.func265 rfl Tryz.ntmps265 (by simp) rfl
    (fun k id sh b0 h1 h2 => by match k, h1, h2 with | 0, _, h2 => simp at h2 | k + 1, h1, _ => simp at h1)
    (fun W ρ vals w hH ha k id' sh' hk => by match k, hk with | 0, hk => (simp at hk; obtain ⟨rfl, rfl⟩ := hk; exact ⟨hid, live_slice (i := 0) ha rfl⟩) | k + 1, hk => simp at hk)
    rfl rfl rfl (by decide) rfl rfl rfl (fun W w ρ0 hW hdom => ?_)
  refine w_seq ?_
  refine c_reg (by kernel_rfl) rfl ?_
  refine s_a (by first | exact h_box_agg rfl rfl | exact h_box rfl (by simp) rfl) rfl ?_
  refine s_p (by first | exact h_assign (v := .s _) rfl | exact h_assign (v := .agg _) rfl | exact h_assign (v := .tup _) rfl) ?_
  refine s_nil ?_
  refine n_wp ?_
  refine w_seq ?_
  refine c_reg (by kernel_rfl) rfl ?_
  refine s_p (h_mkfunc (caps := [(1, 0, 0)]) rfl) ?_
  refine s_p (by first | exact h_assign (v := .s _) rfl | exact h_assign (v := .agg _) rfl | exact h_assign (v := .tup _) rfl) ?_
  refine s_nil ?_
  refine n_wp ?_
  refine w_ret ?_
  exact doneM (by repeat (first | exact trivial | refine ⟨rfl, ?_⟩)) (ret_tmp Tryz.results265 rfl)
def I79 (l bx nw : Nat) (Hs : Nat → Heap) (n : Nat) (T : Tm) (H : Heap) : Prop := ∃ k : Nat, k ≤ nw ∧ n = nw - k ∧
  T = [(0, .s (.val (.func (.yield l) #[] #[]))), (1, .s (.ptr bx 0 0)), (3, .s (.int .i64 ((nw : Int) - 1 - k)))] ∧ H = Hs k
theorem take_all {H H' : Heap} (h : H = H') : H.take H'.length = H' := by subst h; exact List.take_length
theorem lowT (l bx nw k : Nat) {H : Heap} (hb : bx < H.length) (h : (H.all fun | none => true | some b => b.segs.all (Seg.lowB H.length)) = true) : belowAll [(0, .s (.val (.func (.yield l) #[] #[]))), (1, .s (.ptr bx 0 0)), (3, .s (.int .i64 ((nw : Int) - 1 - (k : Nat))))] H = true := by
  simp only [belowAll, Bool.and_eq_true]
  refine ⟨?_, h⟩
  have hb' : Nat.blt bx H.length = true := by rw [Nat.blt_eq]; exact hb
  simp [AV.lowB, SV.lowB, hb']
set_option maxRecDepth 100000 in
set_option maxHeartbeats 2000000 in
theorem back_iter (W : Nat → Prop) (w0 : World) (ρ0 : Rho) (n nE : Nat) (hW : ∀ b, w0.heap.size ≤ b → W b) (hdom : ∀ id, nE ≤ id → ρ0 id = none) (bx iw nw capw : Nat) (ws : List Int) (assign body : Code) (T : Tm) (Hs : Nat → Heap) (hnw : nw ≤ 1000) (h23 : 24 < n)
    (hlen : ∀ k, (Hs k).length = (Hs 0).length) (hlow : ∀ k, ((Hs k).all fun | none => true | some b => b.segs.all (Seg.lowB (Hs k).length)) = true) (hbx : ∀ k, k ≤ nw → (Hs k)[bx]? = some (some ⟨true, [.one (.slice iw 0 0 nw capw)]⟩)) (hiw : ∀ k, k ≤ nw → ∃ b, (Hs k)[iw]? = some (some b) ∧ b.segs = [.ints .u64 nw ws])
    (hY : ∀ k, k < nw → YRound Tryz.prog n assign body (roundT [23, 24] [.s (.int .i64 ((nw : Int) - 1 - k)), .s (.int .u64 (ws.getD (nw - 1 - k) 0))] T) (Hs k) (Hs (k + 1))) : Iter ⟨Tryz.prog, W, w0, ρ0, n, nE, hW, hdom⟩ 304 [(bx, 0, 0)] #[23, 24] assign body T (Hs 0) (Hs nw) := by
  intro l D ρ tm w1 fn vs hH hd hT htm hW1 hWl hl hvs
  have hTr := hT
  have hbel := fun k => lowT l bx nw k (H := Hs k) (by have := hbx 0 (by omega); have := (List.getElem?_eq_some_iff.1 this).1; have := hlen k; omega) (hlow k)
  have hvs1 : vs.size = 1 := hvs.1
  have hps : ∀ p ∈ (#[23, 24] : Array Tmp).toList, p < n := by
    intro p hp
    have hp' : p = 23 ∨ p = 24 := by simpa using hp
    rcases hp' with rfl | rfl
    · exact Nat.lt_trans (by decide) h23
    · exact h23
  refine calls_enter (W := W) (ρ0 := ρ) (H0 := Hs 0) (args := [.s (.val (.func (.yield l) #[] #[])), .s (.ptr bx 0 0)]) Tryz.func304 rfl hW1 hH hd ⟨by simp [hvs1], fun i x hx => ?_⟩ (by show 2 ≤ 19; omega) (i_of ?_)
  · match i, hx with
    | 0, hx =>
      simp at hx; subst hx
      refine ⟨?_, rfl⟩
      rw [Array.getD_eq_getD_getElem?, Array.getElem?_append_left (by simp)]; rfl
    | 1, hx =>
      simp at hx; subst hx
      obtain ⟨b, o, e1, e2⟩ := hvs.2 0 (bx, 0, 0) rfl
      refine ⟨b, o, e1, ?_⟩
      have hv0 : vs[0]? = some (.pointer (some ⟨b, o + 0 + 0, none⟩)) := e2
      show (#[Value.func (.yield l) #[] #[]] ++ vs).getD 1 undef = _
      rw [Array.getD_eq_getD_getElem?, Array.getElem?_append_right (by simp)]
      simp [hv0]
    | i + 2, hx => simp at hx
  rw [Tryz.ntmps304]
  refine i_seq ?_
  refine i_reg (by kernel_rfl) (by kernel_rfl) rfl ?_
  refine s_p (h_load_one rfl (hbx 0 (by omega)) rfl Tryz.isAgg97) ?_
  refine s_p (by first | exact h_len rfl Tryz.underlying97 | exact h_len_nil rfl Tryz.underlying97 | exact h_len_val rfl Tryz.underlying97) ?_
  refine s_p (by first | exact h_bin rfl rfl (b_sub (Go.IntWalk.i64_in _ (by omega))) | exact h_bin rfl rfl (b_sub rfl)) ?_
  refine s_p (by first | exact h_assign (v := .s _) rfl | exact h_assign (v := .agg _) rfl | exact h_assign (v := .tup _) rfl) ?_
  refine s_nil ?_
  refine ni_wp ?_
  refine i_block ?_
  refine i_loop (I79 l bx nw Hs) nw (T' := [(0, .s (.val (.func (.yield l) #[] #[]))), (1, .s (.ptr bx 0 0)), (3, .s (.int .i64 ((nw : Int) - 1)))]) ⟨0, by omega, rfl, by simp, rfl⟩ (weak' (by repeat (first | exact trivial | refine ⟨rfl, ?_⟩)) (take_all rfl) (by have := hbel 0; simpa using this) (Nat.le_refl _)) ?_
  rintro n T H ⟨k, hk, rfl, rfl, rfl⟩
  refine i_seq ?_
  refine i_seq ?_
  refine i_reg (by kernel_rfl) (by kernel_rfl) rfl ?_
  refine s_p (by first | exact h_move (v := .s _) rfl | exact h_move (v := .agg _) rfl | exact h_move (v := .tup _) rfl) ?_
  refine s_p (h_bin rfl rfl (b_geq rfl)) ?_
  refine s_nil ?_
  refine ni_wp ?_
  refine i_cond rfl (fun hc_t8 => ?_) (fun hc_t8 => ?_)
  · skip
    have hlt : k < nw := by have := of_decide_eq_true hc_t8; omega
    obtain ⟨ib, hib, his⟩ := hiw k hk
    refine i_skip ?_
    refine ni_wp ?_
    refine i_seq ?_
    refine i_block ?_
    refine i_seq ?_
    refine i_regY 6 (by kernel_rfl) (by kernel_rfl) rfl rfl rfl rfl ?_
    refine s_p (by first | exact h_move (v := .s _) rfl | exact h_move (v := .agg _) rfl | exact h_move (v := .tup _) rfl) ?_
    refine s_p (by first | exact h_move (v := .s _) rfl | exact h_move (v := .agg _) rfl | exact h_move (v := .tup _) rfl) ?_
    refine s_p (h_load_one rfl (hbx k hk) rfl Tryz.isAgg97) ?_
    refine s_p (by first | exact h_move (v := .s _) rfl | exact h_move (v := .agg _) rfl | exact h_move (v := .tup _) rfl) ?_
    refine s_p (h_ixs0l (nw - 1 - k) rfl rfl (by omega) Tryz.underlying97 Tryz.sizeOf32 (by omega)) ?_
    refine s_p (h_load_ints rfl hib (by rw [his]; rfl) (by omega) rfl Tryz.isAgg32) ?_
    refine s_nil ?_
    refine ⟨_, Hs (k + 1), yield_op rfl rfl (by kernel_rfl) hl hWl hTr htm hps rfl (hY k hlt), ?_⟩
    refine s_p (h_not rfl) ?_
    refine s_nil ?_
    refine ni_wp ?_
    refine i_cond rfl (fun hc_t18 => ?_) (fun hc_t18 => ?_)
    · exact absurd hc_t18 (by simp at hc_t18)
    refine i_skip ?_
    refine n_blo ?_
    refine ni_wp ?_
    refine i_reg (by kernel_rfl) (by kernel_rfl) rfl ?_
    refine s_p (by first | exact h_move (v := .s _) rfl | exact h_move (v := .agg _) rfl | exact h_move (v := .tup _) rfl) ?_
    refine s_p (by first | exact h_bin rfl rfl (b_sub (Go.IntWalk.i64_in _ (by omega))) | exact h_bin rfl rfl (b_sub rfl)) ?_
    refine s_p (by first | exact h_assign (v := .s _) rfl | exact h_assign (v := .agg _) rfl | exact h_assign (v := .tup _) rfl) ?_
    refine s_nil ?_
    exact n_round (nw - (k + 1)) (by omega) ⟨k + 1, by omega, rfl, rfl, rfl⟩ (weak' (by repeat (first | exact trivial | refine ⟨rfl, ?_⟩ | refine ⟨show AV.s (SV.int .i64 ((nw : Int) - 1 - k - 1)) = AV.s (SV.int .i64 ((nw : Int) - 1 - ((k + 1 : Nat) : Int))) by rw [show (nw : Int) - 1 - ((k + 1 : Nat) : Int) = (nw : Int) - 1 - (k : Int) - 1 by omega], ?_⟩)) (take_all rfl) (hbel (k + 1)) (by have := hlen (k + 1); show (Hs 0).length ≤ _; omega))
  · skip
    have hke : k = nw := by have := of_decide_eq_false hc_t8; omega
    subst hke
    refine i_exit ?_
    refine x_thn ?_
    refine x_thn ?_
    refine x_eq ?_
    exact ⟨.inr rfl, .tup [], ret_none Tryz.results304, fun v' ρ' w' h1 h2 h3 h4 h5 => ⟨⟨_, rfl⟩, ρ', h2, h4, h3, h5⟩⟩
end Go.Proofs.X
end

section
open Go Go.Ab Go.Proofs
namespace Go.Proofs.X
theorem infoB5 : Tryz.prog.info? 5 = some Tryz.t5 := by kernel_rfl
def HRn (each N tot : Nat) (ws : List Int) (out : List Int) (p : Nat) : Heap := [some ⟨false, [.ints .u64 N ws]⟩, some ⟨true, [.one (.int .i64 ((each : Nat) : Int))]⟩, some ⟨true, [.ints .u8 tot out]⟩, some ⟨true, [.one (.slice 2 0 0 tot tot)]⟩, some ⟨true, [.one (.int .i64 ((p : Nat) : Int))]⟩, some ⟨true, [.one (.slice 0 0 0 N N)]⟩]
def I59HRn (each N tot : Nat) (ws : List Int) (out : List Int) (p : Nat) (v : Int) (n : Nat) (T : Tm) (H : Heap) : Prop := ∃ j : Nat, j ≤ each ∧ n = each - j ∧
  T = [(7, .s (.ptr 3 0 0)), (8, .s (.ptr 4 0 0)), (10, .s (.int .u64 (rb out p v j).2)), (25, .s (.int .i64 ((each : Nat) : Int))), (26, .s (.int .i64 ((j : Nat) : Int)))] ∧ H = HRn each N tot ws (rb out p v j).1 (p - j)
set_option maxRecDepth 100000 in
set_option maxHeartbeats 2000000 in
theorem row_n (H : Heap) (jw sw each N tot : Nat) (ws : List Int) (bw : Blk) (hws : ws.length = N) (hw : H[jw]? = some (some bw)) (hwr : ∀ (i : Nat) (y : SV), atS [.ints .u64 N ws] i = some y → atS bw.segs (sw + i) = some y) (hN : N ≤ 4) (he : each ≤ 8) (ht : tot = 0 + each * N) (htb : tot ≤ 140737488355328) : ACall Tryz.prog 205 H [.s .nils, .s (.int .i64 ((each : Nat) : Int)), .s (.slice jw (0 + sw) 0 N N)] (.s (.slice (H.length + 0) (0 + 0) 0 tot tot)) [⟨true, [.ints .u8 tot (rr tot each N ws N)]⟩] := by
  have hjw : jw < H.length := (List.getElem?_eq_some_iff.1 hw).1
  refine acall_gen2 (args0 := [.s .nils, .s (.int .i64 ((each : Nat) : Int)), .s (.slice 0 0 0 N N)]) (H0 := [some ⟨false, [.ints .u64 N ws]⟩]) (Hf := [none, none, some ⟨true, [.ints .u8 tot (rr tot each N ws N)]⟩]) (v0 := .s (.slice 2 0 0 tot tot)) [(jw, sw)] [2] Tryz.func205 rfl Tryz.ntmps205 (by simp) rfl
    (fun k id' sh' b0 h1 h2 => by
      match k, h1, h2 with
      | 0, h1, h2 => simp at h1 h2; obtain ⟨rfl, rfl⟩ := h1; subst h2; exact ⟨rfl, rfl, _, hw, fun i y hy => by (have h := hwr i y hy; obtain ⟨_, rfl⟩ := atS_ints1 hy; exact h)⟩
      | k + 1, h1, _ => simp at h1)
    (fun W ρ vals w hH ha k id' sh' hk => by
      match k, hk with
      | 0, hk => simp at hk; obtain ⟨rfl, rfl⟩ := hk; exact ⟨hjw, live_slice (i := 2) ha rfl⟩
      | k + 1, hk => simp at hk)
    rfl rfl rfl (by decide) rfl rfl rfl (fun W w ρ0 hW hdom => ?_)
  have hm : each * N ≤ 32 := Nat.mul_le_mul he hN
  refine w_seq ?_
  refine c_reg (by kernel_rfl) rfl ?_
  refine s_a (by first | exact h_box_agg rfl rfl | exact h_box rfl (by simp) rfl) rfl ?_
  refine s_p (by first | exact h_assign (v := .s _) rfl | exact h_assign (v := .agg _) rfl | exact h_assign (v := .tup _) rfl) ?_
  refine s_nil ?_
  refine n_wp ?_
  refine w_seq ?_
  refine c_reg (by kernel_rfl) rfl ?_
  refine s_p (by first | exact h_move (v := .s _) rfl | exact h_move (v := .agg _) rfl | exact h_move (v := .tup _) rfl) ?_
  refine s_p (by first | exact h_len rfl Tryz.underlying49 | exact h_len_nil rfl Tryz.underlying49 | exact h_len_val rfl Tryz.underlying49) ?_
  refine s_p (by first | exact h_load_ints rfl rfl rfl (by omega) rfl Tryz.isAgg3 | exact h_load_one rfl rfl rfl Tryz.isAgg3) ?_
  refine s_p (by first | exact h_move (v := .s _) rfl | exact h_move (v := .agg _) rfl | exact h_move (v := .tup _) rfl) ?_
  refine s_p (by first | exact h_len rfl Tryz.underlying97 | exact h_len_nil rfl Tryz.underlying97 | exact h_len_val rfl Tryz.underlying97) ?_
  refine s_p (h_bin rfl rfl (b_mul (r := ((each * N : Nat) : Int)) (wr_n (by rw [Int.natCast_mul]) (by omega)))) ?_
  refine s_p (h_bin rfl rfl (b_add (r := ((tot : Nat) : Int)) (wr_n (by omega) (by omega)))) ?_
  refine s_a (h_make (l := tot) (c := tot) rfl rfl (Nat.le_refl _) (by rw [show Tryz.t5.bytes = 1 from rfl]; omega) (by omega) Tryz.underlying49 infoB5 rfl rfl rfl) rfl ?_
  refine s_a (h_alloc (segs := [.one .nils]) Tryz.zeroValue49 (by kernel_rfl) rfl) rfl ?_
  refine s_st (by first | exact m_store_int rfl rfl rfl rfl (by omega) (by (rw [rb_len, rr_len])) Tryz.sizeOf49 rfl | exact m_store_one rfl rfl (by simp) rfl rfl Tryz.sizeOf49 rfl) ?_
  refine s_nil ?_
  refine n_wp ?_
  refine w_seq ?_
  refine c_reg (by kernel_rfl) rfl ?_
  refine s_p (by first | exact h_load_ints rfl rfl rfl (by omega) rfl Tryz.isAgg49 | exact h_load_one rfl rfl rfl Tryz.isAgg49) ?_
  refine s_p (by first | exact h_len rfl Tryz.underlying49 | exact h_len_nil rfl Tryz.underlying49 | exact h_len_val rfl Tryz.underlying49) ?_
  refine s_a (h_alloc (segs := [.one (.int .i64 0)]) Tryz.zeroValue3 (by kernel_rfl) rfl) rfl ?_
  refine s_st (by first | exact m_store_int rfl rfl rfl rfl (by omega) (by (rw [rb_len, rr_len])) Tryz.sizeOf3 rfl | exact m_store_one rfl rfl (by simp) rfl rfl Tryz.sizeOf3 rfl) ?_
  refine s_nil ?_
  refine n_wp ?_
  refine w_seq ?_
  refine w_seq ?_
  refine c_reg (by kernel_rfl) rfl ?_
  refine s_p (by first | exact h_move (v := .s _) rfl | exact h_move (v := .agg _) rfl | exact h_move (v := .tup _) rfl) ?_
  refine s_nb (h_call callable_265 rfl (backward_c _ 0 0 N N (Nat.le_of_ble_eq_true rfl))) rfl ?_
  refine s_nil ?_
  refine n_wp ?_
  refine w_block ?_
  refine w_rangeFunc rfl callable_304 (back_iter W w ρ0 44 _ hW hdom 5 0 N N ws _ _ _ (fun k => HRn each N tot ws (rr tot each N ws k) (tot - each * k)) (by omega) (by decide) (fun _ => rfl) (fun _ => rfl) (fun _ _ => rfl) (fun _ _ => ⟨_, rfl, rfl⟩) (fun k hk => ⟨[(4, .s (.ptr 1 0 0)), (7, .s (.ptr 3 0 0)), (8, .s (.ptr 4 0 0)), (10, .s (.int .u64 (ws.getD (N - 1 - k) 0)))], fun l1 W1 w1 ρ1 hW1 hdom1 => ⟨?_, ?_⟩⟩)) ?_
  · skip
    refine i_reg (by kernel_rfl) (by kernel_rfl) rfl ?_
    refine s_p (by first | exact h_assign (v := .s _) rfl | exact h_assign (v := .agg _) rfl | exact h_assign (v := .tup _) rfl) ?_
    refine s_nil ?_
    exact ⟨rfl, weak' (by repeat (first | exact trivial | refine ⟨rfl, ?_⟩)) rfl rfl (Nat.le_refl _)⟩
  · skip
    have hke : each * k + each ≤ each * N := Nat.mul_le_mul_left each (show k + 1 ≤ N from hk)
    obtain ⟨p, hp⟩ : ∃ p, p = tot - each * k := ⟨_, rfl⟩
    show WpI _ _ _ _ (HRn each N tot ws (rr tot each N ws k) (tot - each * k)) (fun e T1 H1 => e = .normal ∧ Weak _ T1 H1 [] (HRn each N tot ws (rr tot each N ws (k + 1)) (tot - each * (k + 1))))
    rw [show rr tot each N ws (k + 1) = (rb (rr tot each N ws k) p (ws.getD (N - 1 - k) 0) each).1 by rw [hp]; rfl]
    rw [← hp]
    refine i_block ?_
    refine i_seq ?_
    refine i_reg (by kernel_rfl) (by kernel_rfl) rfl ?_
    refine s_p (by first | exact h_load_ints rfl rfl rfl (by omega) rfl Tryz.isAgg3 | exact h_load_one rfl rfl rfl Tryz.isAgg3) ?_
    refine s_p (by first | exact h_move (v := .s _) rfl | exact h_move (v := .agg _) rfl | exact h_move (v := .tup _) rfl) ?_
    refine s_nil ?_
    refine ni_wp ?_
    refine i_block ?_
    refine i_loop (I59HRn each N tot ws (rr tot each N ws k) p (ws.getD (N - 1 - k) 0)) each ⟨0, by omega, rfl, rfl, rfl⟩ (weak' (by repeat (first | exact trivial | refine ⟨rfl, ?_⟩)) rfl rfl (Nat.le_of_ble_eq_true rfl)) ?_
    rintro n T H ⟨j, hj, rfl, rfl, rfl⟩
    refine i_seq ?_
    refine i_reg (by kernel_rfl) (by kernel_rfl) rfl ?_
    refine s_p (h_bin rfl rfl (b_lss rfl)) ?_
    refine s_nil ?_
    refine ni_wp ?_
    refine i_seq ?_
    refine i_cond rfl (fun hc_t27 => ?_) (fun hc_t27 => ?_)
    · skip
      have hlt : j < each := by have := of_decide_eq_true hc_t27; omega
      refine i_skip ?_
      refine ni_wp ?_
      refine i_seq ?_
      refine i_block ?_
      refine i_seq ?_
      refine i_reg (by kernel_rfl) (by kernel_rfl) rfl ?_
      refine s_p (by first | exact h_load_ints rfl rfl rfl (by omega) rfl Tryz.isAgg3 | exact h_load_one rfl rfl rfl Tryz.isAgg3) ?_
      refine s_p (h_bin rfl rfl (b_sub (r := ((p - (j + 1) : Nat) : Int)) (wr_n (by omega) (by omega)))) ?_
      refine s_st (by first | exact m_store_int rfl rfl rfl rfl (by omega) (by (rw [rb_len, rr_len])) Tryz.sizeOf3 rfl | exact m_store_one rfl rfl (by simp) rfl rfl Tryz.sizeOf3 rfl) ?_
      refine s_nil ?_
      refine ni_wp ?_
      refine i_reg (by kernel_rfl) (by kernel_rfl) rfl ?_
      refine s_p (by first | exact h_load_ints rfl rfl rfl (by omega) rfl Tryz.isAgg49 | exact h_load_one rfl rfl rfl Tryz.isAgg49) ?_
      refine s_p (by first | exact h_load_ints rfl rfl rfl (by omega) rfl Tryz.isAgg3 | exact h_load_one rfl rfl rfl Tryz.isAgg3) ?_
      refine s_p (by first | exact h_move (v := .s _) rfl | exact h_move (v := .agg _) rfl | exact h_move (v := .tup _) rfl) ?_
      refine s_p (by first | exact h_conv rfl Tryz.underlying32 Tryz.underlying5 (Go.IntWalk.i64_in _ (by omega)) | exact h_conv rfl Tryz.underlying32 Tryz.underlying5 (wrap_u8 (by omega) (by omega)) | exact h_conv rfl Tryz.underlying32 Tryz.underlying5 rfl) ?_
      refine s_p (by first | exact h_move (v := .s _) rfl | exact h_move (v := .agg _) rfl | exact h_move (v := .tup _) rfl) ?_
      refine s_p (by first | exact h_bin rfl rfl (b_quo (by omega) rfl)) ?_
      refine s_p (by first | exact h_ixs0 rfl rfl Tryz.underlying49 Tryz.sizeOf5 (by omega) | exact h_ixs rfl rfl Tryz.underlying49 Tryz.sizeOf5 (by omega) | exact h_ixsx rfl rfl Tryz.underlying49 Tryz.sizeOf5 (by omega)) ?_
      refine s_st (by first | exact m_store_int rfl rfl rfl rfl (by omega) (by (rw [rb_len, rr_len])) Tryz.sizeOf5 rfl | exact m_store_one rfl rfl (by simp) rfl rfl Tryz.sizeOf5 rfl) ?_
      refine s_p (by first | exact h_assign (v := .s _) rfl | exact h_assign (v := .agg _) rfl | exact h_assign (v := .tup _) rfl) ?_
      refine s_nil ?_
      refine n_blo ?_
      refine ni_wp ?_
      refine i_reg (by kernel_rfl) (by kernel_rfl) rfl ?_
      refine s_p (by first | exact h_bin rfl rfl (b_add (Go.IntWalk.i64_in _ (by omega))) | exact h_bin rfl rfl (b_add rfl)) ?_
      refine s_p (by first | exact h_move (v := .s _) rfl | exact h_move (v := .agg _) rfl | exact h_move (v := .tup _) rfl) ?_
      refine s_nil ?_
      exact n_round (each - (j + 1)) (by omega) ⟨j + 1, by omega, rfl, rfl, rfl⟩ (weak' (by repeat (first | exact trivial | refine ⟨rfl, ?_⟩)) rfl rfl (Nat.le_of_ble_eq_true rfl))
    · skip
      have hje : each = j := by have := of_decide_eq_false hc_t27; omega
      subst hje
      refine i_exit ?_
      refine x_thn ?_
      refine x_thn ?_
      refine x_eq ?_
      refine n_blo ?_
      refine ⟨rfl, ?_⟩
      rw [show tot - each * (k + 1) = p - each by rw [Nat.mul_succ]; omega]
      exact weak' trivial rfl rfl (Nat.le_of_ble_eq_true rfl)
  refine n_blo ?_
  refine n_wp ?_
  refine w_seq ?_
  have hend : tot - each * N = 0 := by omega
  refine c_reg (by kernel_rfl) rfl ?_
  refine s_p (by first | exact h_load_ints rfl rfl rfl (by omega) rfl Tryz.isAgg49 | exact h_load_one rfl rfl rfl Tryz.isAgg49) ?_
  refine s_p (by first | exact h_load_ints rfl rfl rfl (by omega) rfl Tryz.isAgg3 | exact h_load_one rfl rfl rfl Tryz.isAgg3) ?_
  refine s_p (h_slice_h (h := 0) rfl rfl (by rw [hend]) Tryz.underlying49 Tryz.sizeOf5 (by omega)) ?_
  refine s_p (by first | exact h_move (v := .s _) rfl | exact h_move (v := .agg _) rfl | exact h_move (v := .tup _) rfl) ?_
  refine s_p (h_copy0 rfl rfl (.inl rfl) Tryz.underlying49 Tryz.sizeOf5) ?_
  refine s_nil ?_
  refine n_wp ?_
  refine w_seq ?_
  refine c_reg (by kernel_rfl) rfl ?_
  refine s_p (by first | exact h_load_ints rfl rfl rfl (by omega) rfl Tryz.isAgg49 | exact h_load_one rfl rfl rfl Tryz.isAgg49) ?_
  refine s_p (by first | exact h_assign (v := .s _) rfl | exact h_assign (v := .agg _) rfl | exact h_assign (v := .tup _) rfl) ?_
  refine s_nil ?_
  refine n_wp ?_
  refine w_ret ?_
  exact doneM (by repeat (first | exact trivial | refine ⟨rfl, ?_⟩)) (ret_tmp Tryz.results205 rfl)
def HRs (len : Nat) (B : List Int) (each N tot : Nat) (ws : List Int) (out : List Int) (p : Nat) : Heap := [some ⟨false, [.ints .u8 len B]⟩, some ⟨false, [.ints .u64 N ws]⟩, some ⟨true, [.one (.int .i64 ((each : Nat) : Int))]⟩, some ⟨true, [.ints .u8 tot out]⟩, some ⟨true, [.one (.slice 3 0 0 tot tot)]⟩, some ⟨true, [.one (.int .i64 ((p : Nat) : Int))]⟩, some ⟨true, [.one (.slice 1 0 0 N N)]⟩]
def I59HRs (len : Nat) (B : List Int) (each N tot : Nat) (ws : List Int) (out : List Int) (p : Nat) (v : Int) (n : Nat) (T : Tm) (H : Heap) : Prop := ∃ j : Nat, j ≤ each ∧ n = each - j ∧
  T = [(7, .s (.ptr 4 0 0)), (8, .s (.ptr 5 0 0)), (10, .s (.int .u64 (rb out p v j).2)), (25, .s (.int .i64 ((each : Nat) : Int))), (26, .s (.int .i64 ((j : Nat) : Int)))] ∧ H = HRs len B each N tot ws (rb out p v j).1 (p - j)
set_option maxRecDepth 100000 in
set_option maxHeartbeats 2000000 in
theorem row_s (H : Heap) (jb sb jw sw each N tot len cap : Nat) (B ws : List Int) (bb bw : Blk) (hBl : B.length = len) (hcap : len ≤ cap) (hlen : len ≤ 140737488351232) (hb : H[jb]? = some (some bb)) (hbr : ∀ (i : Nat) (y : SV), atS [.ints .u8 len B] i = some y → atS bb.segs (sb + i) = some y) (hws : ws.length = N) (hw : H[jw]? = some (some bw)) (hwr : ∀ (i : Nat) (y : SV), atS [.ints .u64 N ws] i = some y → atS bw.segs (sw + i) = some y) (hN : N ≤ 4) (he : each ≤ 8) (ht : tot = len + each * N) (htb : tot ≤ 140737488355328) : ACall Tryz.prog 205 H [.s (.slice jb (0 + sb) 0 len cap), .s (.int .i64 ((each : Nat) : Int)), .s (.slice jw (0 + sw) 0 N N)] (.s (.slice (H.length + 0) (0 + 0) 0 tot tot)) [⟨true, [.ints .u8 tot (rowL tot B len each N ws)]⟩] := by
  have hjw : jw < H.length := (List.getElem?_eq_some_iff.1 hw).1
  have hjb : jb < H.length := (List.getElem?_eq_some_iff.1 hb).1
  refine acall_gen2 (args0 := [.s (.slice 0 0 0 len cap), .s (.int .i64 ((each : Nat) : Int)), .s (.slice 1 0 0 N N)]) (H0 := [some ⟨false, [.ints .u8 len B]⟩, some ⟨false, [.ints .u64 N ws]⟩]) (Hf := [none, none, none, some ⟨true, [.ints .u8 tot (rowL tot B len each N ws)]⟩]) (v0 := .s (.slice 3 0 0 tot tot)) [(jb, sb), (jw, sw)] [3] Tryz.func205 rfl Tryz.ntmps205 (by simp) rfl
    (fun k id' sh' b0 h1 h2 => by
      match k, h1, h2 with
      | 0, h1, h2 => simp at h1 h2; obtain ⟨rfl, rfl⟩ := h1; subst h2; exact ⟨rfl, rfl, _, hb, fun i y hy => by (have h := hbr i y hy; obtain ⟨_, rfl⟩ := atS_ints1 hy; exact h)⟩
      | 1, h1, h2 => simp at h1 h2; obtain ⟨rfl, rfl⟩ := h1; subst h2; exact ⟨rfl, rfl, _, hw, fun i y hy => by (have h := hwr i y hy; obtain ⟨_, rfl⟩ := atS_ints1 hy; exact h)⟩
      | k + 2, h1, _ => simp at h1)
    (fun W ρ vals w hH ha k id' sh' hk => by
      match k, hk with
      | 0, hk => simp at hk; obtain ⟨rfl, rfl⟩ := hk; exact ⟨hjb, live_slice (i := 0) ha rfl⟩
      | 1, hk => simp at hk; obtain ⟨rfl, rfl⟩ := hk; exact ⟨hjw, live_slice (i := 2) ha rfl⟩
      | k + 2, hk => simp at hk)
    rfl rfl rfl (by decide) rfl rfl rfl (fun W w ρ0 hW hdom => ?_)
  have hm : each * N ≤ 32 := Nat.mul_le_mul he hN
  refine w_seq ?_
  refine c_reg (by kernel_rfl) rfl ?_
  refine s_a (by first | exact h_box_agg rfl rfl | exact h_box rfl (by simp) rfl) rfl ?_
  refine s_p (by first | exact h_assign (v := .s _) rfl | exact h_assign (v := .agg _) rfl | exact h_assign (v := .tup _) rfl) ?_
  refine s_nil ?_
  refine n_wp ?_
  refine w_seq ?_
  refine c_reg (by kernel_rfl) rfl ?_
  refine s_p (by first | exact h_move (v := .s _) rfl | exact h_move (v := .agg _) rfl | exact h_move (v := .tup _) rfl) ?_
  refine s_p (by first | exact h_len rfl Tryz.underlying49 | exact h_len_nil rfl Tryz.underlying49 | exact h_len_val rfl Tryz.underlying49) ?_
  refine s_p (by first | exact h_load_ints rfl rfl rfl (by omega) rfl Tryz.isAgg3 | exact h_load_one rfl rfl rfl Tryz.isAgg3) ?_
  refine s_p (by first | exact h_move (v := .s _) rfl | exact h_move (v := .agg _) rfl | exact h_move (v := .tup _) rfl) ?_
  refine s_p (by first | exact h_len rfl Tryz.underlying97 | exact h_len_nil rfl Tryz.underlying97 | exact h_len_val rfl Tryz.underlying97) ?_
  refine s_p (h_bin rfl rfl (b_mul (r := ((each * N : Nat) : Int)) (wr_n (by rw [Int.natCast_mul]) (by omega)))) ?_
  refine s_p (h_bin rfl rfl (b_add (r := ((tot : Nat) : Int)) (wr_n (by omega) (by omega)))) ?_
  refine s_a (h_make (l := tot) (c := tot) rfl rfl (Nat.le_refl _) (by rw [show Tryz.t5.bytes = 1 from rfl]; omega) (by omega) Tryz.underlying49 infoB5 rfl rfl rfl) rfl ?_
  refine s_a (h_alloc (segs := [.one .nils]) Tryz.zeroValue49 (by kernel_rfl) rfl) rfl ?_
  refine s_st (by first | exact m_store_int rfl rfl rfl rfl (by omega) (by (rw [rb_len, rr_len])) Tryz.sizeOf49 rfl | exact m_store_one rfl rfl (by simp) rfl rfl Tryz.sizeOf49 rfl) ?_
  refine s_nil ?_
  refine n_wp ?_
  refine w_seq ?_
  refine c_reg (by kernel_rfl) rfl ?_
  refine s_p (by first | exact h_load_ints rfl rfl rfl (by omega) rfl Tryz.isAgg49 | exact h_load_one rfl rfl rfl Tryz.isAgg49) ?_
  refine s_p (by first | exact h_len rfl Tryz.underlying49 | exact h_len_nil rfl Tryz.underlying49 | exact h_len_val rfl Tryz.underlying49) ?_
  refine s_a (h_alloc (segs := [.one (.int .i64 0)]) Tryz.zeroValue3 (by kernel_rfl) rfl) rfl ?_
  refine s_st (by first | exact m_store_int rfl rfl rfl rfl (by omega) (by (rw [rb_len, rr_len])) Tryz.sizeOf3 rfl | exact m_store_one rfl rfl (by simp) rfl rfl Tryz.sizeOf3 rfl) ?_
  refine s_nil ?_
  refine n_wp ?_
  refine w_seq ?_
  refine w_seq ?_
  refine c_reg (by kernel_rfl) rfl ?_
  refine s_p (by first | exact h_move (v := .s _) rfl | exact h_move (v := .agg _) rfl | exact h_move (v := .tup _) rfl) ?_
  refine s_nb (h_call callable_265 rfl (backward_c _ 1 0 N N (Nat.le_of_ble_eq_true rfl))) rfl ?_
  refine s_nil ?_
  refine n_wp ?_
  refine w_block ?_
  refine w_rangeFunc rfl callable_304 (back_iter W w ρ0 44 _ hW hdom 6 1 N N ws _ _ _ (fun k => HRs len B each N tot ws (rr tot each N ws k) (tot - each * k)) (by omega) (by decide) (fun _ => rfl) (fun _ => rfl) (fun _ _ => rfl) (fun _ _ => ⟨_, rfl, rfl⟩) (fun k hk => ⟨[(4, .s (.ptr 2 0 0)), (7, .s (.ptr 4 0 0)), (8, .s (.ptr 5 0 0)), (10, .s (.int .u64 (ws.getD (N - 1 - k) 0)))], fun l1 W1 w1 ρ1 hW1 hdom1 => ⟨?_, ?_⟩⟩)) ?_
  · skip
    refine i_reg (by kernel_rfl) (by kernel_rfl) rfl ?_
    refine s_p (by first | exact h_assign (v := .s _) rfl | exact h_assign (v := .agg _) rfl | exact h_assign (v := .tup _) rfl) ?_
    refine s_nil ?_
    exact ⟨rfl, weak' (by repeat (first | exact trivial | refine ⟨rfl, ?_⟩)) rfl rfl (Nat.le_refl _)⟩
  · skip
    have hke : each * k + each ≤ each * N := Nat.mul_le_mul_left each (show k + 1 ≤ N from hk)
    obtain ⟨p, hp⟩ : ∃ p, p = tot - each * k := ⟨_, rfl⟩
    show WpI _ _ _ _ (HRs len B each N tot ws (rr tot each N ws k) (tot - each * k)) (fun e T1 H1 => e = .normal ∧ Weak _ T1 H1 [] (HRs len B each N tot ws (rr tot each N ws (k + 1)) (tot - each * (k + 1))))
    rw [show rr tot each N ws (k + 1) = (rb (rr tot each N ws k) p (ws.getD (N - 1 - k) 0) each).1 by rw [hp]; rfl]
    rw [← hp]
    refine i_block ?_
    refine i_seq ?_
    refine i_reg (by kernel_rfl) (by kernel_rfl) rfl ?_
    refine s_p (by first | exact h_load_ints rfl rfl rfl (by omega) rfl Tryz.isAgg3 | exact h_load_one rfl rfl rfl Tryz.isAgg3) ?_
    refine s_p (by first | exact h_move (v := .s _) rfl | exact h_move (v := .agg _) rfl | exact h_move (v := .tup _) rfl) ?_
    refine s_nil ?_
    refine ni_wp ?_
    refine i_block ?_
    refine i_loop (I59HRs len B each N tot ws (rr tot each N ws k) p (ws.getD (N - 1 - k) 0)) each ⟨0, by omega, rfl, rfl, rfl⟩ (weak' (by repeat (first | exact trivial | refine ⟨rfl, ?_⟩)) rfl rfl (Nat.le_of_ble_eq_true rfl)) ?_
    rintro n T H ⟨j, hj, rfl, rfl, rfl⟩
    refine i_seq ?_
    refine i_reg (by kernel_rfl) (by kernel_rfl) rfl ?_
    refine s_p (h_bin rfl rfl (b_lss rfl)) ?_
    refine s_nil ?_
    refine ni_wp ?_
    refine i_seq ?_
    refine i_cond rfl (fun hc_t27 => ?_) (fun hc_t27 => ?_)
    · skip
      have hlt : j < each := by have := of_decide_eq_true hc_t27; omega
      refine i_skip ?_
      refine ni_wp ?_
      refine i_seq ?_
      refine i_block ?_
      refine i_seq ?_
      refine i_reg (by kernel_rfl) (by kernel_rfl) rfl ?_
      refine s_p (by first | exact h_load_ints rfl rfl rfl (by omega) rfl Tryz.isAgg3 | exact h_load_one rfl rfl rfl Tryz.isAgg3) ?_
      refine s_p (h_bin rfl rfl (b_sub (r := ((p - (j + 1) : Nat) : Int)) (wr_n (by omega) (by omega)))) ?_
      refine s_st (by first | exact m_store_int rfl rfl rfl rfl (by omega) (by (rw [rb_len, rr_len])) Tryz.sizeOf3 rfl | exact m_store_one rfl rfl (by simp) rfl rfl Tryz.sizeOf3 rfl) ?_
      refine s_nil ?_
      refine ni_wp ?_
      refine i_reg (by kernel_rfl) (by kernel_rfl) rfl ?_
      refine s_p (by first | exact h_load_ints rfl rfl rfl (by omega) rfl Tryz.isAgg49 | exact h_load_one rfl rfl rfl Tryz.isAgg49) ?_
      refine s_p (by first | exact h_load_ints rfl rfl rfl (by omega) rfl Tryz.isAgg3 | exact h_load_one rfl rfl rfl Tryz.isAgg3) ?_
      refine s_p (by first | exact h_move (v := .s _) rfl | exact h_move (v := .agg _) rfl | exact h_move (v := .tup _) rfl) ?_
      refine s_p (by first | exact h_conv rfl Tryz.underlying32 Tryz.underlying5 (Go.IntWalk.i64_in _ (by omega)) | exact h_conv rfl Tryz.underlying32 Tryz.underlying5 (wrap_u8 (by omega) (by omega)) | exact h_conv rfl Tryz.underlying32 Tryz.underlying5 rfl) ?_
      refine s_p (by first | exact h_move (v := .s _) rfl | exact h_move (v := .agg _) rfl | exact h_move (v := .tup _) rfl) ?_
      refine s_p (by first | exact h_bin rfl rfl (b_quo (by omega) rfl)) ?_
      refine s_p (by first | exact h_ixs0 rfl rfl Tryz.underlying49 Tryz.sizeOf5 (by omega) | exact h_ixs rfl rfl Tryz.underlying49 Tryz.sizeOf5 (by omega) | exact h_ixsx rfl rfl Tryz.underlying49 Tryz.sizeOf5 (by omega)) ?_
      refine s_st (by first | exact m_store_int rfl rfl rfl rfl (by omega) (by (rw [rb_len, rr_len])) Tryz.sizeOf5 rfl | exact m_store_one rfl rfl (by simp) rfl rfl Tryz.sizeOf5 rfl) ?_
      refine s_p (by first | exact h_assign (v := .s _) rfl | exact h_assign (v := .agg _) rfl | exact h_assign (v := .tup _) rfl) ?_
      refine s_nil ?_
      refine n_blo ?_
      refine ni_wp ?_
      refine i_reg (by kernel_rfl) (by kernel_rfl) rfl ?_
      refine s_p (by first | exact h_bin rfl rfl (b_add (Go.IntWalk.i64_in _ (by omega))) | exact h_bin rfl rfl (b_add rfl)) ?_
      refine s_p (by first | exact h_move (v := .s _) rfl | exact h_move (v := .agg _) rfl | exact h_move (v := .tup _) rfl) ?_
      refine s_nil ?_
      exact n_round (each - (j + 1)) (by omega) ⟨j + 1, by omega, rfl, rfl, rfl⟩ (weak' (by repeat (first | exact trivial | refine ⟨rfl, ?_⟩)) rfl rfl (Nat.le_of_ble_eq_true rfl))
    · skip
      have hje : each = j := by have := of_decide_eq_false hc_t27; omega
      subst hje
      refine i_exit ?_
      refine x_thn ?_
      refine x_thn ?_
      refine x_eq ?_
      refine n_blo ?_
      refine ⟨rfl, ?_⟩
      rw [show tot - each * (k + 1) = p - each by rw [Nat.mul_succ]; omega]
      exact weak' trivial rfl rfl (Nat.le_of_ble_eq_true rfl)
  refine n_blo ?_
  refine n_wp ?_
  refine w_seq ?_
  have hend : tot - each * N = len := by omega
  by_cases hl0 : len = 0
  · skip
    have hrow : rowL tot B len each N ws = rr tot each N ws N := if_pos hl0
    rw [hrow]
    subst hl0
    refine c_reg (by kernel_rfl) rfl ?_
    refine s_p (by first | exact h_load_ints rfl rfl rfl (by omega) rfl Tryz.isAgg49 | exact h_load_one rfl rfl rfl Tryz.isAgg49) ?_
    refine s_p (by first | exact h_load_ints rfl rfl rfl (by omega) rfl Tryz.isAgg3 | exact h_load_one rfl rfl rfl Tryz.isAgg3) ?_
    refine s_p (h_slice_h (h := 0) rfl rfl (by rw [hend]) Tryz.underlying49 Tryz.sizeOf5 (by omega)) ?_
    refine s_p (by first | exact h_move (v := .s _) rfl | exact h_move (v := .agg _) rfl | exact h_move (v := .tup _) rfl) ?_
    refine s_p (h_copy0 rfl rfl (.inr (.inl ⟨_, _, _, _, rfl⟩)) Tryz.underlying49 Tryz.sizeOf5) ?_
    refine s_nil ?_
    refine n_wp ?_
    refine w_seq ?_
    refine c_reg (by kernel_rfl) rfl ?_
    refine s_p (by first | exact h_load_ints rfl rfl rfl (by omega) rfl Tryz.isAgg49 | exact h_load_one rfl rfl rfl Tryz.isAgg49) ?_
    refine s_p (by first | exact h_assign (v := .s _) rfl | exact h_assign (v := .agg _) rfl | exact h_assign (v := .tup _) rfl) ?_
    refine s_nil ?_
    refine n_wp ?_
    refine w_ret ?_
    exact doneM (by repeat (first | exact trivial | refine ⟨rfl, ?_⟩)) (ret_tmp Tryz.results205 rfl)
  · skip
    have hrow : rowL tot B len each N ws = spl (rr tot each N ws N) ((B.drop 0).take len) (0 + 0) len tot := if_neg hl0
    rw [hrow]
    refine c_reg (by kernel_rfl) rfl ?_
    refine s_p (by first | exact h_load_ints rfl rfl rfl (by omega) rfl Tryz.isAgg49 | exact h_load_one rfl rfl rfl Tryz.isAgg49) ?_
    refine s_p (by first | exact h_load_ints rfl rfl rfl (by omega) rfl Tryz.isAgg3 | exact h_load_one rfl rfl rfl Tryz.isAgg3) ?_
    refine s_p (h_slice_h (h := len) rfl rfl (by rw [hend]) Tryz.underlying49 Tryz.sizeOf5 (by omega)) ?_
    refine s_p (by first | exact h_move (v := .s _) rfl | exact h_move (v := .agg _) rfl | exact h_move (v := .tup _) rfl) ?_
    refine s_m (m_copy (n := len) rfl rfl rfl rfl rfl hBl (by omega) (by omega) Tryz.underlying49 Tryz.sizeOf5 (.ints (by omega) rfl (by omega))) ?_
    refine s_nil ?_
    refine n_wp ?_
    refine w_seq ?_
    refine c_reg (by kernel_rfl) rfl ?_
    refine s_p (by first | exact h_load_ints rfl rfl rfl (by omega) rfl Tryz.isAgg49 | exact h_load_one rfl rfl rfl Tryz.isAgg49) ?_
    refine s_p (by first | exact h_assign (v := .s _) rfl | exact h_assign (v := .agg _) rfl | exact h_assign (v := .tup _) rfl) ?_
    refine s_nil ?_
    refine n_wp ?_
    refine w_ret ?_
    exact doneM (by repeat (first | exact trivial | refine ⟨rfl, ?_⟩)) (ret_tmp Tryz.results205 rfl)
end Go.Proofs.X
end

section
open Go Go.Ab Go.Proofs
namespace Go.Proofs.X
theorem callable_112 : Callable Tryz.prog 112 := ⟨_, Tryz.func112, by kernel_rfl, rfl⟩
theorem callable_126 : Callable Tryz.prog 126 := ⟨_, Tryz.func126, by kernel_rfl, rfl⟩
set_option maxRecDepth 100000 in
set_option maxHeartbeats 2000000 in
theorem Put_n (H : Heap) (m : Nat) (v : Int) (hm : m ≤ 8) : ACall Tryz.prog 112 H [.s .nils, .s (.int .u64 v), .s (.int .i64 ((m : Nat) : Int))] (.s (.slice (H.length + 0) (0 + 0) 0 m m)) [⟨true, [.ints .u8 m (rr m m 1 [v] 1)]⟩] := by
  refine acall_gen2 (args0 := [.s .nils, .s (.int .u64 v), .s (.int .i64 ((m : Nat) : Int))]) (H0 := []) (Hf := [none, some ⟨true, [.ints .u8 m (rr m m 1 [v] 1)]⟩]) (v0 := .s (.slice 1 0 0 m m)) [] [1] Tryz.func112 rfl Tryz.ntmps112 (by simp) rfl
    (fun k id sh b0 h1 h2 => by simp at h1) (fun W ρ vals w hH ha k id' sh' hk => by simp at hk) rfl rfl rfl (by decide) rfl rfl rfl (fun W w ρ0 hW hdom => ?_)
  refine w_seq ?_
  refine c_reg (by kernel_rfl) rfl ?_
  refine s_p (by first | exact h_assign (v := .s _) rfl | exact h_assign (v := .agg _) rfl | exact h_assign (v := .tup _) rfl) ?_
  refine s_nil ?_
  refine n_wp ?_
  refine w_seq ?_
  refine c_reg (by kernel_rfl) rfl ?_
  refine s_p (by first | exact h_move (v := .s _) rfl | exact h_move (v := .agg _) rfl | exact h_move (v := .tup _) rfl) ?_
  refine s_p (by first | exact h_move (v := .s _) rfl | exact h_move (v := .agg _) rfl | exact h_move (v := .tup _) rfl) ?_
  refine s_p (h_min (r := ((m : Nat) : Int)) rfl rfl (by split <;> omega)) ?_
  refine s_p (h_max (r := ((m : Nat) : Int)) rfl rfl (by split <;> omega)) ?_
  refine s_p (by first | exact h_move (v := .s _) rfl | exact h_move (v := .agg _) rfl | exact h_move (v := .tup _) rfl) ?_
  refine s_a (h_bsli1 rfl Tryz.underlying97 Tryz.sizeOf32 Tryz.zeroValue32 rfl rfl) rfl ?_
  refine s_a (h_call callable_205 rfl (row_n _ 0 0 m 1 m [v] _ rfl rfl (fun i y hy => by rw [Nat.zero_add]; exact hy) (by omega) hm (by omega) (by omega))) rfl ?_
  refine s_p (by first | exact h_assign (v := .s _) rfl | exact h_assign (v := .agg _) rfl | exact h_assign (v := .tup _) rfl) ?_
  refine s_nil ?_
  refine n_wp ?_
  refine w_ret ?_
  exact doneM (by repeat (first | exact trivial | refine ⟨rfl, ?_⟩)) (ret_tmp Tryz.results112 rfl)
set_option maxRecDepth 100000 in
set_option maxHeartbeats 2000000 in
theorem Put_s (H : Heap) (jb sb len cap m tot : Nat) (v : Int) (B : List Int) (bb : Blk) (hBl : B.length = len) (hcap : len ≤ cap) (hlen : len ≤ 140737488351232) (hb : H[jb]? = some (some bb)) (hbr : ∀ (i : Nat) (y : SV), atS [.ints .u8 len B] i = some y → atS bb.segs (sb + i) = some y) (hm : m ≤ 8) (ht : tot = len + m) : ACall Tryz.prog 112 H [.s (.slice jb (0 + sb) 0 len cap), .s (.int .u64 v), .s (.int .i64 ((m : Nat) : Int))] (.s (.slice (H.length + 0) (0 + 0) 0 tot tot)) [⟨true, [.ints .u8 tot (rowL tot B len m 1 [v])]⟩] := by
  refine acall_gen2 (args0 := [.s (.slice 0 0 0 len cap), .s (.int .u64 v), .s (.int .i64 ((m : Nat) : Int))]) (H0 := [some ⟨false, [.ints .u8 len B]⟩]) (Hf := [none, none, some ⟨true, [.ints .u8 tot (rowL tot B len m 1 [v])]⟩]) (v0 := .s (.slice 2 0 0 tot tot)) [(jb, sb)] [2] Tryz.func112 rfl Tryz.ntmps112 (by simp) rfl
    (fun k id' sh' b0 h1 h2 => by
      match k, h1, h2 with
      | 0, h1, h2 => simp at h1 h2; obtain ⟨rfl, rfl⟩ := h1; subst h2; exact ⟨rfl, rfl, _, hb, fun i y hy => by (have h := hbr i y hy; obtain ⟨_, rfl⟩ := atS_ints1 hy; exact h)⟩
      | k + 1, h1, _ => simp at h1)
    (fun W ρ vals w hH ha k id' sh' hk => by
      match k, hk with
      | 0, hk => simp at hk; obtain ⟨rfl, rfl⟩ := hk; exact ⟨(List.getElem?_eq_some_iff.1 hb).1, live_slice (i := 0) ha rfl⟩
      | k + 1, hk => simp at hk)
    rfl rfl rfl (by decide) rfl rfl rfl (fun W w ρ0 hW hdom => ?_)
  refine w_seq ?_
  refine c_reg (by kernel_rfl) rfl ?_
  refine s_p (by first | exact h_assign (v := .s _) rfl | exact h_assign (v := .agg _) rfl | exact h_assign (v := .tup _) rfl) ?_
  refine s_nil ?_
  refine n_wp ?_
  refine w_seq ?_
  refine c_reg (by kernel_rfl) rfl ?_
  refine s_p (by first | exact h_move (v := .s _) rfl | exact h_move (v := .agg _) rfl | exact h_move (v := .tup _) rfl) ?_
  refine s_p (by first | exact h_move (v := .s _) rfl | exact h_move (v := .agg _) rfl | exact h_move (v := .tup _) rfl) ?_
  refine s_p (h_min (r := ((m : Nat) : Int)) rfl rfl (by split <;> omega)) ?_
  refine s_p (h_max (r := ((m : Nat) : Int)) rfl rfl (by split <;> omega)) ?_
  refine s_p (by first | exact h_move (v := .s _) rfl | exact h_move (v := .agg _) rfl | exact h_move (v := .tup _) rfl) ?_
  refine s_a (h_bsli1 rfl Tryz.underlying97 Tryz.sizeOf32 Tryz.zeroValue32 rfl rfl) rfl ?_
  refine s_a (h_call callable_205 rfl (row_s _ 0 0 1 0 m 1 tot len cap B [v] _ _ hBl hcap hlen rfl (fun i y hy => by rw [Nat.zero_add]; exact hy) rfl rfl (fun i y hy => by rw [Nat.zero_add]; exact hy) (by omega) hm (by omega) (by omega))) rfl ?_
  refine s_p (by first | exact h_assign (v := .s _) rfl | exact h_assign (v := .agg _) rfl | exact h_assign (v := .tup _) rfl) ?_
  refine s_nil ?_
  refine n_wp ?_
  refine w_ret ?_
  exact doneM (by repeat (first | exact trivial | refine ⟨rfl, ?_⟩)) (ret_tmp Tryz.results112 rfl)
set_option maxRecDepth 100000 in
set_option maxHeartbeats 2000000 in
theorem PutLong_n (H : Heap) (l : List Int) (hl : l.length = 4) : ACall Tryz.prog 126 H [.s .nils, .agg [.ints .u64 4 l]] (.s (.slice (H.length + 0) (0 + 0) 0 32 32)) [⟨true, [.ints .u8 32 (rr 32 8 4 [l.getD 3 0, l.getD 2 0, l.getD 1 0, l.getD 0 0] 4)]⟩] := by
  refine acall_gen2 (args0 := [.s .nils, .agg [.ints .u64 4 l]]) (H0 := []) (Hf := [none, none, some ⟨true, [.ints .u8 32 (rr 32 8 4 [l.getD 3 0, l.getD 2 0, l.getD 1 0, l.getD 0 0] 4)]⟩]) (v0 := .s (.slice 2 0 0 32 32)) [] [2] Tryz.func126 rfl Tryz.ntmps126 (by simp) rfl
    (fun k id sh b0 h1 h2 => by simp at h1) (fun W ρ vals w hH ha k id' sh' hk => by simp at hk) rfl rfl rfl (by decide) rfl rfl rfl (fun W w ρ0 hW hdom => ?_)
  refine w_seq ?_
  refine c_reg (by kernel_rfl) rfl ?_
  refine s_a (by first | exact h_box_agg rfl rfl | exact h_box rfl (by simp) rfl) rfl ?_
  refine s_p (by first | exact h_assign (v := .s _) rfl | exact h_assign (v := .agg _) rfl | exact h_assign (v := .tup _) rfl) ?_
  refine s_nil ?_
  refine n_wp ?_
  refine w_seq ?_
  refine c_reg (by kernel_rfl) rfl ?_
  refine s_p (by first | exact h_move (v := .s _) rfl | exact h_move (v := .agg _) rfl | exact h_move (v := .tup _) rfl) ?_
  refine s_p (h_ixl 3 rfl rfl rfl Tryz.underlying34 Tryz.sizeOf32 (by omega)) ?_
  refine s_p (by first | exact h_load_ints rfl rfl rfl (by omega) rfl Tryz.isAgg32 | exact h_load_one rfl rfl rfl Tryz.isAgg32) ?_
  refine s_p (h_ixl 2 rfl rfl rfl Tryz.underlying34 Tryz.sizeOf32 (by omega)) ?_
  refine s_p (by first | exact h_load_ints rfl rfl rfl (by omega) rfl Tryz.isAgg32 | exact h_load_one rfl rfl rfl Tryz.isAgg32) ?_
  refine s_p (h_ixl 1 rfl rfl rfl Tryz.underlying34 Tryz.sizeOf32 (by omega)) ?_
  refine s_p (by first | exact h_load_ints rfl rfl rfl (by omega) rfl Tryz.isAgg32 | exact h_load_one rfl rfl rfl Tryz.isAgg32) ?_
  refine s_p (h_ixl 0 rfl rfl rfl Tryz.underlying34 Tryz.sizeOf32 (by omega)) ?_
  refine s_p (by first | exact h_load_ints rfl rfl rfl (by omega) rfl Tryz.isAgg32 | exact h_load_one rfl rfl rfl Tryz.isAgg32) ?_
  refine s_a (h_bsli4 rfl rfl rfl rfl Tryz.underlying97 Tryz.sizeOf32 Tryz.zeroValue32 rfl rfl) rfl ?_
  refine s_a (h_call callable_205 rfl (row_n _ 1 0 8 4 32 _ _ rfl rfl (fun i y hy => by rw [Nat.zero_add]; exact hy) (by omega) (by omega) (by omega) (by omega))) rfl ?_
  refine s_p (by first | exact h_assign (v := .s _) rfl | exact h_assign (v := .agg _) rfl | exact h_assign (v := .tup _) rfl) ?_
  refine s_nil ?_
  refine n_wp ?_
  refine w_ret ?_
  exact doneM (by repeat (first | exact trivial | refine ⟨rfl, ?_⟩)) (ret_tmp Tryz.results126 rfl)
end Go.Proofs.X
end
