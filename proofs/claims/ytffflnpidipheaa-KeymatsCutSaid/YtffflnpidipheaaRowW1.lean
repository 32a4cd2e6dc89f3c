/- A part of the proofs of this claim: RowW1. No conditions. -/
import Derived.Test.YtffflnpidipheaaRowSpec
import Derived.Test.YtffflnpidipheaaShaW1
import Derived.Test.YtffflnpidipheaaAb22
open Go Go.Ab Go.Proofs
namespace Go.Proofs.X
theorem callable_75 : Callable Try.prog 75 := ⟨_, Try.func75, by kernel_rfl, rfl⟩
theorem callable_79 : Callable Try.prog 79 := ⟨_, Try.func79, by kernel_rfl, rfl⟩
theorem callable_59 : Callable Try.prog 59 := ⟨_, Try.func59, by kernel_rfl, rfl⟩
set_option maxRecDepth 100000 in
set_option maxHeartbeats 2000000 in
theorem backward_c (H : Heap) (id sh n cap : Nat) (hid : id < H.length) : ACall Try.prog 75 H [.s (.slice id (0 + sh) 0 n cap)] (.s (.clo 79 [(H.length + 0, 0 + 0, 0)])) [⟨true, [.one (.slice id (0 + sh) 0 n cap)]⟩] := by
  refine acall_gen2 (args0 := [.s (.slice 0 0 0 n cap)]) (H0 := [none]) (Hf := [none, some ⟨true, [.one (.slice 0 0 0 n cap)]⟩]) (v0 := .s (.clo 79 [(1, 0, 0)])) [(id, sh)] [1] Try.func75 rfl Try.ntmps75 (by simp) rfl
    (fun k id sh b0 h1 h2 => by match k, h1, h2 with | 0, _, h2 => simp at h2 | k + 1, h1, _ => simp at h1)
    (fun W ρ vals w hH ha k id' sh' hk => by match k, hk with | 0, hk => (simp at hk; obtain ⟨rfl, rfl⟩ := hk; exact ⟨hid, live_slice (i := 0) ha rfl⟩) | k + 1, hk => simp at hk)
    rfl rfl rfl (by decide) rfl rfl rfl (fun W w ρ0 hW hdom => ?_)
  refine w_seq ?_
  refine c_reg (by kernel_rfl) rfl ?_
  refine s_a (by first | exact h_box_agg rfl rfl | exact h_box rfl (by simp) rfl) rfl ?_
  refine s_p (by first | exact h_assign (v := .s _) rfl | exact h_assign (v := .agg _) rfl | exact h_assign (v := .tup _) rfl) ?_
  refine s_nil ?_
  refine n_wp ?_
  refine w_seq ?_
  refine c_reg (by kernel_rfl) rfl ?_
  refine s_p (h_mkfunc (caps := [(1, 0, 0)]) rfl) ?_
  refine s_p (by first | exact h_assign (v := .s _) rfl | exact h_assign (v := .agg _) rfl | exact h_assign (v := .tup _) rfl) ?_
  refine s_nil ?_
  refine n_wp ?_
  refine w_ret ?_
  exact doneM (by repeat (first | exact trivial | refine ⟨rfl, ?_⟩)) (ret_tmp Try.results75 rfl)
def I79 (l bx nw : Nat) (Hs : Nat → Heap) (n : Nat) (T : Tm) (H : Heap) : Prop := ∃ k : Nat, k ≤ nw ∧ n = nw - k ∧
  T = [(0, .s (.val (.func (.yield l) #[] #[]))), (1, .s (.ptr bx 0 0)), (3, .s (.int .i64 ((nw : Int) - 1 - k)))] ∧ H = Hs k
theorem take_all {H H' : Heap} (h : H = H') : H.take H'.length = H' := by subst h; exact List.take_length
theorem lowT (l bx nw k : Nat) {H : Heap} (hb : bx < H.length) (h : (H.all fun | none => true | some b => b.segs.all (Seg.lowB H.length)) = true) : belowAll [(0, .s (.val (.func (.yield l) #[] #[]))), (1, .s (.ptr bx 0 0)), (3, .s (.int .i64 ((nw : Int) - 1 - (k : Nat))))] H = true := by
  simp only [belowAll, Bool.and_eq_true]
  refine ⟨?_, h⟩
  have hb' : Nat.blt bx H.length = true := by rw [Nat.blt_eq]; exact hb
  simp [AV.lowB, SV.lowB, hb']
set_option maxRecDepth 100000 in
set_option maxHeartbeats 2000000 in
theorem back_iter (W : Nat → Prop) (w0 : World) (ρ0 : Rho) (n nE : Nat) (hW : ∀ b, w0.heap.size ≤ b → W b) (hdom : ∀ id, nE ≤ id → ρ0 id = none) (bx iw nw capw : Nat) (ws : List Int) (assign body : Code) (T : Tm) (Hs : Nat → Heap) (hnw : nw ≤ 1000) (h23 : 24 < n)
    (hlen : ∀ k, (Hs k).length = (Hs 0).length) (hlow : ∀ k, ((Hs k).all fun | none => true | some b => b.segs.all (Seg.lowB (Hs k).length)) = true) (hbx : ∀ k, k ≤ nw → (Hs k)[bx]? = some (some ⟨true, [.one (.slice iw 0 0 nw capw)]⟩)) (hiw : ∀ k, k ≤ nw → ∃ b, (Hs k)[iw]? = some (some b) ∧ b.segs = [.ints .u64 nw ws])
    (hY : ∀ k, k < nw → YRound Try.prog n assign body (roundT [23, 24] [.s (.int .i64 ((nw : Int) - 1 - k)), .s (.int .u64 (ws.getD (nw - 1 - k) 0))] T) (Hs k) (Hs (k + 1))) : Iter ⟨Try.prog, W, w0, ρ0, n, nE, hW, hdom⟩ 79 [(bx, 0, 0)] #[23, 24] assign body T (Hs 0) (Hs nw) := by
  intro l D ρ tm w1 fn vs hH hd hT htm hW1 hWl hl hvs
  have hTr := hT
  have hbel := fun k => lowT l bx nw k (H := Hs k) (by have := hbx 0 (by omega); have := (List.getElem?_eq_some_iff.1 this).1; have := hlen k; omega) (hlow k)
  have hvs1 : vs.size = 1 := hvs.1
  have hps : ∀ p ∈ (#[23, 24] : Array Tmp).toList, p < n := by
    intro p hp
    have hp' : p = 23 ∨ p = 24 := by simpa using hp
    rcases hp' with rfl | rfl
    · exact Nat.lt_trans (by decide) h23
    · exact h23
  refine calls_enter (W := W) (ρ0 := ρ) (H0 := Hs 0) (args := [.s (.val (.func (.yield l) #[] #[])), .s (.ptr bx 0 0)]) Try.func79 rfl hW1 hH hd ⟨by simp [hvs1], fun i x hx => ?_⟩ (by show 2 ≤ 19; omega) (i_of ?_)
  · match i, hx with
    | 0, hx =>
      simp at hx; subst hx
      refine ⟨?_, rfl⟩
      rw [Array.getD_eq_getD_getElem?, Array.getElem?_append_left (by simp)]; rfl
    | 1, hx =>
      simp at hx; subst hx
      obtain ⟨b, o, e1, e2⟩ := hvs.2 0 (bx, 0, 0) rfl
      refine ⟨b, o, e1, ?_⟩
      have hv0 : vs[0]? = some (.pointer (some ⟨b, o + 0 + 0, none⟩)) := e2
      show (#[Value.func (.yield l) #[] #[]] ++ vs).getD 1 undef = _
      rw [Array.getD_eq_getD_getElem?, Array.getElem?_append_right (by simp)]
      simp [hv0]
    | i + 2, hx => simp at hx
  rw [Try.ntmps79]
  refine i_seq ?_
  refine i_reg (by kernel_rfl) (by kernel_rfl) rfl ?_
  refine s_p (h_load_one rfl (hbx 0 (by omega)) rfl Try.isAgg143) ?_
  refine s_p (by first | exact h_len rfl Try.underlying143 | exact h_len_nil rfl Try.underlying143 | exact h_len_val rfl Try.underlying143) ?_
  refine s_p (by first | exact h_bin rfl rfl (b_sub (Go.IntWalk.i64_in _ (by omega))) | exact h_bin rfl rfl (b_sub rfl)) ?_
  refine s_p (by first | exact h_assign (v := .s _) rfl | exact h_assign (v := .agg _) rfl | exact h_assign (v := .tup _) rfl) ?_
  refine s_nil ?_
  refine ni_wp ?_
  refine i_block ?_
  refine i_loop (I79 l bx nw Hs) nw (T' := [(0, .s (.val (.func (.yield l) #[] #[]))), (1, .s (.ptr bx 0 0)), (3, .s (.int .i64 ((nw : Int) - 1)))]) ⟨0, by omega, rfl, by simp, rfl⟩ (weak' (by repeat (first | exact trivial | refine ⟨rfl, ?_⟩)) (take_all rfl) (by have := hbel 0; simpa using this) (Nat.le_refl _)) ?_
  rintro n T H ⟨k, hk, rfl, rfl, rfl⟩
  refine i_seq ?_
  refine i_seq ?_
  refine i_reg (by kernel_rfl) (by kernel_rfl) rfl ?_
  refine s_p (by first | exact h_move (v := .s _) rfl | exact h_move (v := .agg _) rfl | exact h_move (v := .tup _) rfl) ?_
  refine s_p (h_bin rfl rfl (b_geq rfl)) ?_
  refine s_nil ?_
  refine ni_wp ?_
  refine i_cond rfl (fun hc_t8 => ?_) (fun hc_t8 => ?_)
  · skip
    have hlt : k < nw := by have := of_decide_eq_true hc_t8; omega
    obtain ⟨ib, hib, his⟩ := hiw k hk
    refine i_skip ?_
    refine ni_wp ?_
    refine i_seq ?_
    refine i_block ?_
    refine i_seq ?_
    refine i_regY 6 (by kernel_rfl) (by kernel_rfl) rfl rfl rfl rfl ?_
    refine s_p (by first | exact h_move (v := .s _) rfl | exact h_move (v := .agg _) rfl | exact h_move (v := .tup _) rfl) ?_
    refine s_p (by first | exact h_move (v := .s _) rfl | exact h_move (v := .agg _) rfl | exact h_move (v := .tup _) rfl) ?_
    refine s_p (h_load_one rfl (hbx k hk) rfl Try.isAgg143) ?_
    refine s_p (by first | exact h_move (v := .s _) rfl | exact h_move (v := .agg _) rfl | exact h_move (v := .tup _) rfl) ?_
    refine s_p (h_ixs0l (nw - 1 - k) rfl rfl (by omega) Try.underlying143 Try.sizeOf40 (by omega)) ?_
    refine s_p (h_load_ints rfl hib (by rw [his]; rfl) (by omega) rfl Try.isAgg40) ?_
    refine s_nil ?_
    refine ⟨_, Hs (k + 1), yield_op rfl rfl (by kernel_rfl) hl hWl hTr htm hps rfl (hY k hlt), ?_⟩
    refine s_p (h_not rfl) ?_
    refine s_nil ?_
    refine ni_wp ?_
    refine i_cond rfl (fun hc_t18 => ?_) (fun hc_t18 => ?_)
    · exact absurd hc_t18 (by simp at hc_t18)
    refine i_skip ?_
    refine n_blo ?_
    refine ni_wp ?_
    refine i_reg (by kernel_rfl) (by kernel_rfl) rfl ?_
    refine s_p (by first | exact h_move (v := .s _) rfl | exact h_move (v := .agg _) rfl | exact h_move (v := .tup _) rfl) ?_
    refine s_p (by first | exact h_bin rfl rfl (b_sub (Go.IntWalk.i64_in _ (by omega))) | exact h_bin rfl rfl (b_sub rfl)) ?_
    refine s_p (by first | exact h_assign (v := .s _) rfl | exact h_assign (v := .agg _) rfl | exact h_assign (v := .tup _) rfl) ?_
    refine s_nil ?_
    exact n_round (nw - (k + 1)) (by omega) ⟨k + 1, by omega, rfl, rfl, rfl⟩ (weak' (by repeat (first | exact trivial | refine ⟨rfl, ?_⟩ | refine ⟨show AV.s (SV.int .i64 ((nw : Int) - 1 - k - 1)) = AV.s (SV.int .i64 ((nw : Int) - 1 - ((k + 1 : Nat) : Int))) by rw [show (nw : Int) - 1 - ((k + 1 : Nat) : Int) = (nw : Int) - 1 - (k : Int) - 1 by omega], ?_⟩)) (take_all rfl) (hbel (k + 1)) (by have := hlen (k + 1); show (Hs 0).length ≤ _; omega))
  · skip
    have hke : k = nw := by have := of_decide_eq_false hc_t8; omega
    subst hke
    refine i_exit ?_
    refine x_thn ?_
    refine x_thn ?_
    refine x_eq ?_
    exact ⟨.inr rfl, .tup [], ret_none Try.results79, fun v' ρ' w' h1 h2 h3 h4 h5 => ⟨⟨_, rfl⟩, ρ', h2, h4, h3, h5⟩⟩
end Go.Proofs.X
