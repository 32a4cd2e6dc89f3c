/- A part of the proofs of this claim: ShaC (ShaW6, ShaSpec3, ShaW7). No conditions. -/
import Derived.Test.YtffflnpidipheaaShaB
import Derived.Test.YtffflnpidipheaaRowA
import Derived.Test.YtffflnpidipheaaAbB
import Derived.Test.YtffflnpidipheaaShaA
set_option linter.unusedVariables false
set_option linter.unusedSimpArgs false
section
open Go Go.Ab Go.Proofs
namespace Go.Proofs.X
theorem callable_57 : Callable Try.prog 57 := ⟨_, Try.func57, by kernel_rfl, rfl⟩
theorem callable_58 : Callable Try.prog 58 := ⟨_, Try.func58, by kernel_rfl, rfl⟩
def JN (q0 : Run) (tot : Nat) (n : Nat) (T : Tm) (H : Heap) : Prop := ∃ (i t : Nat), i ≤ 1 ∧ n = 1 - i ∧ t = tot ∧
  T = [(0, .s (.ptr 0 0 0)), (8, .s (.slice 1 0 0 1 1)), (9, .s (.int .i64 1)), (10, .s (.int .i64 i))] ∧ H = [some ⟨true, [.one (.ptr 2 0 0), .ints .u8 64 (q0).b, .one (.int .i64 ((q0).m : Nat)), .one (.int .u64 ((t : Nat) : Int))]⟩, some ⟨false, [.one .nils]⟩, none]
def JNb (q0 : Run) (tot : Nat) (n : Nat) (T : Tm) (H : Heap) : Prop := n = 0 ∧
  T = [(0, .s (.ptr 0 0 0)), (5, .s .nils), (8, .s (.slice 1 0 0 1 1)), (9, .s (.int .i64 1)), (10, .s (.int .i64 ((0 : Nat) : Int)))] ∧ H = [some ⟨true, [.one (.ptr 2 0 0), .ints .u8 64 (q0).b, .one (.int .i64 ((q0).m : Nat)), .one (.int .u64 ((tot + 0 : Nat) : Int))]⟩, some ⟨false, [.one .nils]⟩, none]
set_option maxRecDepth 100000 in
set_option maxHeartbeats 2000000 in
theorem takesN (H : Heap) (ir ip is : Nat) (q0 : Run) (tot : Nat) (bp : Blk) (hq0 : RunOk q0) (htot : tot ≤ 140737488351232) (hr : H[ir]? = some (some ⟨true, [.one (.ptr is (0 + 0) 0), .ints .u8 64 (q0).b, .one (.int .i64 ((q0).m : Nat)), .one (.int .u64 ((tot : Nat) : Int))]⟩)) (hp : H[ip]? = some (some bp)) (hps : bp.segs = [.one .nils]) (n1 : ir ≠ ip) (n3 : ir ≠ is) : AMut Try.prog 74 H [.s (.ptr ir (0 + 0) 0), .s (.slice ip (0 + 0) 0 1 1)] (.tup []) ((forget [] H).set ir (some ⟨true, [.one (.ptr is (0 + 0) 0), .ints .u8 64 (q0).b, .one (.int .i64 ((q0).m : Nat)), .one (.int .u64 ((tot : Nat) : Int))]⟩) ++ []) := by
  refine amut_gen3 (args0 := [.s (.ptr 0 0 0), .s (.slice 1 0 0 1 1)]) (H0 := [some ⟨true, [.one (.ptr 2 0 0), .ints .u8 64 (q0).b, .one (.int .i64 ((q0).m : Nat)), .one (.int .u64 ((tot : Nat) : Int))]⟩, some ⟨false, [.one .nils]⟩, none]) (Hf := [some ⟨true, [.one (.ptr 2 0 0), .ints .u8 64 (q0).b, .one (.int .i64 ((q0).m : Nat)), .one (.int .u64 ((tot : Nat) : Int))]⟩, none, none]) (v0 := .tup []) [(ir, 0), (ip, 0), (is, 0)] [] 3 (Nat.le_of_ble_eq_true rfl) Try.func74 rfl Try.ntmps74 (by simp) rfl
    (fun k id' sh' b0 h1 h2 => by
      match k, h1, h2 with
      | 0, h1, h2 => simp at h1 h2; obtain ⟨rfl, rfl⟩ := h1; subst h2; exact ⟨rfl, _, hr, fun _ => ⟨rfl, rfl⟩, foot_same rfl⟩
      | 1, h1, h2 => simp at h1 h2; obtain ⟨rfl, rfl⟩ := h1; subst h2; exact ⟨rfl, _, hp, fun e => (by cases e), foot_same hps⟩
      | 2, h1, h2 => simp at h2
      | k + 3, h1, _ => simp at h1)
    (fun k k' id' s1 s2 b0 h1 h1' hne h2 => by
      match k, k', h1, h1', h2, hne with
      | 0, 0, _, _, _, hne => exact absurd rfl hne
      | 0, 1, h1, h1', _, _ => simp at h1 h1'; exact absurd (h1.1.trans h1'.1.symm) n1
      | 0, 2, h1, h1', _, _ => simp at h1 h1'; exact absurd (h1.1.trans h1'.1.symm) n3
      | 0, k + 3, _, h1', _, _ => simp at h1'
      | 1, _, _, _, h2, _ => simp at h2; subst h2; rfl
      | 2, _, _, _, h2, _ => simp at h2
      | k + 3, _, h1, _, _, _ => simp at h1)
    (fun W ρ vals w hH ha k id' sh' hk => by
      match k, hk with
      | 0, hk => simp at hk; obtain ⟨rfl, rfl⟩ := hk; exact live_ptr (i := 0) ha rfl
      | 1, hk => simp at hk; obtain ⟨rfl, rfl⟩ := hk; exact live_slice (i := 1) ha rfl
      | 2, hk => simp at hk; obtain ⟨rfl, rfl⟩ := hk; exact live_in (p := 0) hH (live_ptr (i := 0) ha rfl) hr rfl
      | k + 3, hk => simp at hk)
    rfl rfl rfl (by decide) rfl rfl rfl (fun W w' ρ0 hW hdom => ?_)
  refine w_seq ?_
  refine c_reg (by kernel_rfl) rfl ?_
  refine s_p (by first | exact h_move (v := .s _) rfl | exact h_move (v := .agg _) rfl | exact h_move (v := .tup _) rfl) ?_
  refine s_p (by first | exact h_len rfl Try.underlying92 | exact h_len_nil rfl Try.underlying92 | exact h_len_val rfl Try.underlying92) ?_
  refine s_p (by first | exact h_move (v := .s _) rfl | exact h_move (v := .agg _) rfl | exact h_move (v := .tup _) rfl) ?_
  refine s_nil ?_
  refine n_wp ?_
  refine w_block ?_
  refine c_loop (JN q0 tot) 1 ⟨0, tot, by omega, rfl, rfl, rfl, rfl⟩ (weak' (by repeat (first | exact trivial | refine ⟨rfl, ?_⟩)) rfl rfl (Nat.le_of_ble_eq_true rfl)) ?_
  rintro n T H ⟨i, ta, hi, rfl, het, rfl, rfl⟩
  refine w_seq ?_
  refine c_reg (by kernel_rfl) rfl ?_
  refine s_p (h_bin rfl rfl (b_lss rfl)) ?_
  refine s_nil ?_
  refine n_wp ?_
  refine w_seq ?_
  refine w_cond rfl (fun hc_t11 => ?_) (fun hc_t11 => ?_)
  · skip
    have hi0 : i = 0 := by have := of_decide_eq_true hc_t11; omega
    subst hi0
    refine w_skip ?_
    refine n_wp ?_
    refine w_seq ?_
    refine w_block ?_
    refine w_seq ?_
    refine c_reg (by kernel_rfl) rfl ?_
    refine s_p (by first | exact h_ixs0 rfl rfl Try.underlying92 Try.sizeOf29 (by omega) | exact h_ixs rfl rfl Try.underlying92 Try.sizeOf29 (by omega) | exact h_ixsx rfl rfl Try.underlying92 Try.sizeOf29 (by omega)) ?_
    refine s_p (h_load rfl rfl rfl Try.isAgg29) ?_
    refine s_p (by first | exact h_assign (v := .s _) rfl | exact h_assign (v := .agg _) rfl | exact h_assign (v := .tup _) rfl) ?_
    refine s_nil ?_
    refine n_wp ?_
    refine w_seq ?_
    refine c_reg (by kernel_rfl) rfl ?_
    refine s_p (by first | exact h_move (v := .s _) rfl | exact h_move (v := .agg _) rfl | exact h_move (v := .tup _) rfl) ?_
    refine s_p (h_nilCheck rfl) ?_
    refine s_p (h_field rfl Try.underlying142 rfl Try.sizeOf40 (by decide)) ?_
    refine s_p (by first | exact h_load_ints rfl rfl rfl (by omega) rfl Try.isAgg40 | exact h_load_one rfl rfl rfl Try.isAgg40) ?_
    refine s_p (by first | exact h_move (v := .s _) rfl | exact h_move (v := .agg _) rfl | exact h_move (v := .tup _) rfl) ?_
    refine s_p (by first | exact h_len rfl Try.underlying29 | exact h_len_nil rfl Try.underlying29 | exact h_len_val rfl Try.underlying29) ?_
    refine s_p (h_conv rfl Try.underlying3 Try.underlying40 (wu_n (c := 0) rfl (by omega))) ?_
    refine s_p (h_bin rfl rfl (b_add (r := ((ta + 0 : Nat) : Int)) (wu_n (by omega) (by omega)))) ?_
    refine s_p (h_nilCheck rfl) ?_
    refine s_p (h_field rfl Try.underlying142 rfl Try.sizeOf40 (by decide)) ?_
    refine s_st (by first | exact m_store_int rfl rfl rfl rfl (by omega) (by (first | assumption | exact hq0.b)) Try.sizeOf40 rfl | exact m_store_one rfl rfl (by simp) rfl rfl Try.sizeOf40 rfl) ?_
    refine s_nil ?_
    refine n_wp ?_
    refine w_block ?_
    refine c_loop (JNb q0 ta) 0 ⟨rfl, rfl, rfl⟩ (weak' (by repeat (first | exact trivial | refine ⟨rfl, ?_⟩)) rfl rfl (Nat.le_of_ble_eq_true rfl)) ?_
    rintro n T H ⟨rfl, rfl, rfl⟩
    refine w_seq ?_
    refine w_seq ?_
    refine c_reg (by kernel_rfl) rfl ?_
    refine s_p (by first | exact h_move (v := .s _) rfl | exact h_move (v := .agg _) rfl | exact h_move (v := .tup _) rfl) ?_
    refine s_p (by first | exact h_len rfl Try.underlying29 | exact h_len_nil rfl Try.underlying29 | exact h_len_val rfl Try.underlying29) ?_
    refine s_p (h_bin rfl rfl (b_gtr rfl)) ?_
    refine s_nil ?_
    refine n_wp ?_
    refine w_cond rfl (fun hc_t26 => ?_) (fun hc_t26 => ?_)
    · exact absurd hc_t26 (by simp)
    refine w_exit ?_
    refine x_thn ?_
    refine x_thn ?_
    refine x_eq ?_
    refine n_blo ?_
    refine n_wp ?_
    refine c_reg (by kernel_rfl) rfl ?_
    refine s_p (by first | exact h_bin rfl rfl (b_add (Go.IntWalk.i64_in _ (by omega))) | exact h_bin rfl rfl (b_add rfl)) ?_
    refine s_p (by first | exact h_move (v := .s _) rfl | exact h_move (v := .agg _) rfl | exact h_move (v := .tup _) rfl) ?_
    refine s_nil ?_
    exact n_round 0 (by omega) ⟨1, _, by omega, rfl, het, rfl, rfl⟩ (weak' (by repeat (first | exact trivial | refine ⟨rfl, ?_⟩)) rfl rfl (Nat.le_of_ble_eq_true rfl))
  · skip
    have hi1 : i = 1 := by have := of_decide_eq_false hc_t11; omega
    subst hi1
    refine w_exit ?_
    refine x_thn ?_
    refine x_thn ?_
    refine x_eq ?_
    subst het; exact doneN (by repeat (first | exact trivial | refine ⟨rfl, ?_⟩)) (ret_none Try.results74)
set_option maxRecDepth 100000 in
set_option maxHeartbeats 2000000 in
theorem Write_s (H : Heap) (ir id is sh : Nat) (q0 : Run) (tot : Nat) (B : List Int) (len cap : Nat) (bd : Blk) (hq0 : RunOk q0) (hBl : B.length = len) (hcap : len ≤ cap) (hlen : len ≤ 140737488351232) (hd : H[id]? = some (some bd)) (hds : ∀ (i : Nat) (y : SV), atS [.ints .u8 len B] i = some y → atS bd.segs (sh + i) = some y) (htot : tot ≤ 140737488351232) (hr : H[ir]? = some (some ⟨true, [.one (.ptr is (0 + 0) 0), .ints .u8 64 (q0).b, .one (.int .i64 ((q0).m : Nat)), .one (.int .u64 ((tot : Nat) : Int))]⟩)) (hs : H[is]? = some (some ⟨true, [.ints .u32 8 q0.s]⟩)) (n2 : ir ≠ id) (n3 : ir ≠ is) (n5 : is ≠ id) : AMut Try.prog 57 H [.s (.ptr ir (0 + 0) 0), .s (.slice id (0 + sh) 0 len cap)] (.s (.int .i64 0)) ((forget [is] H).set ir (some ⟨true, [.one (.ptr (H.length + 0) (0 + 0) 0), .ints .u8 64 (tk q0 B).b, .one (.int .i64 ((tk q0 B).m : Nat)), .one (.int .u64 ((tot + len : Nat) : Int))]⟩) ++ [some ⟨true, [.ints .u32 8 (tk q0 B).s]⟩]) := by
  refine amut_gen3 (args0 := [.s (.ptr 0 0 0), .s (.slice 1 0 0 len cap)]) (H0 := [some ⟨true, [.one (.ptr 2 0 0), .ints .u8 64 (q0).b, .one (.int .i64 ((q0).m : Nat)), .one (.int .u64 ((tot : Nat) : Int))]⟩, some ⟨false, [.ints .u8 len B]⟩, some ⟨true, [.ints .u32 8 q0.s]⟩]) (Hf := [some ⟨true, [.one (.ptr 4 0 0), .ints .u8 64 (tk q0 B).b, .one (.int .i64 ((tk q0 B).m : Nat)), .one (.int .u64 ((tot + len : Nat) : Int))]⟩, none, none, none, some ⟨true, [.ints .u32 8 (tk q0 B).s]⟩]) (v0 := .s (.int .i64 0)) [(ir, 0), (id, sh), (is, 0)] [4] 2 (Nat.le_of_ble_eq_true rfl) Try.func57 rfl Try.ntmps57 (by simp) rfl
    (fun k id' sh' b0 h1 h2 => by
      match k, h1, h2 with
      | 0, h1, h2 => simp at h1 h2; obtain ⟨rfl, rfl⟩ := h1; subst h2; exact ⟨rfl, _, hr, fun _ => ⟨rfl, rfl⟩, foot_same rfl⟩
      | 1, h1, h2 => simp at h1 h2; obtain ⟨rfl, rfl⟩ := h1; subst h2; exact ⟨rfl, _, hd, fun e => (by cases e), fun i y hy => by (have h := hds i y hy; obtain ⟨_, rfl⟩ := atS_ints1 hy; exact h)⟩
      | 2, h1, h2 => simp at h1 h2; obtain ⟨rfl, rfl⟩ := h1; subst h2; exact ⟨rfl, _, hs, fun _ => ⟨rfl, rfl⟩, foot_same rfl⟩
      | k + 3, h1, _ => simp at h1)
    (fun k k' id' s1 s2 b0 h1 h1' hne h2 => by
      match k, k', h1, h1', h2, hne with
      | 0, 0, _, _, _, hne => exact absurd rfl hne
      | 0, 1, h1, h1', _, _ => simp at h1 h1'; exact absurd (h1.1.trans h1'.1.symm) n2
      | 0, 2, h1, h1', _, _ => simp at h1 h1'; exact absurd (h1.1.trans h1'.1.symm) n3
      | 0, k + 3, _, h1', _, _ => simp at h1'
      | 1, _, _, _, h2, _ => simp at h2; subst h2; rfl
      | 2, 0, h1, h1', _, _ => simp at h1 h1'; exact absurd (h1'.1.trans h1.1.symm) n3
      | 2, 1, h1, h1', _, _ => simp at h1 h1'; exact absurd (h1.1.trans h1'.1.symm) n5
      | 2, 2, _, _, _, hne => exact absurd rfl hne
      | 2, k + 3, _, h1', _, _ => simp at h1'
      | k + 3, _, h1, _, _, _ => simp at h1)
    (fun W ρ vals w hH ha k id' sh' hk => by
      match k, hk with
      | 0, hk => simp at hk; obtain ⟨rfl, rfl⟩ := hk; exact live_ptr (i := 0) ha rfl
      | 1, hk => simp at hk; obtain ⟨rfl, rfl⟩ := hk; exact live_slice (i := 1) ha rfl
      | 2, hk => simp at hk; obtain ⟨rfl, rfl⟩ := hk; exact live_in (p := 0) hH (live_ptr (i := 0) ha rfl) hr rfl
      | k + 3, hk => simp at hk)
    rfl rfl rfl (by decide) rfl rfl rfl (fun W w' ρ0 hW hdom => ?_)
  refine w_seq ?_
  refine c_reg (by kernel_rfl) rfl ?_
  refine s_p (by first | exact h_assign (v := .s _) rfl | exact h_assign (v := .agg _) rfl | exact h_assign (v := .tup _) rfl) ?_
  refine s_nil ?_
  refine n_wp ?_
  refine w_seq ?_
  refine w_seq ?_
  refine c_reg (by kernel_rfl) rfl ?_
  refine s_p (by first | exact h_move (v := .s _) rfl | exact h_move (v := .agg _) rfl | exact h_move (v := .tup _) rfl) ?_
  refine s_p (h_eqn rfl rfl Try.underlying115) ?_
  refine s_p (by first | exact h_move (v := .s _) rfl | exact h_move (v := .agg _) rfl | exact h_move (v := .tup _) rfl) ?_
  first | refine s_on rfl rfl (by first | rfl | assumption) (by first | exact h_move (v := .s _) rfl | exact h_move (v := .agg _) rfl | exact h_move (v := .tup _) rfl) ?_ | refine s_off rfl rfl (by first | rfl | assumption) ?_
  first | refine s_on rfl rfl (by first | rfl | assumption) (h_nilCheck rfl) ?_ | refine s_off rfl rfl (by first | rfl | assumption) ?_
  first | refine s_on rfl rfl (by first | rfl | assumption) (h_field rfl Try.underlying142 rfl Try.sizeOf136 (by decide)) ?_ | refine s_off rfl rfl (by first | rfl | assumption) ?_
  first | refine s_on rfl rfl (by first | rfl | assumption) (by first | exact h_load_ints rfl rfl rfl (by omega) rfl Try.isAgg136 | exact h_load_one rfl rfl rfl Try.isAgg136) ?_ | refine s_off rfl rfl (by first | rfl | assumption) ?_
  first | refine s_on rfl rfl (by first | rfl | assumption) (h_eqn rfl rfl Try.underlying136) ?_ | refine s_off rfl rfl (by first | rfl | assumption) ?_
  refine s_p (by first | exact h_pick_t rfl (by first | rfl | assumption) rfl | exact h_pick_f rfl (by first | rfl | assumption) rfl) ?_
  refine s_nil ?_
  refine n_wp ?_
  refine w_cond rfl (fun hc_t13 => ?_) (fun hc_t13 => ?_)
  · exact absurd hc_t13 (by simp)
  refine w_skip ?_
  refine n_wp ?_
  refine w_seq ?_
  refine c_reg (by kernel_rfl) rfl ?_
  refine s_p (by first | exact h_move (v := .s _) rfl | exact h_move (v := .agg _) rfl | exact h_move (v := .tup _) rfl) ?_
  refine s_p (by first | exact h_move (v := .s _) rfl | exact h_move (v := .agg _) rfl | exact h_move (v := .tup _) rfl) ?_
  refine s_a (h_bsls1 rfl (by simp) Try.underlying92 Try.sizeOf29 Try.zeroValue29 rfl rfl) rfl ?_
  refine s_m (m_call callable_74 rfl (takes_c _ 0 3 1 2 0 q0 tot B len cap _ _ hq0 hBl hcap hlen htot rfl rfl rfl rfl (fun i y hy => by rw [Nat.zero_add]; exact hy) rfl (by decide) (by decide) (by decide) (by decide) (by decide))) ?_
  refine s_nil ?_
  refine n_wp ?_
  refine w_seq ?_
  refine c_reg (by kernel_rfl) rfl ?_
  refine s_p (by first | exact h_assign (v := .s _) rfl | exact h_assign (v := .agg _) rfl | exact h_assign (v := .tup _) rfl) ?_
  refine s_nil ?_
  refine n_wp ?_
  refine w_ret ?_
  exact doneM (by repeat (first | exact trivial | refine ⟨rfl, ?_⟩)) (ret_tmp Try.results57 rfl)
set_option maxRecDepth 100000 in
set_option maxHeartbeats 2000000 in
theorem Write_n (H : Heap) (ir is : Nat) (q0 : Run) (tot : Nat) (hq0 : RunOk q0) (htot : tot ≤ 140737488351232) (hr : H[ir]? = some (some ⟨true, [.one (.ptr is (0 + 0) 0), .ints .u8 64 (q0).b, .one (.int .i64 ((q0).m : Nat)), .one (.int .u64 ((tot : Nat) : Int))]⟩)) (n3 : ir ≠ is) : AMut Try.prog 57 H [.s (.ptr ir (0 + 0) 0), .s .nils] (.s (.int .i64 0)) ((forget [] H).set ir (some ⟨true, [.one (.ptr is (0 + 0) 0), .ints .u8 64 (q0).b, .one (.int .i64 ((q0).m : Nat)), .one (.int .u64 ((tot : Nat) : Int))]⟩) ++ []) := by
  refine amut_gen3 (args0 := [.s (.ptr 0 0 0), .s .nils]) (H0 := [some ⟨true, [.one (.ptr 1 0 0), .ints .u8 64 (q0).b, .one (.int .i64 ((q0).m : Nat)), .one (.int .u64 ((tot : Nat) : Int))]⟩, none]) (Hf := [some ⟨true, [.one (.ptr 1 0 0), .ints .u8 64 (q0).b, .one (.int .i64 ((q0).m : Nat)), .one (.int .u64 ((tot : Nat) : Int))]⟩, none]) (v0 := .s (.int .i64 0)) [(ir, 0), (is, 0)] [] 2 (Nat.le_of_ble_eq_true rfl) Try.func57 rfl Try.ntmps57 (by simp) rfl
    (fun k id' sh' b0 h1 h2 => by
      match k, h1, h2 with
      | 0, h1, h2 => simp at h1 h2; obtain ⟨rfl, rfl⟩ := h1; subst h2; exact ⟨rfl, _, hr, fun _ => ⟨rfl, rfl⟩, foot_same rfl⟩
      | 1, h1, h2 => simp at h2
      | k + 2, h1, _ => simp at h1)
    (fun k k' id' s1 s2 b0 h1 h1' hne h2 => by
      match k, k', h1, h1', h2, hne with
      | 0, 0, _, _, _, hne => exact absurd rfl hne
      | 0, 1, h1, h1', _, _ => simp at h1 h1'; exact absurd (h1.1.trans h1'.1.symm) n3
      | 0, k + 2, _, h1', _, _ => simp at h1'
      | 1, _, _, _, h2, _ => simp at h2
      | k + 2, _, h1, _, _, _ => simp at h1)
    (fun W ρ vals w hH ha k id' sh' hk => by
      match k, hk with
      | 0, hk => simp at hk; obtain ⟨rfl, rfl⟩ := hk; exact live_ptr (i := 0) ha rfl
      | 1, hk => simp at hk; obtain ⟨rfl, rfl⟩ := hk; exact live_in (p := 0) hH (live_ptr (i := 0) ha rfl) hr rfl
      | k + 2, hk => simp at hk)
    rfl rfl rfl (by decide) rfl rfl rfl (fun W w' ρ0 hW hdom => ?_)
  refine w_seq ?_
  refine c_reg (by kernel_rfl) rfl ?_
  refine s_p (by first | exact h_assign (v := .s _) rfl | exact h_assign (v := .agg _) rfl | exact h_assign (v := .tup _) rfl) ?_
  refine s_nil ?_
  refine n_wp ?_
  refine w_seq ?_
  refine w_seq ?_
  refine c_reg (by kernel_rfl) rfl ?_
  refine s_p (by first | exact h_move (v := .s _) rfl | exact h_move (v := .agg _) rfl | exact h_move (v := .tup _) rfl) ?_
  refine s_p (h_eqn rfl rfl Try.underlying115) ?_
  refine s_p (by first | exact h_move (v := .s _) rfl | exact h_move (v := .agg _) rfl | exact h_move (v := .tup _) rfl) ?_
  first | refine s_on rfl rfl (by first | rfl | assumption) (by first | exact h_move (v := .s _) rfl | exact h_move (v := .agg _) rfl | exact h_move (v := .tup _) rfl) ?_ | refine s_off rfl rfl (by first | rfl | assumption) ?_
  first | refine s_on rfl rfl (by first | rfl | assumption) (h_nilCheck rfl) ?_ | refine s_off rfl rfl (by first | rfl | assumption) ?_
  first | refine s_on rfl rfl (by first | rfl | assumption) (h_field rfl Try.underlying142 rfl Try.sizeOf136 (by decide)) ?_ | refine s_off rfl rfl (by first | rfl | assumption) ?_
  first | refine s_on rfl rfl (by first | rfl | assumption) (by first | exact h_load_ints rfl rfl rfl (by omega) rfl Try.isAgg136 | exact h_load_one rfl rfl rfl Try.isAgg136) ?_ | refine s_off rfl rfl (by first | rfl | assumption) ?_
  first | refine s_on rfl rfl (by first | rfl | assumption) (h_eqn rfl rfl Try.underlying136) ?_ | refine s_off rfl rfl (by first | rfl | assumption) ?_
  refine s_p (by first | exact h_pick_t rfl (by first | rfl | assumption) rfl | exact h_pick_f rfl (by first | rfl | assumption) rfl) ?_
  refine s_nil ?_
  refine n_wp ?_
  refine w_cond rfl (fun hc_t13 => ?_) (fun hc_t13 => ?_)
  · exact absurd hc_t13 (by simp)
  refine w_skip ?_
  refine n_wp ?_
  refine w_seq ?_
  refine c_reg (by kernel_rfl) rfl ?_
  refine s_p (by first | exact h_move (v := .s _) rfl | exact h_move (v := .agg _) rfl | exact h_move (v := .tup _) rfl) ?_
  refine s_p (by first | exact h_move (v := .s _) rfl | exact h_move (v := .agg _) rfl | exact h_move (v := .tup _) rfl) ?_
  refine s_a (h_bsls1 rfl (by simp) Try.underlying92 Try.sizeOf29 Try.zeroValue29 rfl rfl) rfl ?_
  refine s_m (m_call callable_74 rfl (takesN _ 0 2 1 q0 tot _ hq0 htot rfl rfl rfl (by decide) (by decide))) ?_
  refine s_nil ?_
  refine n_wp ?_
  refine w_seq ?_
  refine c_reg (by kernel_rfl) rfl ?_
  refine s_p (by first | exact h_assign (v := .s _) rfl | exact h_assign (v := .agg _) rfl | exact h_assign (v := .tup _) rfl) ?_
  refine s_nil ?_
  refine n_wp ?_
  refine w_ret ?_
  exact doneM (by repeat (first | exact trivial | refine ⟨rfl, ?_⟩)) (ret_tmp Try.results57 rfl)
end Go.Proofs.X
end

section
/- What the sum of bytes is, on lists. -/
open Go Go.Ab Go.Proofs
namespace Go.Proofs.X
def ob (s : List Int) : Nat → List Int
  | 0 => []
  | i + 1 => rowL (4 * i + 4) (ob s i) (4 * i) 4 1 [IntKind.u64.wrap (s.getD i 0)]
theorem ob_len (s : List Int) (i : Nat) : (ob s i).length = 4 * i := by
  cases i with
  | zero => rfl
  | succ i => exact rowL_len _ _ _ _ _ _
def sumQ (q : Run) (tot : Nat) : Run := tk (tk (tk q [128]) (List.replicate ((119 - q.m) % 64) 0)) (rr 8 8 1 [IntKind.u64.wrap (8 * ((tot : Nat) : Int))] 1)
def sumL (q : Run) (tot : Nat) : List Int := spl (z 32) (((ob (sumQ q tot).s 8).drop 0).take 32) (0 + 0) 32 32
theorem sumL_len (q : Run) (tot : Nat) : (sumL q tot).length = 32 := spl_len _ _ _ _ _
theorem sumQ_ok {q : Run} (h : RunOk q) (tot : Nat) : RunOk (sumQ q tot) := tk_ok (tk_ok (tk_ok h _) _) _
end Go.Proofs.X
end

section
open Go Go.Ab Go.Proofs
namespace Go.Proofs.X
def JS (L S : List Int) (n : Nat) (T : Tm) (H : Heap) : Prop := ∃ i, i ≤ 8 ∧ n = 8 - i ∧
  ((i = 0 ∧ T = [(2, .s (.ptr 1 0 0)), (5, .s (.slice 1 0 0 0 32)), (41, .s (.ptr 2 0 0)), (42, .s (.int .i64 ((0 : Nat) : Int)))] ∧ H = [none, some ⟨true, [.ints .u8 32 L]⟩, some ⟨true, [.ints .u32 8 S]⟩]) ∨
   (0 < i ∧ T = [(2, .s (.ptr 1 0 0)), (5, .s (.slice 3 0 0 (4 * i) (4 * i))), (41, .s (.ptr 2 0 0)), (42, .s (.int .i64 ((i : Nat) : Int)))] ∧ H = [none, some ⟨true, [.ints .u8 32 L]⟩, some ⟨true, [.ints .u32 8 S]⟩, some ⟨true, [.ints .u8 (4 * i) (ob S i)]⟩]))
set_option maxRecDepth 100000 in
set_option maxHeartbeats 2000000 in
theorem Sum_c (H : Heap) (ir is : Nat) (q0 : Run) (tot : Nat) (br : Blk) (hq0 : RunOk q0) (htot : tot ≤ 140737488351000) (hr : H[ir]? = some (some br)) (hrs : br.segs = [.one (.ptr is (0 + 0) 0), .ints .u8 64 q0.b, .one (.int .i64 (q0.m : Nat)), .one (.int .u64 ((tot : Nat) : Int))]) (hs : H[is]? = some (some ⟨true, [.ints .u32 8 q0.s]⟩)) (n3 : ir ≠ is) : AMut Try.prog 58 H [.s (.ptr ir (0 + 0) 0)] (.agg [.ints .u8 32 (sumL q0 tot)]) (forget [is] H ++ []) := by
  refine amut_gen3 (args0 := [.s (.ptr 0 0 0)]) (H0 := [some ⟨false, [.one (.ptr 1 0 0), .ints .u8 64 (q0).b, .one (.int .i64 ((q0).m : Nat)), .one (.int .u64 ((tot : Nat) : Int))]⟩, some ⟨true, [.ints .u32 8 q0.s]⟩]) (Hf := [none, none]) (v0 := .agg [.ints .u8 32 (sumL q0 tot)]) [(ir, 0), (is, 0)] [] 1 (Nat.le_of_ble_eq_true rfl) Try.func58 rfl Try.ntmps58 (by simp) rfl
    (fun k id' sh' b0 h1 h2 => by
      match k, h1, h2 with
      | 0, h1, h2 => simp at h1 h2; obtain ⟨rfl, rfl⟩ := h1; subst h2; exact ⟨rfl, _, hr, fun e => (by cases e), foot_same hrs⟩
      | 1, h1, h2 => simp at h1 h2; obtain ⟨rfl, rfl⟩ := h1; subst h2; exact ⟨rfl, _, hs, fun _ => ⟨rfl, rfl⟩, foot_same rfl⟩
      | k + 2, h1, _ => simp at h1)
    (fun k k' id' s1 s2 b0 h1 h1' hne h2 => by
      match k, k', h1, h1', h2, hne with
      | 0, _, _, _, h2, _ => simp at h2; subst h2; rfl
      | 1, 0, h1, h1', _, _ => simp at h1 h1'; exact absurd (h1'.1.trans h1.1.symm) n3
      | 1, 1, _, _, _, hne => exact absurd rfl hne
      | 1, k + 2, _, h1', _, _ => simp at h1'
      | k + 2, _, h1, _, _, _ => simp at h1)
    (fun W ρ vals w hH ha k id' sh' hk => by
      match k, hk with
      | 0, hk => simp at hk; obtain ⟨rfl, rfl⟩ := hk; exact live_ptr (i := 0) ha rfl
      | 1, hk => simp at hk; obtain ⟨rfl, rfl⟩ := hk; exact live_in (p := 0) hH (live_ptr (i := 0) ha rfl) hr (by rw [hrs]; rfl)
      | k + 2, hk => simp at hk)
    rfl rfl rfl (by decide) rfl rfl rfl (fun W w' ρ0 hW hdom => ?_)
  have hqm := hq0.m
  refine w_seq ?_
  refine c_reg (by kernel_rfl) rfl ?_
  refine s_a (h_alloc (segs := [.ints .u8 32 (z 32)]) Try.zeroValue44 (by kernel_rfl) rfl) rfl ?_
  refine s_nil ?_
  refine n_wp ?_
  refine w_seq ?_
  refine w_seq ?_
  refine c_reg (by kernel_rfl) rfl ?_
  refine s_p (by first | exact h_move (v := .s _) rfl | exact h_move (v := .agg _) rfl | exact h_move (v := .tup _) rfl) ?_
  refine s_p (h_eqn rfl rfl Try.underlying115) ?_
  refine s_p (by first | exact h_move (v := .s _) rfl | exact h_move (v := .agg _) rfl | exact h_move (v := .tup _) rfl) ?_
  first | refine s_on rfl rfl (by first | rfl | assumption) (by first | exact h_move (v := .s _) rfl | exact h_move (v := .agg _) rfl | exact h_move (v := .tup _) rfl) ?_ | refine s_off rfl rfl (by first | rfl | assumption) ?_
  first | refine s_on rfl rfl (by first | rfl | assumption) (h_nilCheck rfl) ?_ | refine s_off rfl rfl (by first | rfl | assumption) ?_
  first | refine s_on rfl rfl (by first | rfl | assumption) (h_field rfl Try.underlying142 rfl Try.sizeOf136 (by decide)) ?_ | refine s_off rfl rfl (by first | rfl | assumption) ?_
  first | refine s_on rfl rfl (by first | rfl | assumption) (by first | exact h_load_ints rfl rfl rfl (by omega) rfl Try.isAgg136 | exact h_load_one rfl rfl rfl Try.isAgg136) ?_ | refine s_off rfl rfl (by first | rfl | assumption) ?_
  first | refine s_on rfl rfl (by first | rfl | assumption) (h_eqn rfl rfl Try.underlying136) ?_ | refine s_off rfl rfl (by first | rfl | assumption) ?_
  refine s_p (by first | exact h_pick_t rfl (by first | rfl | assumption) rfl | exact h_pick_f rfl (by first | rfl | assumption) rfl) ?_
  refine s_nil ?_
  refine n_wp ?_
  refine w_cond rfl (fun hc_t16 => ?_) (fun hc_t16 => ?_)
  · exact absurd hc_t16 (by simp)
  refine w_skip ?_
  refine n_wp ?_
  refine w_seq ?_
  refine c_reg (by kernel_rfl) rfl ?_
  refine s_p (by first | exact h_move (v := .s _) rfl | exact h_move (v := .agg _) rfl | exact h_move (v := .tup _) rfl) ?_
  refine s_p (h_nilCheck rfl) ?_
  refine s_p (by first | exact h_load_agg rfl rfl (.whole rfl) Try.isAgg142 Try.sizeOf142 | exact h_load_agg rfl rfl (.seg rfl rfl) Try.isAgg142 Try.sizeOf142 | exact h_load_agg rfl rfl (.ints rfl (by omega)) Try.isAgg142 Try.sizeOf142) ?_
  refine s_a (h_alloc (segs := [.one .nilp, .ints .u8 64 (z 64), .one (.int .i64 0), .one (.int .u64 0)]) Try.zeroValue142 (by kernel_rfl) rfl) rfl ?_
  refine s_st (by first | exact m_store_agg rfl rfl rfl (.whole (Nat.le_of_ble_eq_true rfl) rfl rfl) Try.sizeOf142 rfl | exact m_store_agg rfl rfl rfl (.seg (Nat.le_of_ble_eq_true rfl) rfl rfl rfl) Try.sizeOf142 rfl | exact m_store_agg rfl rfl rfl (.ints (Nat.le_of_ble_eq_true rfl) rfl (by omega)) Try.sizeOf142 rfl) ?_
  refine s_nil ?_
  refine n_wp ?_
  refine w_seq ?_
  refine c_reg (by kernel_rfl) rfl ?_
  refine s_p (by first | exact h_move (v := .s _) rfl | exact h_move (v := .agg _) rfl | exact h_move (v := .tup _) rfl) ?_
  refine s_p (h_nilCheck rfl) ?_
  refine s_p (h_field rfl Try.underlying142 rfl Try.sizeOf140 (by decide)) ?_
  refine s_p (h_field rfl Try.underlying140 rfl Try.sizeOf3 (by decide)) ?_
  refine s_p (by first | exact h_load_ints rfl rfl rfl (by omega) rfl Try.isAgg3 | exact h_load_one rfl rfl rfl Try.isAgg3) ?_
  refine s_p (h_bin rfl rfl (b_sub (r := ((119 - q0.m : Nat) : Int)) (wr_n (by omega) (by omega)))) ?_
  refine s_p (h_bin rfl rfl (b_rem (r := (((119 - q0.m) % 64 : Nat) : Int)) (by omega) rfl)) ?_
  refine s_a (h_make (l := (119 - q0.m) % 64) (c := (119 - q0.m) % 64) rfl rfl (Nat.le_refl _) (by rw [show Try.t5.bytes = 1 from rfl]; omega) (by omega) Try.underlying29 infoB5 rfl rfl rfl) rfl ?_
  refine s_p (by first | exact h_assign (v := .s _) rfl | exact h_assign (v := .agg _) rfl | exact h_assign (v := .tup _) rfl) ?_
  refine s_nil ?_
  refine n_wp ?_
  refine w_seq ?_
  refine c_reg (by kernel_rfl) rfl ?_
  refine s_a (h_bsli1 rfl Try.underlying29 Try.sizeOf5 Try.zeroValue5 rfl rfl) rfl ?_
  refine s_p (by first | exact h_move (v := .s _) rfl | exact h_move (v := .agg _) rfl | exact h_move (v := .tup _) rfl) ?_
  refine s_p (by first | exact h_move (v := .s _) rfl | exact h_move (v := .agg _) rfl | exact h_move (v := .tup _) rfl) ?_
  refine s_p (h_nilCheck rfl) ?_
  refine s_p (h_field rfl Try.underlying142 rfl Try.sizeOf40 (by decide)) ?_
  refine s_p (by first | exact h_load_ints rfl rfl rfl (by omega) rfl Try.isAgg40 | exact h_load_one rfl rfl rfl Try.isAgg40) ?_
  refine s_p (h_bin rfl rfl (b_mul rfl)) ?_
  refine s_a (h_call callable_60 rfl (Put_n _ 8 _ (by omega))) rfl ?_
  refine s_a (h_bsls3 rfl rfl rfl (by simp) (by simp) (by simp) Try.underlying92 Try.sizeOf29 Try.zeroValue29 rfl rfl) rfl ?_
  refine s_m (m_call callable_74 rfl (takes3 _ 3 7 1 q0 tot [128] 1 1 _ _ _ _ _ _ _ hq0 (by omega) rfl rfl rfl 5 0 _ rfl (by omega) (by omega) rfl (fun i y hy => by rw [Nat.zero_add]; exact hy) 4 0 _ List.length_replicate (Nat.le_refl _) (by omega) rfl (fun i y hy => by rw [Nat.zero_add]; exact hy) 6 0 _ (rr_len _ _ _ _ _) (Nat.le_refl _) (by omega) rfl (fun i y hy => by rw [Nat.zero_add]; exact hy) rfl (by decide) (by decide) (by decide) (by decide) (by decide) (by decide) (by decide) (by decide) (by decide))) ?_
  refine s_nil ?_
  refine n_wp ?_
  refine w_seq ?_
  refine c_reg (by kernel_rfl) rfl ?_
  refine s_p (h_asl_h (h := 0) rfl rfl rfl Try.underlying44 Try.sizeOf5 (by omega) (by omega)) ?_
  refine s_p (by first | exact h_assign (v := .s _) rfl | exact h_assign (v := .agg _) rfl | exact h_assign (v := .tup _) rfl) ?_
  refine s_nil ?_
  refine n_wp ?_
  refine w_seq ?_
  refine w_seq ?_
  refine c_reg (by kernel_rfl) rfl ?_
  refine s_p (h_field rfl Try.underlying142 rfl Try.sizeOf136 (by decide)) ?_
  refine s_p (by first | exact h_load_ints rfl rfl rfl (by omega) rfl Try.isAgg136 | exact h_load_one rfl rfl rfl Try.isAgg136) ?_
  refine s_p (by first | exact h_move (v := .s _) rfl | exact h_move (v := .agg _) rfl | exact h_move (v := .tup _) rfl) ?_
  refine s_nil ?_
  refine n_wp ?_
  refine w_block ?_
  refine c_loop (JS (z 32) (sumQ q0 tot).s) 8 ⟨0, by omega, rfl, .inl ⟨rfl, rfl, rfl⟩⟩ (weakR' [0, 2, 8] rfl (by decide) rfl (by repeat (first | exact trivial | refine ⟨⟨_, _, rfl, rfl, rfl, rfl, rfl⟩, ?_⟩)) (by repeat (first | exact trivial | refine ⟨⟨rfl, rfl⟩, ?_⟩))) ?_
  rintro n T H ⟨i, hi, rfl, ⟨rfl, rfl, rfl⟩ | ⟨h0, rfl, rfl⟩⟩
  · skip
    refine w_seq ?_
    refine c_reg (by kernel_rfl) rfl ?_
    refine s_p (h_bin rfl rfl (b_lss rfl)) ?_
    refine s_nil ?_
    refine n_wp ?_
    refine w_seq ?_
    refine w_cond rfl (fun hc_t43 => ?_) (fun hc_t43 => ?_)
    rotate_left
    · exact absurd hc_t43 (by simp at hc_t43)
    refine w_skip ?_
    refine n_wp ?_
    refine w_seq ?_
    refine w_block ?_
    refine w_seq ?_
    refine c_reg (by kernel_rfl) rfl ?_
    refine s_p (h_nilCheck rfl) ?_
    refine s_p (h_ixl 0 rfl rfl rfl Try.underlying138 Try.sizeOf61 (by omega)) ?_
    refine s_p (by first | exact h_load_ints rfl rfl rfl (by omega) rfl Try.isAgg61 | exact h_load_one rfl rfl rfl Try.isAgg61) ?_
    refine s_p (by first | exact h_assign (v := .s _) rfl | exact h_assign (v := .agg _) rfl | exact h_assign (v := .tup _) rfl) ?_
    refine s_nil ?_
    refine n_wp ?_
    refine c_reg (by kernel_rfl) rfl ?_
    refine s_p (by first | exact h_move (v := .s _) rfl | exact h_move (v := .agg _) rfl | exact h_move (v := .tup _) rfl) ?_
    refine s_p (by first | exact h_move (v := .s _) rfl | exact h_move (v := .agg _) rfl | exact h_move (v := .tup _) rfl) ?_
    refine s_p (h_conv rfl Try.underlying61 Try.underlying40 rfl) ?_
    refine s_a (h_call callable_60 rfl (Put_s _ 1 0 0 32 4 4 _ [] _ rfl (by omega) (by omega) rfl (fun i y hy => absurd (atS_ints1 hy).1 (by omega)) (by omega) rfl)) rfl ?_
    refine s_p (by first | exact h_assign (v := .s _) rfl | exact h_assign (v := .agg _) rfl | exact h_assign (v := .tup _) rfl) ?_
    refine s_nil ?_
    refine n_blo ?_
    refine n_wp ?_
    refine c_reg (by kernel_rfl) rfl ?_
    refine s_p (by first | exact h_bin rfl rfl (b_add (Go.IntWalk.i64_in _ (by omega))) | exact h_bin rfl rfl (b_add rfl)) ?_
    refine s_p (by first | exact h_move (v := .s _) rfl | exact h_move (v := .agg _) rfl | exact h_move (v := .tup _) rfl) ?_
    refine s_nil ?_
    exact n_round 7 (by omega) ⟨1, by omega, rfl, .inr ⟨by omega, rfl, rfl⟩⟩ (weakR' [0, 1, 2, 3] rfl (by decide) rfl (by repeat (first | exact trivial | refine ⟨⟨_, _, rfl, rfl, rfl, rfl, rfl⟩, ?_⟩)) (by repeat (first | exact trivial | refine ⟨⟨rfl, rfl⟩, ?_⟩)))
  · skip
    refine w_seq ?_
    refine c_reg (by kernel_rfl) rfl ?_
    refine s_p (h_bin rfl rfl (b_lss rfl)) ?_
    refine s_nil ?_
    refine n_wp ?_
    refine w_seq ?_
    refine w_cond rfl (fun hc_t43 => ?_) (fun hc_t43 => ?_)
    · skip
      have hlt : i < 8 := by have := of_decide_eq_true hc_t43; omega
      refine w_skip ?_
      refine n_wp ?_
      refine w_seq ?_
      refine w_block ?_
      refine w_seq ?_
      refine c_reg (by kernel_rfl) rfl ?_
      refine s_p (h_nilCheck rfl) ?_
      refine s_p (h_ixl i rfl rfl rfl Try.underlying138 Try.sizeOf61 (by omega)) ?_
      refine s_p (by first | exact h_load_ints rfl rfl rfl (by omega) rfl Try.isAgg61 | exact h_load_one rfl rfl rfl Try.isAgg61) ?_
      refine s_p (by first | exact h_assign (v := .s _) rfl | exact h_assign (v := .agg _) rfl | exact h_assign (v := .tup _) rfl) ?_
      refine s_nil ?_
      refine n_wp ?_
      refine c_reg (by kernel_rfl) rfl ?_
      refine s_p (by first | exact h_move (v := .s _) rfl | exact h_move (v := .agg _) rfl | exact h_move (v := .tup _) rfl) ?_
      refine s_p (by first | exact h_move (v := .s _) rfl | exact h_move (v := .agg _) rfl | exact h_move (v := .tup _) rfl) ?_
      refine s_p (h_conv rfl Try.underlying61 Try.underlying40 rfl) ?_
      refine s_a (h_call callable_60 rfl (Put_s _ 3 0 (4 * i) (4 * i) 4 (4 * i + 4) _ _ _ (ob_len _ _) (Nat.le_refl _) (by omega) rfl (fun i y hy => by rw [Nat.zero_add]; exact hy) (by omega) rfl)) rfl ?_
      refine s_p (by first | exact h_assign (v := .s _) rfl | exact h_assign (v := .agg _) rfl | exact h_assign (v := .tup _) rfl) ?_
      refine s_nil ?_
      refine n_blo ?_
      refine n_wp ?_
      refine c_reg (by kernel_rfl) rfl ?_
      refine s_p (by first | exact h_bin rfl rfl (b_add (Go.IntWalk.i64_in _ (by omega))) | exact h_bin rfl rfl (b_add rfl)) ?_
      refine s_p (by first | exact h_move (v := .s _) rfl | exact h_move (v := .agg _) rfl | exact h_move (v := .tup _) rfl) ?_
      refine s_nil ?_
      exact n_round (8 - (i + 1)) (by omega) ⟨i + 1, by omega, rfl, .inr ⟨by omega, rfl, rfl⟩⟩ (weakR' [0, 1, 2, 4] rfl (by decide) rfl (by repeat (first | exact trivial | refine ⟨⟨_, _, rfl, rfl, rfl, rfl, rfl⟩, ?_⟩)) (by repeat (first | exact trivial | refine ⟨⟨rfl, rfl⟩, ?_⟩)))
    · skip
      have hi8 : i = 8 := by have := of_decide_eq_false hc_t43; omega
      subst hi8
      refine w_exit ?_
      refine x_thn ?_
      refine x_thn ?_
      refine x_eq ?_
      refine n_wp ?_
      refine w_seq ?_
      refine c_reg (by kernel_rfl) rfl ?_
      refine s_p (h_asl_0 rfl Try.underlying44 Try.sizeOf5 (by omega)) ?_
      refine s_p (by first | exact h_move (v := .s _) rfl | exact h_move (v := .agg _) rfl | exact h_move (v := .tup _) rfl) ?_
      refine s_m (m_copy (n := 32) rfl rfl rfl rfl rfl (ob_len _ _) (by omega) (by omega) Try.underlying29 Try.sizeOf5 (.ints (by omega) rfl (by omega))) ?_
      refine s_nil ?_
      refine n_wp ?_
      refine w_seq ?_
      refine c_reg (by kernel_rfl) rfl ?_
      refine s_p (by first | exact h_load_agg rfl rfl (.whole rfl) Try.isAgg44 Try.sizeOf44 | exact h_load_agg rfl rfl (.seg rfl rfl) Try.isAgg44 Try.sizeOf44 | exact h_load_agg rfl rfl (.ints rfl (by omega)) Try.isAgg44 Try.sizeOf44) ?_
      refine s_st (by first | exact m_store_agg rfl rfl rfl (.whole (Nat.le_of_ble_eq_true rfl) rfl rfl) Try.sizeOf44 rfl | exact m_store_agg rfl rfl rfl (.seg (Nat.le_of_ble_eq_true rfl) rfl rfl rfl) Try.sizeOf44 rfl | exact m_store_agg rfl rfl rfl (.ints (Nat.le_of_ble_eq_true rfl) rfl (by omega)) Try.sizeOf44 rfl) ?_
      refine s_nil ?_
      refine n_wp ?_
      refine w_ret ?_
      exact doneM (by repeat (first | exact trivial | refine ⟨rfl, ?_⟩)) (ret_cell_agg Try.results58 rfl rfl (.whole rfl) Try.isAgg44 Try.sizeOf44)
end Go.Proofs.X
end
