/- A part of the proofs of this claim: YShaB (YShaW5, YShaW6, YShaW7). No conditions. -/
import Derived.Test.YthlkbpkjmkdilaaGreatYShaA
import Derived.Test.YthlkbpkjmkdilaaGreatYRow
import Derived.Test.YthlkbpkjmkdilaaGreatAbB
import Derived.Test.YthlkbpkjmkdilaaGreatSpecA
set_option linter.unusedVariables false
set_option linter.unusedSimpArgs false
section
open Go Go.Ab Go.Proofs
namespace Go.Proofs.X
def J3 (q0 : Run) (B0 : List Int) (len0 cap0 : Nat) (B1 : List Int) (len1 cap1 : Nat) (B2 : List Int) (len2 cap2 : Nat) (tot : Nat) (n : Nat) (T : Tm) (H : Heap) : Prop := ∃ (i : Nat) (q : Run) (t : Nat), i ≤ 3 ∧ n = 3 - i ∧ (i = 0 → q = q0 ∧ t = tot) ∧ (i = 1 → q = tk q0 B0 ∧ t = tot + len0) ∧ (i = 2 → q = tk (tk q0 B0) B1 ∧ t = tot + len0 + len1) ∧ (i = 3 → q = tk (tk (tk q0 B0) B1) B2 ∧ t = tot + len0 + len1 + len2) ∧ RunOk q ∧
  T = [(0, .s (.ptr 0 0 0)), (8, .s (.slice 1 0 0 3 3)), (9, .s (.int .i64 3)), (10, .s (.int .i64 i))] ∧ H = [some ⟨true, [.one (.ptr 5 0 0), .ints .u8 64 (q).b, .one (.int .i64 ((q).m : Nat)), .one (.int .u64 ((t : Nat) : Int))]⟩, some ⟨false, [.one (.slice 2 0 0 len0 cap0), .one (.slice 3 0 0 len1 cap1), .one (.slice 4 0 0 len2 cap2)]⟩, some ⟨false, [.ints .u8 len0 B0]⟩, some ⟨false, [.ints .u8 len1 B1]⟩, some ⟨false, [.ints .u8 len2 B2]⟩, some ⟨true, [.ints .u32 8 (q).s]⟩]
def J3b (i pd : Nat) (B : List Int) (len cap : Nat) (B0 : List Int) (len0 cap0 : Nat) (B1 : List Int) (len1 cap1 : Nat) (B2 : List Int) (len2 cap2 : Nat) (q0 : Run) (tot : Nat) (n : Nat) (T : Tm) (H : Heap) : Prop := ∃ (j X : Nat) (q : Run), j ≤ len ∧ n = len - j ∧ (j < len → X = j) ∧ tk q (B.drop j) = tk q0 B ∧ RunOk q ∧
  T = [(0, .s (.ptr 0 0 0)), (5, .s (.slice pd 0 X (len - j) (cap - j))), (8, .s (.slice 1 0 0 3 3)), (9, .s (.int .i64 3)), (10, .s (.int .i64 ((i : Nat) : Int)))] ∧ H = [some ⟨true, [.one (.ptr 5 0 0), .ints .u8 64 (q).b, .one (.int .i64 ((q).m : Nat)), .one (.int .u64 ((tot + len : Nat) : Int))]⟩, some ⟨false, [.one (.slice 2 0 0 len0 cap0), .one (.slice 3 0 0 len1 cap1), .one (.slice 4 0 0 len2 cap2)]⟩, some ⟨false, [.ints .u8 len0 B0]⟩, some ⟨false, [.ints .u8 len1 B1]⟩, some ⟨false, [.ints .u8 len2 B2]⟩, some ⟨true, [.ints .u32 8 (q).s]⟩]
set_option maxRecDepth 100000 in
set_option maxHeartbeats 2000000 in
theorem takes3 (H : Heap) (ir ip is : Nat) (q0 : Run) (tot : Nat) (B0 : List Int) (len0 cap0 : Nat) (B1 : List Int) (len1 cap1 : Nat) (B2 : List Int) (len2 cap2 : Nat) (bp : Blk) (hq0 : RunOk q0) (htot : tot ≤ 140737488351232)
    (hr : H[ir]? = some (some ⟨true, [.one (.ptr is (0 + 0) 0), .ints .u8 64 q0.b, .one (.int .i64 (q0.m : Nat)), .one (.int .u64 ((tot : Nat) : Int))]⟩)) (hp : H[ip]? = some (some bp)) (hs : H[is]? = some (some ⟨true, [.ints .u32 8 q0.s]⟩)) (id0 sh0 : Nat) (bd0 : Blk) (hBl0 : B0.length = len0) (hcap0 : len0 ≤ cap0) (hlen0 : len0 ≤ 140737488351232) (hd0 : H[id0]? = some (some bd0)) (hds0 : ∀ (i : Nat) (y : SV), atS [.ints .u8 len0 B0] i = some y → atS bd0.segs (sh0 + i) = some y) (id1 sh1 : Nat) (bd1 : Blk) (hBl1 : B1.length = len1) (hcap1 : len1 ≤ cap1) (hlen1 : len1 ≤ 140737488351232) (hd1 : H[id1]? = some (some bd1)) (hds1 : ∀ (i : Nat) (y : SV), atS [.ints .u8 len1 B1] i = some y → atS bd1.segs (sh1 + i) = some y) (id2 sh2 : Nat) (bd2 : Blk) (hBl2 : B2.length = len2) (hcap2 : len2 ≤ cap2) (hlen2 : len2 ≤ 140737488351232) (hd2 : H[id2]? = some (some bd2)) (hds2 : ∀ (i : Nat) (y : SV), atS [.ints .u8 len2 B2] i = some y → atS bd2.segs (sh2 + i) = some y) (hps : bp.segs = [.one (.slice id0 (0 + sh0) 0 len0 cap0), .one (.slice id1 (0 + sh1) 0 len1 cap1), .one (.slice id2 (0 + sh2) 0 len2 cap2)])
    (n1 : ir ≠ ip) (n3 : ir ≠ is) (n4 : is ≠ ip) (n0r : ir ≠ id0) (n0s : is ≠ id0) (n1r : ir ≠ id1) (n1s : is ≠ id1) (n2r : ir ≠ id2) (n2s : is ≠ id2) : AMut Tryz.prog 221 H [.s (.ptr ir (0 + 0) 0), .s (.slice ip (0 + 0) 0 3 3)] (.tup []) (((forget [is] H).set ir (some ⟨true, [.one (.ptr (H.length + 0) (0 + 0) 0), .ints .u8 64 (tk (tk (tk q0 B0) B1) B2).b, .one (.int .i64 ((tk (tk (tk q0 B0) B1) B2).m : Nat)), .one (.int .u64 ((tot + len0 + len1 + len2 : Nat) : Int))]⟩)) ++ [some ⟨true, [.ints .u32 8 (tk (tk (tk q0 B0) B1) B2).s]⟩]) := by
  refine amut_gen3 (args0 := [.s (.ptr 0 0 0), .s (.slice 1 0 0 3 3)]) (H0 := [some ⟨true, [.one (.ptr 5 0 0), .ints .u8 64 (q0).b, .one (.int .i64 ((q0).m : Nat)), .one (.int .u64 ((tot : Nat) : Int))]⟩, some ⟨false, [.one (.slice 2 0 0 len0 cap0), .one (.slice 3 0 0 len1 cap1), .one (.slice 4 0 0 len2 cap2)]⟩, some ⟨false, [.ints .u8 len0 B0]⟩, some ⟨false, [.ints .u8 len1 B1]⟩, some ⟨false, [.ints .u8 len2 B2]⟩, some ⟨true, [.ints .u32 8 (q0).s]⟩]) (Hf := [some ⟨true, [.one (.ptr 5 0 0), .ints .u8 64 (tk (tk (tk q0 B0) B1) B2).b, .one (.int .i64 ((tk (tk (tk q0 B0) B1) B2).m : Nat)), .one (.int .u64 ((tot + len0 + len1 + len2 : Nat) : Int))]⟩, none, none, none, none, some ⟨true, [.ints .u32 8 (tk (tk (tk q0 B0) B1) B2).s]⟩]) (v0 := .tup []) [(ir, 0), (ip, 0), (id0, sh0), (id1, sh1), (id2, sh2), (is, 0)] [5] 5 (Nat.le_of_ble_eq_true rfl) Tryz.func221 rfl Tryz.ntmps221 (by simp) rfl
    (fun k id' sh' b0 h1 h2 => by
      match k, h1, h2 with
      | 0, h1, h2 => simp at h1 h2; obtain ⟨rfl, rfl⟩ := h1; subst h2; exact ⟨rfl, _, hr, fun _ => ⟨rfl, rfl⟩, foot_same rfl⟩
      | 1, h1, h2 => simp at h1 h2; obtain ⟨rfl, rfl⟩ := h1; subst h2; exact ⟨rfl, _, hp, fun e => (by cases e), foot_same hps⟩
      | 2, h1, h2 => simp at h1 h2; obtain ⟨rfl, rfl⟩ := h1; subst h2; exact ⟨rfl, _, hd0, fun e => (by cases e), fun i y hy => by (have h := hds0 i y hy; obtain ⟨_, rfl⟩ := atS_ints1 hy; exact h)⟩
      | 3, h1, h2 => simp at h1 h2; obtain ⟨rfl, rfl⟩ := h1; subst h2; exact ⟨rfl, _, hd1, fun e => (by cases e), fun i y hy => by (have h := hds1 i y hy; obtain ⟨_, rfl⟩ := atS_ints1 hy; exact h)⟩
      | 4, h1, h2 => simp at h1 h2; obtain ⟨rfl, rfl⟩ := h1; subst h2; exact ⟨rfl, _, hd2, fun e => (by cases e), fun i y hy => by (have h := hds2 i y hy; obtain ⟨_, rfl⟩ := atS_ints1 hy; exact h)⟩
      | 5, h1, h2 => simp at h1 h2; obtain ⟨rfl, rfl⟩ := h1; subst h2; exact ⟨rfl, _, hs, fun _ => ⟨rfl, rfl⟩, foot_same rfl⟩
      | k + 6, h1, _ => simp at h1)
    (fun k k' id' s1 s2 b0 h1 h1' hne h2 => by
      match k, k', h1, h1', h2, hne with
      | 0, 0, _, _, _, hne => exact absurd rfl hne
      | 0, 1, h1, h1', _, _ => simp at h1 h1'; exact absurd (h1.1.trans h1'.1.symm) n1
      | 0, 2, h1, h1', _, _ => simp at h1 h1'; exact absurd (h1.1.trans h1'.1.symm) n0r
      | 0, 3, h1, h1', _, _ => simp at h1 h1'; exact absurd (h1.1.trans h1'.1.symm) n1r
      | 0, 4, h1, h1', _, _ => simp at h1 h1'; exact absurd (h1.1.trans h1'.1.symm) n2r
      | 0, 5, h1, h1', _, _ => simp at h1 h1'; exact absurd (h1.1.trans h1'.1.symm) n3
      | 5, 0, h1, h1', _, _ => simp at h1 h1'; exact absurd (h1'.1.trans h1.1.symm) n3
      | 5, 1, h1, h1', _, _ => simp at h1 h1'; exact absurd (h1.1.trans h1'.1.symm) n4
      | 5, 2, h1, h1', _, _ => simp at h1 h1'; exact absurd (h1.1.trans h1'.1.symm) n0s
      | 5, 3, h1, h1', _, _ => simp at h1 h1'; exact absurd (h1.1.trans h1'.1.symm) n1s
      | 5, 4, h1, h1', _, _ => simp at h1 h1'; exact absurd (h1.1.trans h1'.1.symm) n2s
      | 5, 5, _, _, _, hne => exact absurd rfl hne
      | 1, _, _, _, h2, _ => simp at h2; subst h2; rfl
      | 2, _, _, _, h2, _ => simp at h2; subst h2; rfl
      | 3, _, _, _, h2, _ => simp at h2; subst h2; rfl
      | 4, _, _, _, h2, _ => simp at h2; subst h2; rfl
      | 0, k + 6, _, h1', _, _ => simp at h1'
      | 5, k + 6, _, h1', _, _ => simp at h1'
      | k + 6, _, h1, _, _, _ => simp at h1)
    (fun W ρ vals w hH ha k id' sh' hk => by
      match k, hk with
      | 0, hk => simp at hk; obtain ⟨rfl, rfl⟩ := hk; exact live_ptr (i := 0) ha rfl
      | 1, hk => simp at hk; obtain ⟨rfl, rfl⟩ := hk; exact live_slice (i := 1) ha rfl
      | 2, hk => simp at hk; obtain ⟨rfl, rfl⟩ := hk; exact live_in_slice (p := 0) hH (live_slice (i := 1) ha rfl) hp (by rw [hps]; rfl)
      | 3, hk => simp at hk; obtain ⟨rfl, rfl⟩ := hk; exact live_in_slice (p := 1) hH (live_slice (i := 1) ha rfl) hp (by rw [hps]; rfl)
      | 4, hk => simp at hk; obtain ⟨rfl, rfl⟩ := hk; exact live_in_slice (p := 2) hH (live_slice (i := 1) ha rfl) hp (by rw [hps]; rfl)
      | 5, hk => simp at hk; obtain ⟨rfl, rfl⟩ := hk; exact live_in (p := 0) hH (live_ptr (i := 0) ha rfl) hr rfl
      | k + 6, hk => simp at hk)
    rfl rfl rfl (by decide) rfl rfl rfl (fun W w' ρ0 hW hdom => ?_)
  refine w_seq ?_
  refine c_reg (by kernel_rfl) rfl ?_
  refine s_p (by first | exact h_move (v := .s _) rfl | exact h_move (v := .agg _) rfl | exact h_move (v := .tup _) rfl) ?_
  refine s_p (by first | exact h_len rfl Tryz.underlying289 | exact h_len_nil rfl Tryz.underlying289 | exact h_len_val rfl Tryz.underlying289) ?_
  refine s_p (by first | exact h_move (v := .s _) rfl | exact h_move (v := .agg _) rfl | exact h_move (v := .tup _) rfl) ?_
  refine s_nil ?_
  refine n_wp ?_
  refine w_block ?_
  refine c_loop (J3 q0 B0 len0 cap0 B1 len1 cap1 B2 len2 cap2 tot) 3 ⟨0, q0, tot, by omega, rfl, fun _ => ⟨rfl, rfl⟩, fun e => absurd e (by omega), fun e => absurd e (by omega), fun e => absurd e (by omega), hq0, rfl, rfl⟩ (weak' (by repeat (first | exact trivial | refine ⟨rfl, ?_⟩)) rfl rfl (Nat.le_of_ble_eq_true rfl)) ?_
  rintro n T H ⟨i, qa, ta, hi, rfl, h0, h1, h2, h3, hqa, rfl, rfl⟩
  refine w_seq ?_
  refine c_reg (by kernel_rfl) rfl ?_
  refine s_p (h_bin rfl rfl (b_lss rfl)) ?_
  refine s_nil ?_
  refine n_wp ?_
  refine w_seq ?_
  refine w_cond rfl (fun hc_t11 => ?_) (fun hc_t11 => ?_)
  · skip
    have hi0 : i = 0 ∨ i = 1 ∨ i = 2 := by have := of_decide_eq_true hc_t11; omega
    rcases hi0 with rfl | rfl | rfl
    · skip
      obtain ⟨heq, het⟩ := h0 rfl
      refine w_skip ?_
      refine n_wp ?_
      refine w_seq ?_
      refine w_block ?_
      refine w_seq ?_
      refine c_reg (by kernel_rfl) rfl ?_
      refine s_p (h_ixs0l 0 rfl rfl (by rfl) Tryz.underlying289 Tryz.sizeOf49 (by omega)) ?_
      refine s_p (h_load rfl rfl rfl Tryz.isAgg49) ?_
      refine s_p (by first | exact h_assign (v := .s _) rfl | exact h_assign (v := .agg _) rfl | exact h_assign (v := .tup _) rfl) ?_
      refine s_nil ?_
      refine n_wp ?_
      refine w_seq ?_
      refine c_reg (by kernel_rfl) rfl ?_
      refine s_p (by first | exact h_move (v := .s _) rfl | exact h_move (v := .agg _) rfl | exact h_move (v := .tup _) rfl) ?_
      refine s_p (h_nilCheck rfl) ?_
      refine s_p (h_field rfl Tryz.underlying394 rfl Tryz.sizeOf32 (by decide)) ?_
      refine s_p (by first | exact h_load_ints rfl rfl rfl (by omega) rfl Tryz.isAgg32 | exact h_load_one rfl rfl rfl Tryz.isAgg32) ?_
      refine s_p (by first | exact h_move (v := .s _) rfl | exact h_move (v := .agg _) rfl | exact h_move (v := .tup _) rfl) ?_
      refine s_p (by first | exact h_len rfl Tryz.underlying49 | exact h_len_nil rfl Tryz.underlying49 | exact h_len_val rfl Tryz.underlying49) ?_
      refine s_p (h_conv rfl Tryz.underlying3 Tryz.underlying32 (wu_n (c := len0) rfl (by omega))) ?_
      refine s_p (h_bin rfl rfl (b_add (r := ((ta + len0 : Nat) : Int)) (wu_n (by omega) (by omega)))) ?_
      refine s_p (h_nilCheck rfl) ?_
      refine s_p (h_field rfl Tryz.underlying394 rfl Tryz.sizeOf32 (by decide)) ?_
      refine s_st (by first | exact m_store_int rfl rfl rfl rfl (by omega) (by (first | assumption | exact hq.b | exact spl_len _ _ _ _ _)) Tryz.sizeOf32 rfl | exact m_store_one rfl rfl (by simp) rfl rfl Tryz.sizeOf32 rfl) ?_
      refine s_nil ?_
      refine n_wp ?_
      refine w_block ?_
      refine c_loop (J3b 0 2 B0 len0 cap0 B0 len0 cap0 B1 len1 cap1 B2 len2 cap2 qa ta) len0 ⟨0, 0, qa, by omega, rfl, fun _ => rfl, by rw [List.drop_zero], hqa, rfl, rfl⟩ (weak' (by repeat (first | exact trivial | refine ⟨rfl, ?_⟩)) rfl rfl (Nat.le_of_ble_eq_true rfl)) ?_
      rintro n T H ⟨j, X, q, hj, rfl, hXj, htk, hq, rfl, rfl⟩
      refine w_seq ?_
      refine w_seq ?_
      refine c_reg (by kernel_rfl) rfl ?_
      refine s_p (by first | exact h_move (v := .s _) rfl | exact h_move (v := .agg _) rfl | exact h_move (v := .tup _) rfl) ?_
      refine s_p (by first | exact h_len rfl Tryz.underlying49 | exact h_len_nil rfl Tryz.underlying49 | exact h_len_val rfl Tryz.underlying49) ?_
      refine s_p (h_bin rfl rfl (b_gtr rfl)) ?_
      refine s_nil ?_
      refine n_wp ?_
      refine w_cond rfl (fun hc_t26 => ?_) (fun hc_t26 => ?_)
      · skip
        have hlt : j < len0 := by have := of_decide_eq_true hc_t26; omega
        have hX := hXj hlt
        subst hX
        obtain ⟨nn, hnn⟩ : ∃ nn, nn = min (len0 - X) (64 - q.m) := ⟨_, rfl⟩
        have hqm := hq.m
        have hn0 : 0 < nn := by omega
        have hon := tk_on q hq B0 X nn len0 hBl0 (by omega) (by omega) hn0
        have hck := chunk_ok hq ((B0.drop X).take nn) nn (by omega)
        refine w_skip ?_
        refine n_wp ?_
        refine w_block ?_
        refine w_seq ?_
        refine c_any 11 mix (by kernel_rfl) (by kernel_rfl) rfl rfl rfl ?_
        refine t_p (by first | exact h_move (v := .s _) rfl | exact h_move (v := .agg _) rfl | exact h_move (v := .tup _) rfl) ?_
        refine t_p (h_nilCheck rfl) ?_
        refine t_p (h_field rfl Tryz.underlying394 rfl Tryz.sizeOf392 (by decide)) ?_
        refine t_p (h_field rfl Tryz.underlying392 rfl Tryz.sizeOf290 (by decide)) ?_
        refine t_p (by first | exact h_move (v := .s _) rfl | exact h_move (v := .agg _) rfl | exact h_move (v := .tup _) rfl) ?_
        refine t_p (h_nilCheck rfl) ?_
        refine t_p (h_field rfl Tryz.underlying394 rfl Tryz.sizeOf392 (by decide)) ?_
        refine t_p (h_field rfl Tryz.underlying392 rfl Tryz.sizeOf3 (by decide)) ?_
        refine t_p (by first | exact h_load_ints rfl rfl rfl (by omega) rfl Tryz.isAgg3 | exact h_load_one rfl rfl rfl Tryz.isAgg3) ?_
        refine t_p (h_asl_l (l := q.m) rfl rfl rfl Tryz.underlying290 Tryz.sizeOf5 hq.m) ?_
        refine t_p (by first | exact h_move (v := .s _) rfl | exact h_move (v := .agg _) rfl | exact h_move (v := .tup _) rfl) ?_
        refine t_nil ?_
        refine s_m (m_copy (n := nn) rfl rfl rfl rfl rfl hBl0 (by omega) (by omega) Tryz.underlying49 Tryz.sizeOf5 (.ints hn0 rfl (by omega))) ?_
        refine s_p (by first | exact h_assign (v := .s _) rfl | exact h_assign (v := .agg _) rfl | exact h_assign (v := .tup _) rfl) ?_
        refine s_nil ?_
        refine n_wp ?_
        refine w_seq ?_
        refine c_reg (by kernel_rfl) rfl ?_
        refine s_p (by first | exact h_move (v := .s _) rfl | exact h_move (v := .agg _) rfl | exact h_move (v := .tup _) rfl) ?_
        refine s_p (by first | exact h_move (v := .s _) rfl | exact h_move (v := .agg _) rfl | exact h_move (v := .tup _) rfl) ?_
        refine s_p (h_slice_l (l := nn) rfl rfl rfl Tryz.underlying49 Tryz.sizeOf5 (by omega)) ?_
        refine s_p (by first | exact h_assign (v := .s _) rfl | exact h_assign (v := .agg _) rfl | exact h_assign (v := .tup _) rfl) ?_
        refine s_nil ?_
        refine n_wp ?_
        refine w_seq ?_
        refine c_reg (by kernel_rfl) rfl ?_
        refine s_p (by first | exact h_move (v := .s _) rfl | exact h_move (v := .agg _) rfl | exact h_move (v := .tup _) rfl) ?_
        refine s_p (h_nilCheck rfl) ?_
        refine s_p (h_field rfl Tryz.underlying394 rfl Tryz.sizeOf392 (by decide)) ?_
        refine s_p (h_field rfl Tryz.underlying392 rfl Tryz.sizeOf3 (by decide)) ?_
        refine s_p (by first | exact h_load_ints rfl rfl rfl (by omega) rfl Tryz.isAgg3 | exact h_load_one rfl rfl rfl Tryz.isAgg3) ?_
        refine s_p (by first | exact h_move (v := .s _) rfl | exact h_move (v := .agg _) rfl | exact h_move (v := .tup _) rfl) ?_
        refine s_p (h_bin rfl rfl (b_add (r := ((q.m + nn : Nat) : Int)) (wr_n (by omega) (by omega)))) ?_
        refine s_p (h_nilCheck rfl) ?_
        refine s_p (h_field rfl Tryz.underlying394 rfl Tryz.sizeOf392 (by decide)) ?_
        refine s_p (h_field rfl Tryz.underlying392 rfl Tryz.sizeOf3 (by decide)) ?_
        refine s_st (by first | exact m_store_int rfl rfl rfl rfl (by omega) (by (first | assumption | exact hq.b | exact spl_len _ _ _ _ _)) Tryz.sizeOf3 rfl | exact m_store_one rfl rfl (by simp) rfl rfl Tryz.sizeOf3 rfl) ?_
        refine s_nil ?_
        refine n_wp ?_
        refine w_seq ?_
        refine c_reg (by kernel_rfl) rfl ?_
        refine s_p (by first | exact h_move (v := .s _) rfl | exact h_move (v := .agg _) rfl | exact h_move (v := .tup _) rfl) ?_
        refine s_p (h_nilCheck rfl) ?_
        refine s_p (h_field rfl Tryz.underlying394 rfl Tryz.sizeOf392 (by decide)) ?_
        refine s_p (h_field rfl Tryz.underlying392 rfl Tryz.sizeOf3 (by decide)) ?_
        refine s_p (by first | exact h_load_ints rfl rfl rfl (by omega) rfl Tryz.isAgg3 | exact h_load_one rfl rfl rfl Tryz.isAgg3) ?_
        refine s_p (h_bin rfl rfl (b_eql rfl)) ?_
        refine s_nil ?_
        refine n_wp ?_
        refine w_cond rfl (fun hc_t57 => ?_) (fun hc_t57 => ?_)
        · skip
          have h64 : q.m + nn = 64 := by have := of_decide_eq_true hc_t57; omega
          have hcq : chunk q ((B0.drop X).take nn) nn = ⟨aft q.s (spl q.b ((B0.drop X).take nn) (0 + q.m) nn 64), spl q.b ((B0.drop X).take nn) (0 + q.m) nn 64, 0⟩ := if_pos h64
          rw [hcq] at hon hck
          refine w_seq ?_
          refine c_any 11 mix (by kernel_rfl) (by kernel_rfl) rfl rfl rfl ?_
          refine t_p (by first | exact h_move (v := .s _) rfl | exact h_move (v := .agg _) rfl | exact h_move (v := .tup _) rfl) ?_
          refine t_p (h_nilCheck rfl) ?_
          refine t_p (h_field rfl Tryz.underlying394 rfl Tryz.sizeOf388 (by decide)) ?_
          refine t_p (by first | exact h_load_ints rfl rfl rfl (by omega) rfl Tryz.isAgg388 | exact h_load_one rfl rfl rfl Tryz.isAgg388) ?_
          refine t_p (h_nilCheck rfl) ?_
          refine t_p (by first | exact h_load_agg rfl rfl (.whole rfl) Tryz.isAgg390 Tryz.sizeOf390 | exact h_load_agg rfl rfl (.seg rfl rfl) Tryz.isAgg390 Tryz.sizeOf390 | exact h_load_agg rfl rfl (.ints rfl (by omega)) Tryz.isAgg390 Tryz.sizeOf390) ?_
          refine t_p (by first | exact h_move (v := .s _) rfl | exact h_move (v := .agg _) rfl | exact h_move (v := .tup _) rfl) ?_
          refine t_p (h_nilCheck rfl) ?_
          refine t_p (h_field rfl Tryz.underlying394 rfl Tryz.sizeOf392 (by decide)) ?_
          refine t_p (h_call callable_273 rfl (after_c q.s (spl q.b ((B0.drop X).take nn) (0 + q.m) nn 64) hq.s (spl_len _ _ _ _ _) _ 0 1 _ rfl rfl)) ?_
          refine t_a (h_alloc (segs := [.ints .u32 8 (z 8)]) Tryz.zeroValue390 (by kernel_rfl) rfl) rfl ?_
          refine t_nil ?_
          refine s_st (by first | exact m_store_agg rfl rfl rfl (.whole (Nat.le_of_ble_eq_true rfl) rfl rfl) Tryz.sizeOf390 rfl | exact m_store_agg rfl rfl rfl (.seg (Nat.le_of_ble_eq_true rfl) rfl rfl rfl) Tryz.sizeOf390 rfl | exact m_store_agg rfl rfl rfl (.ints (Nat.le_of_ble_eq_true rfl) rfl (by omega)) Tryz.sizeOf390 rfl) ?_
          refine s_nil ?_
          refine n_wp ?_
          refine c_reg (by kernel_rfl) rfl ?_
          refine s_p (by first | exact h_move (v := .s _) rfl | exact h_move (v := .agg _) rfl | exact h_move (v := .tup _) rfl) ?_
          refine s_p (by first | exact h_move (v := .s _) rfl | exact h_move (v := .agg _) rfl | exact h_move (v := .tup _) rfl) ?_
          refine s_p (h_nilCheck rfl) ?_
          refine s_p (h_field rfl Tryz.underlying394 rfl Tryz.sizeOf388 (by decide)) ?_
          refine s_st (by first | exact m_store_int rfl rfl rfl rfl (by omega) (by (first | assumption | exact hq.b | exact spl_len _ _ _ _ _)) Tryz.sizeOf388 rfl | exact m_store_one rfl rfl (by simp) rfl rfl Tryz.sizeOf388 rfl) ?_
          refine s_p (h_nilCheck rfl) ?_
          refine s_p (h_field rfl Tryz.underlying394 rfl Tryz.sizeOf392 (by decide)) ?_
          refine s_p (h_field rfl Tryz.underlying392 rfl Tryz.sizeOf3 (by decide)) ?_
          refine s_st (by first | exact m_store_int rfl rfl rfl rfl (by omega) (by (first | assumption | exact hq.b | exact spl_len _ _ _ _ _)) Tryz.sizeOf3 rfl | exact m_store_one rfl rfl (by simp) rfl rfl Tryz.sizeOf3 rfl) ?_
          refine s_nil ?_
          refine n_blo ?_
          exact n_round (len0 - (X + nn)) (by omega) ⟨X + nn, if cap0 - X = nn then X else X + nn, _, by omega, by omega, fun hx => by rw [if_neg (by omega)], by rw [← hon]; exact htk, hck, by rw [show len0 - (X + nn) = len0 - X - nn by omega, show cap0 - (X + nn) = cap0 - X - nn by omega], rfl⟩ (weakR' [0, 1, 2, 3, 4, 6] rfl (by decide) rfl (by repeat (first | exact trivial | refine ⟨⟨_, _, rfl, rfl, rfl, rfl, rfl⟩, ?_⟩)) (by repeat (first | exact trivial | refine ⟨⟨rfl, rfl⟩, ?_⟩)))
        · skip
          have h64 : ¬ q.m + nn = 64 := by have := of_decide_eq_false hc_t57; omega
          have hcq : chunk q ((B0.drop X).take nn) nn = ⟨q.s, spl q.b ((B0.drop X).take nn) (0 + q.m) nn 64, q.m + nn⟩ := if_neg h64
          rw [hcq] at hon hck
          refine w_skip ?_
          refine n_blo ?_
          exact n_round (len0 - (X + nn)) (by omega) ⟨X + nn, if cap0 - X = nn then X else X + nn, _, by omega, by omega, fun hx => by rw [if_neg (by omega)], by rw [← hon]; exact htk, hck, by rw [show len0 - (X + nn) = len0 - X - nn by omega, show cap0 - (X + nn) = cap0 - X - nn by omega], rfl⟩ (weak' (by repeat (first | exact trivial | refine ⟨rfl, ?_⟩)) rfl rfl (Nat.le_of_ble_eq_true rfl))
      · skip
        have hje : j = len0 := by have := of_decide_eq_false hc_t26; omega
        have hfin : q = tk qa B0 := by rw [← htk, hje, List.drop_eq_nil_of_le (by omega), tk_nil]
        subst hfin
        refine w_exit ?_
        refine x_thn ?_
        refine x_thn ?_
        refine x_eq ?_
        refine n_blo ?_
        refine n_wp ?_
        refine c_reg (by kernel_rfl) rfl ?_
        refine s_p (by first | exact h_bin rfl rfl (b_add (Go.IntWalk.i64_in _ (by omega))) | exact h_bin rfl rfl (b_add rfl)) ?_
        refine s_p (by first | exact h_move (v := .s _) rfl | exact h_move (v := .agg _) rfl | exact h_move (v := .tup _) rfl) ?_
        refine s_nil ?_
        exact n_round (3 - 1) (by omega) ⟨1, _, _, by omega, rfl, fun e => absurd e (by omega), fun _ => ⟨by rw [heq], by rw [het]⟩, fun e => absurd e (by omega), fun e => absurd e (by omega), tk_ok hqa _, rfl, rfl⟩ (weak' (by repeat (first | exact trivial | refine ⟨rfl, ?_⟩)) rfl rfl (Nat.le_of_ble_eq_true rfl))
    · skip
      obtain ⟨heq, het⟩ := h1 rfl
      refine w_skip ?_
      refine n_wp ?_
      refine w_seq ?_
      refine w_block ?_
      refine w_seq ?_
      refine c_reg (by kernel_rfl) rfl ?_
      refine s_p (h_ixs0l 1 rfl rfl (by rfl) Tryz.underlying289 Tryz.sizeOf49 (by omega)) ?_
      refine s_p (h_load rfl rfl rfl Tryz.isAgg49) ?_
      refine s_p (by first | exact h_assign (v := .s _) rfl | exact h_assign (v := .agg _) rfl | exact h_assign (v := .tup _) rfl) ?_
      refine s_nil ?_
      refine n_wp ?_
      refine w_seq ?_
      refine c_reg (by kernel_rfl) rfl ?_
      refine s_p (by first | exact h_move (v := .s _) rfl | exact h_move (v := .agg _) rfl | exact h_move (v := .tup _) rfl) ?_
      refine s_p (h_nilCheck rfl) ?_
      refine s_p (h_field rfl Tryz.underlying394 rfl Tryz.sizeOf32 (by decide)) ?_
      refine s_p (by first | exact h_load_ints rfl rfl rfl (by omega) rfl Tryz.isAgg32 | exact h_load_one rfl rfl rfl Tryz.isAgg32) ?_
      refine s_p (by first | exact h_move (v := .s _) rfl | exact h_move (v := .agg _) rfl | exact h_move (v := .tup _) rfl) ?_
      refine s_p (by first | exact h_len rfl Tryz.underlying49 | exact h_len_nil rfl Tryz.underlying49 | exact h_len_val rfl Tryz.underlying49) ?_
      refine s_p (h_conv rfl Tryz.underlying3 Tryz.underlying32 (wu_n (c := len1) rfl (by omega))) ?_
      refine s_p (h_bin rfl rfl (b_add (r := ((ta + len1 : Nat) : Int)) (wu_n (by omega) (by omega)))) ?_
      refine s_p (h_nilCheck rfl) ?_
      refine s_p (h_field rfl Tryz.underlying394 rfl Tryz.sizeOf32 (by decide)) ?_
      refine s_st (by first | exact m_store_int rfl rfl rfl rfl (by omega) (by (first | assumption | exact hq.b | exact spl_len _ _ _ _ _)) Tryz.sizeOf32 rfl | exact m_store_one rfl rfl (by simp) rfl rfl Tryz.sizeOf32 rfl) ?_
      refine s_nil ?_
      refine n_wp ?_
      refine w_block ?_
      refine c_loop (J3b 1 3 B1 len1 cap1 B0 len0 cap0 B1 len1 cap1 B2 len2 cap2 qa ta) len1 ⟨0, 0, qa, by omega, rfl, fun _ => rfl, by rw [List.drop_zero], hqa, rfl, rfl⟩ (weak' (by repeat (first | exact trivial | refine ⟨rfl, ?_⟩)) rfl rfl (Nat.le_of_ble_eq_true rfl)) ?_
      rintro n T H ⟨j, X, q, hj, rfl, hXj, htk, hq, rfl, rfl⟩
      refine w_seq ?_
      refine w_seq ?_
      refine c_reg (by kernel_rfl) rfl ?_
      refine s_p (by first | exact h_move (v := .s _) rfl | exact h_move (v := .agg _) rfl | exact h_move (v := .tup _) rfl) ?_
      refine s_p (by first | exact h_len rfl Tryz.underlying49 | exact h_len_nil rfl Tryz.underlying49 | exact h_len_val rfl Tryz.underlying49) ?_
      refine s_p (h_bin rfl rfl (b_gtr rfl)) ?_
      refine s_nil ?_
      refine n_wp ?_
      refine w_cond rfl (fun hc_t26 => ?_) (fun hc_t26 => ?_)
      · skip
        have hlt : j < len1 := by have := of_decide_eq_true hc_t26; omega
        have hX := hXj hlt
        subst hX
        obtain ⟨nn, hnn⟩ : ∃ nn, nn = min (len1 - X) (64 - q.m) := ⟨_, rfl⟩
        have hqm := hq.m
        have hn0 : 0 < nn := by omega
        have hon := tk_on q hq B1 X nn len1 hBl1 (by omega) (by omega) hn0
        have hck := chunk_ok hq ((B1.drop X).take nn) nn (by omega)
        refine w_skip ?_
        refine n_wp ?_
        refine w_block ?_
        refine w_seq ?_
        refine c_any 11 mix (by kernel_rfl) (by kernel_rfl) rfl rfl rfl ?_
        refine t_p (by first | exact h_move (v := .s _) rfl | exact h_move (v := .agg _) rfl | exact h_move (v := .tup _) rfl) ?_
        refine t_p (h_nilCheck rfl) ?_
        refine t_p (h_field rfl Tryz.underlying394 rfl Tryz.sizeOf392 (by decide)) ?_
        refine t_p (h_field rfl Tryz.underlying392 rfl Tryz.sizeOf290 (by decide)) ?_
        refine t_p (by first | exact h_move (v := .s _) rfl | exact h_move (v := .agg _) rfl | exact h_move (v := .tup _) rfl) ?_
        refine t_p (h_nilCheck rfl) ?_
        refine t_p (h_field rfl Tryz.underlying394 rfl Tryz.sizeOf392 (by decide)) ?_
        refine t_p (h_field rfl Tryz.underlying392 rfl Tryz.sizeOf3 (by decide)) ?_
        refine t_p (by first | exact h_load_ints rfl rfl rfl (by omega) rfl Tryz.isAgg3 | exact h_load_one rfl rfl rfl Tryz.isAgg3) ?_
        refine t_p (h_asl_l (l := q.m) rfl rfl rfl Tryz.underlying290 Tryz.sizeOf5 hq.m) ?_
        refine t_p (by first | exact h_move (v := .s _) rfl | exact h_move (v := .agg _) rfl | exact h_move (v := .tup _) rfl) ?_
        refine t_nil ?_
        refine s_m (m_copy (n := nn) rfl rfl rfl rfl rfl hBl1 (by omega) (by omega) Tryz.underlying49 Tryz.sizeOf5 (.ints hn0 rfl (by omega))) ?_
        refine s_p (by first | exact h_assign (v := .s _) rfl | exact h_assign (v := .agg _) rfl | exact h_assign (v := .tup _) rfl) ?_
        refine s_nil ?_
        refine n_wp ?_
        refine w_seq ?_
        refine c_reg (by kernel_rfl) rfl ?_
        refine s_p (by first | exact h_move (v := .s _) rfl | exact h_move (v := .agg _) rfl | exact h_move (v := .tup _) rfl) ?_
        refine s_p (by first | exact h_move (v := .s _) rfl | exact h_move (v := .agg _) rfl | exact h_move (v := .tup _) rfl) ?_
        refine s_p (h_slice_l (l := nn) rfl rfl rfl Tryz.underlying49 Tryz.sizeOf5 (by omega)) ?_
        refine s_p (by first | exact h_assign (v := .s _) rfl | exact h_assign (v := .agg _) rfl | exact h_assign (v := .tup _) rfl) ?_
        refine s_nil ?_
        refine n_wp ?_
        refine w_seq ?_
        refine c_reg (by kernel_rfl) rfl ?_
        refine s_p (by first | exact h_move (v := .s _) rfl | exact h_move (v := .agg _) rfl | exact h_move (v := .tup _) rfl) ?_
        refine s_p (h_nilCheck rfl) ?_
        refine s_p (h_field rfl Tryz.underlying394 rfl Tryz.sizeOf392 (by decide)) ?_
        refine s_p (h_field rfl Tryz.underlying392 rfl Tryz.sizeOf3 (by decide)) ?_
        refine s_p (by first | exact h_load_ints rfl rfl rfl (by omega) rfl Tryz.isAgg3 | exact h_load_one rfl rfl rfl Tryz.isAgg3) ?_
        refine s_p (by first | exact h_move (v := .s _) rfl | exact h_move (v := .agg _) rfl | exact h_move (v := .tup _) rfl) ?_
        refine s_p (h_bin rfl rfl (b_add (r := ((q.m + nn : Nat) : Int)) (wr_n (by omega) (by omega)))) ?_
        refine s_p (h_nilCheck rfl) ?_
        refine s_p (h_field rfl Tryz.underlying394 rfl Tryz.sizeOf392 (by decide)) ?_
        refine s_p (h_field rfl Tryz.underlying392 rfl Tryz.sizeOf3 (by decide)) ?_
        refine s_st (by first | exact m_store_int rfl rfl rfl rfl (by omega) (by (first | assumption | exact hq.b | exact spl_len _ _ _ _ _)) Tryz.sizeOf3 rfl | exact m_store_one rfl rfl (by simp) rfl rfl Tryz.sizeOf3 rfl) ?_
        refine s_nil ?_
        refine n_wp ?_
        refine w_seq ?_
        refine c_reg (by kernel_rfl) rfl ?_
        refine s_p (by first | exact h_move (v := .s _) rfl | exact h_move (v := .agg _) rfl | exact h_move (v := .tup _) rfl) ?_
        refine s_p (h_nilCheck rfl) ?_
        refine s_p (h_field rfl Tryz.underlying394 rfl Tryz.sizeOf392 (by decide)) ?_
        refine s_p (h_field rfl Tryz.underlying392 rfl Tryz.sizeOf3 (by decide)) ?_
        refine s_p (by first | exact h_load_ints rfl rfl rfl (by omega) rfl Tryz.isAgg3 | exact h_load_one rfl rfl rfl Tryz.isAgg3) ?_
        refine s_p (h_bin rfl rfl (b_eql rfl)) ?_
        refine s_nil ?_
        refine n_wp ?_
        refine w_cond rfl (fun hc_t57 => ?_) (fun hc_t57 => ?_)
        · skip
          have h64 : q.m + nn = 64 := by have := of_decide_eq_true hc_t57; omega
          have hcq : chunk q ((B1.drop X).take nn) nn = ⟨aft q.s (spl q.b ((B1.drop X).take nn) (0 + q.m) nn 64), spl q.b ((B1.drop X).take nn) (0 + q.m) nn 64, 0⟩ := if_pos h64
          rw [hcq] at hon hck
          refine w_seq ?_
          refine c_any 11 mix (by kernel_rfl) (by kernel_rfl) rfl rfl rfl ?_
          refine t_p (by first | exact h_move (v := .s _) rfl | exact h_move (v := .agg _) rfl | exact h_move (v := .tup _) rfl) ?_
          refine t_p (h_nilCheck rfl) ?_
          refine t_p (h_field rfl Tryz.underlying394 rfl Tryz.sizeOf388 (by decide)) ?_
          refine t_p (by first | exact h_load_ints rfl rfl rfl (by omega) rfl Tryz.isAgg388 | exact h_load_one rfl rfl rfl Tryz.isAgg388) ?_
          refine t_p (h_nilCheck rfl) ?_
          refine t_p (by first | exact h_load_agg rfl rfl (.whole rfl) Tryz.isAgg390 Tryz.sizeOf390 | exact h_load_agg rfl rfl (.seg rfl rfl) Tryz.isAgg390 Tryz.sizeOf390 | exact h_load_agg rfl rfl (.ints rfl (by omega)) Tryz.isAgg390 Tryz.sizeOf390) ?_
          refine t_p (by first | exact h_move (v := .s _) rfl | exact h_move (v := .agg _) rfl | exact h_move (v := .tup _) rfl) ?_
          refine t_p (h_nilCheck rfl) ?_
          refine t_p (h_field rfl Tryz.underlying394 rfl Tryz.sizeOf392 (by decide)) ?_
          refine t_p (h_call callable_273 rfl (after_c q.s (spl q.b ((B1.drop X).take nn) (0 + q.m) nn 64) hq.s (spl_len _ _ _ _ _) _ 0 1 _ rfl rfl)) ?_
          refine t_a (h_alloc (segs := [.ints .u32 8 (z 8)]) Tryz.zeroValue390 (by kernel_rfl) rfl) rfl ?_
          refine t_nil ?_
          refine s_st (by first | exact m_store_agg rfl rfl rfl (.whole (Nat.le_of_ble_eq_true rfl) rfl rfl) Tryz.sizeOf390 rfl | exact m_store_agg rfl rfl rfl (.seg (Nat.le_of_ble_eq_true rfl) rfl rfl rfl) Tryz.sizeOf390 rfl | exact m_store_agg rfl rfl rfl (.ints (Nat.le_of_ble_eq_true rfl) rfl (by omega)) Tryz.sizeOf390 rfl) ?_
          refine s_nil ?_
          refine n_wp ?_
          refine c_reg (by kernel_rfl) rfl ?_
          refine s_p (by first | exact h_move (v := .s _) rfl | exact h_move (v := .agg _) rfl | exact h_move (v := .tup _) rfl) ?_
          refine s_p (by first | exact h_move (v := .s _) rfl | exact h_move (v := .agg _) rfl | exact h_move (v := .tup _) rfl) ?_
          refine s_p (h_nilCheck rfl) ?_
          refine s_p (h_field rfl Tryz.underlying394 rfl Tryz.sizeOf388 (by decide)) ?_
          refine s_st (by first | exact m_store_int rfl rfl rfl rfl (by omega) (by (first | assumption | exact hq.b | exact spl_len _ _ _ _ _)) Tryz.sizeOf388 rfl | exact m_store_one rfl rfl (by simp) rfl rfl Tryz.sizeOf388 rfl) ?_
          refine s_p (h_nilCheck rfl) ?_
          refine s_p (h_field rfl Tryz.underlying394 rfl Tryz.sizeOf392 (by decide)) ?_
          refine s_p (h_field rfl Tryz.underlying392 rfl Tryz.sizeOf3 (by decide)) ?_
          refine s_st (by first | exact m_store_int rfl rfl rfl rfl (by omega) (by (first | assumption | exact hq.b | exact spl_len _ _ _ _ _)) Tryz.sizeOf3 rfl | exact m_store_one rfl rfl (by simp) rfl rfl Tryz.sizeOf3 rfl) ?_
          refine s_nil ?_
          refine n_blo ?_
          exact n_round (len1 - (X + nn)) (by omega) ⟨X + nn, if cap1 - X = nn then X else X + nn, _, by omega, by omega, fun hx => by rw [if_neg (by omega)], by rw [← hon]; exact htk, hck, by rw [show len1 - (X + nn) = len1 - X - nn by omega, show cap1 - (X + nn) = cap1 - X - nn by omega], rfl⟩ (weakR' [0, 1, 2, 3, 4, 6] rfl (by decide) rfl (by repeat (first | exact trivial | refine ⟨⟨_, _, rfl, rfl, rfl, rfl, rfl⟩, ?_⟩)) (by repeat (first | exact trivial | refine ⟨⟨rfl, rfl⟩, ?_⟩)))
        · skip
          have h64 : ¬ q.m + nn = 64 := by have := of_decide_eq_false hc_t57; omega
          have hcq : chunk q ((B1.drop X).take nn) nn = ⟨q.s, spl q.b ((B1.drop X).take nn) (0 + q.m) nn 64, q.m + nn⟩ := if_neg h64
          rw [hcq] at hon hck
          refine w_skip ?_
          refine n_blo ?_
          exact n_round (len1 - (X + nn)) (by omega) ⟨X + nn, if cap1 - X = nn then X else X + nn, _, by omega, by omega, fun hx => by rw [if_neg (by omega)], by rw [← hon]; exact htk, hck, by rw [show len1 - (X + nn) = len1 - X - nn by omega, show cap1 - (X + nn) = cap1 - X - nn by omega], rfl⟩ (weak' (by repeat (first | exact trivial | refine ⟨rfl, ?_⟩)) rfl rfl (Nat.le_of_ble_eq_true rfl))
      · skip
        have hje : j = len1 := by have := of_decide_eq_false hc_t26; omega
        have hfin : q = tk qa B1 := by rw [← htk, hje, List.drop_eq_nil_of_le (by omega), tk_nil]
        subst hfin
        refine w_exit ?_
        refine x_thn ?_
        refine x_thn ?_
        refine x_eq ?_
        refine n_blo ?_
        refine n_wp ?_
        refine c_reg (by kernel_rfl) rfl ?_
        refine s_p (by first | exact h_bin rfl rfl (b_add (Go.IntWalk.i64_in _ (by omega))) | exact h_bin rfl rfl (b_add rfl)) ?_
        refine s_p (by first | exact h_move (v := .s _) rfl | exact h_move (v := .agg _) rfl | exact h_move (v := .tup _) rfl) ?_
        refine s_nil ?_
        exact n_round (3 - 2) (by omega) ⟨2, _, _, by omega, rfl, fun e => absurd e (by omega), fun e => absurd e (by omega), fun _ => ⟨by rw [heq], by rw [het]⟩, fun e => absurd e (by omega), tk_ok hqa _, rfl, rfl⟩ (weak' (by repeat (first | exact trivial | refine ⟨rfl, ?_⟩)) rfl rfl (Nat.le_of_ble_eq_true rfl))
    · skip
      obtain ⟨heq, het⟩ := h2 rfl
      refine w_skip ?_
      refine n_wp ?_
      refine w_seq ?_
      refine w_block ?_
      refine w_seq ?_
      refine c_reg (by kernel_rfl) rfl ?_
      refine s_p (h_ixs0l 2 rfl rfl (by rfl) Tryz.underlying289 Tryz.sizeOf49 (by omega)) ?_
      refine s_p (h_load rfl rfl rfl Tryz.isAgg49) ?_
      refine s_p (by first | exact h_assign (v := .s _) rfl | exact h_assign (v := .agg _) rfl | exact h_assign (v := .tup _) rfl) ?_
      refine s_nil ?_
      refine n_wp ?_
      refine w_seq ?_
      refine c_reg (by kernel_rfl) rfl ?_
      refine s_p (by first | exact h_move (v := .s _) rfl | exact h_move (v := .agg _) rfl | exact h_move (v := .tup _) rfl) ?_
      refine s_p (h_nilCheck rfl) ?_
      refine s_p (h_field rfl Tryz.underlying394 rfl Tryz.sizeOf32 (by decide)) ?_
      refine s_p (by first | exact h_load_ints rfl rfl rfl (by omega) rfl Tryz.isAgg32 | exact h_load_one rfl rfl rfl Tryz.isAgg32) ?_
      refine s_p (by first | exact h_move (v := .s _) rfl | exact h_move (v := .agg _) rfl | exact h_move (v := .tup _) rfl) ?_
      refine s_p (by first | exact h_len rfl Tryz.underlying49 | exact h_len_nil rfl Tryz.underlying49 | exact h_len_val rfl Tryz.underlying49) ?_
      refine s_p (h_conv rfl Tryz.underlying3 Tryz.underlying32 (wu_n (c := len2) rfl (by omega))) ?_
      refine s_p (h_bin rfl rfl (b_add (r := ((ta + len2 : Nat) : Int)) (wu_n (by omega) (by omega)))) ?_
      refine s_p (h_nilCheck rfl) ?_
      refine s_p (h_field rfl Tryz.underlying394 rfl Tryz.sizeOf32 (by decide)) ?_
      refine s_st (by first | exact m_store_int rfl rfl rfl rfl (by omega) (by (first | assumption | exact hq.b | exact spl_len _ _ _ _ _)) Tryz.sizeOf32 rfl | exact m_store_one rfl rfl (by simp) rfl rfl Tryz.sizeOf32 rfl) ?_
      refine s_nil ?_
      refine n_wp ?_
      refine w_block ?_
      refine c_loop (J3b 2 4 B2 len2 cap2 B0 len0 cap0 B1 len1 cap1 B2 len2 cap2 qa ta) len2 ⟨0, 0, qa, by omega, rfl, fun _ => rfl, by rw [List.drop_zero], hqa, rfl, rfl⟩ (weak' (by repeat (first | exact trivial | refine ⟨rfl, ?_⟩)) rfl rfl (Nat.le_of_ble_eq_true rfl)) ?_
      rintro n T H ⟨j, X, q, hj, rfl, hXj, htk, hq, rfl, rfl⟩
      refine w_seq ?_
      refine w_seq ?_
      refine c_reg (by kernel_rfl) rfl ?_
      refine s_p (by first | exact h_move (v := .s _) rfl | exact h_move (v := .agg _) rfl | exact h_move (v := .tup _) rfl) ?_
      refine s_p (by first | exact h_len rfl Tryz.underlying49 | exact h_len_nil rfl Tryz.underlying49 | exact h_len_val rfl Tryz.underlying49) ?_
      refine s_p (h_bin rfl rfl (b_gtr rfl)) ?_
      refine s_nil ?_
      refine n_wp ?_
      refine w_cond rfl (fun hc_t26 => ?_) (fun hc_t26 => ?_)
      · skip
        have hlt : j < len2 := by have := of_decide_eq_true hc_t26; omega
        have hX := hXj hlt
        subst hX
        obtain ⟨nn, hnn⟩ : ∃ nn, nn = min (len2 - X) (64 - q.m) := ⟨_, rfl⟩
        have hqm := hq.m
        have hn0 : 0 < nn := by omega
        have hon := tk_on q hq B2 X nn len2 hBl2 (by omega) (by omega) hn0
        have hck := chunk_ok hq ((B2.drop X).take nn) nn (by omega)
        refine w_skip ?_
        refine n_wp ?_
        refine w_block ?_
        refine w_seq ?_
        refine c_any 11 mix (by kernel_rfl) (by kernel_rfl) rfl rfl rfl ?_
        refine t_p (by first | exact h_move (v := .s _) rfl | exact h_move (v := .agg _) rfl | exact h_move (v := .tup _) rfl) ?_
        refine t_p (h_nilCheck rfl) ?_
        refine t_p (h_field rfl Tryz.underlying394 rfl Tryz.sizeOf392 (by decide)) ?_
        refine t_p (h_field rfl Tryz.underlying392 rfl Tryz.sizeOf290 (by decide)) ?_
        refine t_p (by first | exact h_move (v := .s _) rfl | exact h_move (v := .agg _) rfl | exact h_move (v := .tup _) rfl) ?_
        refine t_p (h_nilCheck rfl) ?_
        refine t_p (h_field rfl Tryz.underlying394 rfl Tryz.sizeOf392 (by decide)) ?_
        refine t_p (h_field rfl Tryz.underlying392 rfl Tryz.sizeOf3 (by decide)) ?_
        refine t_p (by first | exact h_load_ints rfl rfl rfl (by omega) rfl Tryz.isAgg3 | exact h_load_one rfl rfl rfl Tryz.isAgg3) ?_
        refine t_p (h_asl_l (l := q.m) rfl rfl rfl Tryz.underlying290 Tryz.sizeOf5 hq.m) ?_
        refine t_p (by first | exact h_move (v := .s _) rfl | exact h_move (v := .agg _) rfl | exact h_move (v := .tup _) rfl) ?_
        refine t_nil ?_
        refine s_m (m_copy (n := nn) rfl rfl rfl rfl rfl hBl2 (by omega) (by omega) Tryz.underlying49 Tryz.sizeOf5 (.ints hn0 rfl (by omega))) ?_
        refine s_p (by first | exact h_assign (v := .s _) rfl | exact h_assign (v := .agg _) rfl | exact h_assign (v := .tup _) rfl) ?_
        refine s_nil ?_
        refine n_wp ?_
        refine w_seq ?_
        refine c_reg (by kernel_rfl) rfl ?_
        refine s_p (by first | exact h_move (v := .s _) rfl | exact h_move (v := .agg _) rfl | exact h_move (v := .tup _) rfl) ?_
        refine s_p (by first | exact h_move (v := .s _) rfl | exact h_move (v := .agg _) rfl | exact h_move (v := .tup _) rfl) ?_
        refine s_p (h_slice_l (l := nn) rfl rfl rfl Tryz.underlying49 Tryz.sizeOf5 (by omega)) ?_
        refine s_p (by first | exact h_assign (v := .s _) rfl | exact h_assign (v := .agg _) rfl | exact h_assign (v := .tup _) rfl) ?_
        refine s_nil ?_
        refine n_wp ?_
        refine w_seq ?_
        refine c_reg (by kernel_rfl) rfl ?_
        refine s_p (by first | exact h_move (v := .s _) rfl | exact h_move (v := .agg _) rfl | exact h_move (v := .tup _) rfl) ?_
        refine s_p (h_nilCheck rfl) ?_
        refine s_p (h_field rfl Tryz.underlying394 rfl Tryz.sizeOf392 (by decide)) ?_
        refine s_p (h_field rfl Tryz.underlying392 rfl Tryz.sizeOf3 (by decide)) ?_
        refine s_p (by first | exact h_load_ints rfl rfl rfl (by omega) rfl Tryz.isAgg3 | exact h_load_one rfl rfl rfl Tryz.isAgg3) ?_
        refine s_p (by first | exact h_move (v := .s _) rfl | exact h_move (v := .agg _) rfl | exact h_move (v := .tup _) rfl) ?_
        refine s_p (h_bin rfl rfl (b_add (r := ((q.m + nn : Nat) : Int)) (wr_n (by omega) (by omega)))) ?_
        refine s_p (h_nilCheck rfl) ?_
        refine s_p (h_field rfl Tryz.underlying394 rfl Tryz.sizeOf392 (by decide)) ?_
        refine s_p (h_field rfl Tryz.underlying392 rfl Tryz.sizeOf3 (by decide)) ?_
        refine s_st (by first | exact m_store_int rfl rfl rfl rfl (by omega) (by (first | assumption | exact hq.b | exact spl_len _ _ _ _ _)) Tryz.sizeOf3 rfl | exact m_store_one rfl rfl (by simp) rfl rfl Tryz.sizeOf3 rfl) ?_
        refine s_nil ?_
        refine n_wp ?_
        refine w_seq ?_
        refine c_reg (by kernel_rfl) rfl ?_
        refine s_p (by first | exact h_move (v := .s _) rfl | exact h_move (v := .agg _) rfl | exact h_move (v := .tup _) rfl) ?_
        refine s_p (h_nilCheck rfl) ?_
        refine s_p (h_field rfl Tryz.underlying394 rfl Tryz.sizeOf392 (by decide)) ?_
        refine s_p (h_field rfl Tryz.underlying392 rfl Tryz.sizeOf3 (by decide)) ?_
        refine s_p (by first | exact h_load_ints rfl rfl rfl (by omega) rfl Tryz.isAgg3 | exact h_load_one rfl rfl rfl Tryz.isAgg3) ?_
        refine s_p (h_bin rfl rfl (b_eql rfl)) ?_
        refine s_nil ?_
        refine n_wp ?_
        refine w_cond rfl (fun hc_t57 => ?_) (fun hc_t57 => ?_)
        · skip
          have h64 : q.m + nn = 64 := by have := of_decide_eq_true hc_t57; omega
          have hcq : chunk q ((B2.drop X).take nn) nn = ⟨aft q.s (spl q.b ((B2.drop X).take nn) (0 + q.m) nn 64), spl q.b ((B2.drop X).take nn) (0 + q.m) nn 64, 0⟩ := if_pos h64
          rw [hcq] at hon hck
          refine w_seq ?_
          refine c_any 11 mix (by kernel_rfl) (by kernel_rfl) rfl rfl rfl ?_
          refine t_p (by first | exact h_move (v := .s _) rfl | exact h_move (v := .agg _) rfl | exact h_move (v := .tup _) rfl) ?_
          refine t_p (h_nilCheck rfl) ?_
          refine t_p (h_field rfl Tryz.underlying394 rfl Tryz.sizeOf388 (by decide)) ?_
          refine t_p (by first | exact h_load_ints rfl rfl rfl (by omega) rfl Tryz.isAgg388 | exact h_load_one rfl rfl rfl Tryz.isAgg388) ?_
          refine t_p (h_nilCheck rfl) ?_
          refine t_p (by first | exact h_load_agg rfl rfl (.whole rfl) Tryz.isAgg390 Tryz.sizeOf390 | exact h_load_agg rfl rfl (.seg rfl rfl) Tryz.isAgg390 Tryz.sizeOf390 | exact h_load_agg rfl rfl (.ints rfl (by omega)) Tryz.isAgg390 Tryz.sizeOf390) ?_
          refine t_p (by first | exact h_move (v := .s _) rfl | exact h_move (v := .agg _) rfl | exact h_move (v := .tup _) rfl) ?_
          refine t_p (h_nilCheck rfl) ?_
          refine t_p (h_field rfl Tryz.underlying394 rfl Tryz.sizeOf392 (by decide)) ?_
          refine t_p (h_call callable_273 rfl (after_c q.s (spl q.b ((B2.drop X).take nn) (0 + q.m) nn 64) hq.s (spl_len _ _ _ _ _) _ 0 1 _ rfl rfl)) ?_
          refine t_a (h_alloc (segs := [.ints .u32 8 (z 8)]) Tryz.zeroValue390 (by kernel_rfl) rfl) rfl ?_
          refine t_nil ?_
          refine s_st (by first | exact m_store_agg rfl rfl rfl (.whole (Nat.le_of_ble_eq_true rfl) rfl rfl) Tryz.sizeOf390 rfl | exact m_store_agg rfl rfl rfl (.seg (Nat.le_of_ble_eq_true rfl) rfl rfl rfl) Tryz.sizeOf390 rfl | exact m_store_agg rfl rfl rfl (.ints (Nat.le_of_ble_eq_true rfl) rfl (by omega)) Tryz.sizeOf390 rfl) ?_
          refine s_nil ?_
          refine n_wp ?_
          refine c_reg (by kernel_rfl) rfl ?_
          refine s_p (by first | exact h_move (v := .s _) rfl | exact h_move (v := .agg _) rfl | exact h_move (v := .tup _) rfl) ?_
          refine s_p (by first | exact h_move (v := .s _) rfl | exact h_move (v := .agg _) rfl | exact h_move (v := .tup _) rfl) ?_
          refine s_p (h_nilCheck rfl) ?_
          refine s_p (h_field rfl Tryz.underlying394 rfl Tryz.sizeOf388 (by decide)) ?_
          refine s_st (by first | exact m_store_int rfl rfl rfl rfl (by omega) (by (first | assumption | exact hq.b | exact spl_len _ _ _ _ _)) Tryz.sizeOf388 rfl | exact m_store_one rfl rfl (by simp) rfl rfl Tryz.sizeOf388 rfl) ?_
          refine s_p (h_nilCheck rfl) ?_
          refine s_p (h_field rfl Tryz.underlying394 rfl Tryz.sizeOf392 (by decide)) ?_
          refine s_p (h_field rfl Tryz.underlying392 rfl Tryz.sizeOf3 (by decide)) ?_
          refine s_st (by first | exact m_store_int rfl rfl rfl rfl (by omega) (by (first | assumption | exact hq.b | exact spl_len _ _ _ _ _)) Tryz.sizeOf3 rfl | exact m_store_one rfl rfl (by simp) rfl rfl Tryz.sizeOf3 rfl) ?_
          refine s_nil ?_
          refine n_blo ?_
          exact n_round (len2 - (X + nn)) (by omega) ⟨X + nn, if cap2 - X = nn then X else X + nn, _, by omega, by omega, fun hx => by rw [if_neg (by omega)], by rw [← hon]; exact htk, hck, by rw [show len2 - (X + nn) = len2 - X - nn by omega, show cap2 - (X + nn) = cap2 - X - nn by omega], rfl⟩ (weakR' [0, 1, 2, 3, 4, 6] rfl (by decide) rfl (by repeat (first | exact trivial | refine ⟨⟨_, _, rfl, rfl, rfl, rfl, rfl⟩, ?_⟩)) (by repeat (first | exact trivial | refine ⟨⟨rfl, rfl⟩, ?_⟩)))
        · skip
          have h64 : ¬ q.m + nn = 64 := by have := of_decide_eq_false hc_t57; omega
          have hcq : chunk q ((B2.drop X).take nn) nn = ⟨q.s, spl q.b ((B2.drop X).take nn) (0 + q.m) nn 64, q.m + nn⟩ := if_neg h64
          rw [hcq] at hon hck
          refine w_skip ?_
          refine n_blo ?_
          exact n_round (len2 - (X + nn)) (by omega) ⟨X + nn, if cap2 - X = nn then X else X + nn, _, by omega, by omega, fun hx => by rw [if_neg (by omega)], by rw [← hon]; exact htk, hck, by rw [show len2 - (X + nn) = len2 - X - nn by omega, show cap2 - (X + nn) = cap2 - X - nn by omega], rfl⟩ (weak' (by repeat (first | exact trivial | refine ⟨rfl, ?_⟩)) rfl rfl (Nat.le_of_ble_eq_true rfl))
      · skip
        have hje : j = len2 := by have := of_decide_eq_false hc_t26; omega
        have hfin : q = tk qa B2 := by rw [← htk, hje, List.drop_eq_nil_of_le (by omega), tk_nil]
        subst hfin
        refine w_exit ?_
        refine x_thn ?_
        refine x_thn ?_
        refine x_eq ?_
        refine n_blo ?_
        refine n_wp ?_
        refine c_reg (by kernel_rfl) rfl ?_
        refine s_p (by first | exact h_bin rfl rfl (b_add (Go.IntWalk.i64_in _ (by omega))) | exact h_bin rfl rfl (b_add rfl)) ?_
        refine s_p (by first | exact h_move (v := .s _) rfl | exact h_move (v := .agg _) rfl | exact h_move (v := .tup _) rfl) ?_
        refine s_nil ?_
        exact n_round (3 - 3) (by omega) ⟨3, _, _, by omega, rfl, fun e => absurd e (by omega), fun e => absurd e (by omega), fun e => absurd e (by omega), fun _ => ⟨by rw [heq], by rw [het]⟩, tk_ok hqa _, rfl, rfl⟩ (weak' (by repeat (first | exact trivial | refine ⟨rfl, ?_⟩)) rfl rfl (Nat.le_of_ble_eq_true rfl))
  · skip
    have hi1 : i = 3 := by have := of_decide_eq_false hc_t11; omega
    subst hi1
    obtain ⟨rfl, rfl⟩ := h3 rfl
    refine w_exit ?_
    refine x_thn ?_
    refine x_thn ?_
    refine x_eq ?_
    exact doneN (by repeat (first | exact trivial | refine ⟨rfl, ?_⟩)) (ret_none Tryz.results221)
end Go.Proofs.X
end

section
open Go Go.Ab Go.Proofs
namespace Go.Proofs.X
theorem callable_157 : Callable Tryz.prog 157 := ⟨_, Tryz.func157, by kernel_rfl, rfl⟩
theorem callable_158 : Callable Tryz.prog 158 := ⟨_, Tryz.func158, by kernel_rfl, rfl⟩
def JN (q0 : Run) (tot : Nat) (n : Nat) (T : Tm) (H : Heap) : Prop := ∃ (i t : Nat), i ≤ 1 ∧ n = 1 - i ∧ t = tot ∧
  T = [(0, .s (.ptr 0 0 0)), (8, .s (.slice 1 0 0 1 1)), (9, .s (.int .i64 1)), (10, .s (.int .i64 i))] ∧ H = [some ⟨true, [.one (.ptr 2 0 0), .ints .u8 64 (q0).b, .one (.int .i64 ((q0).m : Nat)), .one (.int .u64 ((t : Nat) : Int))]⟩, some ⟨false, [.one .nils]⟩, none]
def JNb (q0 : Run) (tot : Nat) (n : Nat) (T : Tm) (H : Heap) : Prop := n = 0 ∧
  T = [(0, .s (.ptr 0 0 0)), (5, .s .nils), (8, .s (.slice 1 0 0 1 1)), (9, .s (.int .i64 1)), (10, .s (.int .i64 ((0 : Nat) : Int)))] ∧ H = [some ⟨true, [.one (.ptr 2 0 0), .ints .u8 64 (q0).b, .one (.int .i64 ((q0).m : Nat)), .one (.int .u64 ((tot + 0 : Nat) : Int))]⟩, some ⟨false, [.one .nils]⟩, none]
set_option maxRecDepth 100000 in
set_option maxHeartbeats 2000000 in
theorem takesN (H : Heap) (ir ip is : Nat) (q0 : Run) (tot : Nat) (bp : Blk) (hq0 : RunOk q0) (htot : tot ≤ 140737488351232) (hr : H[ir]? = some (some ⟨true, [.one (.ptr is (0 + 0) 0), .ints .u8 64 (q0).b, .one (.int .i64 ((q0).m : Nat)), .one (.int .u64 ((tot : Nat) : Int))]⟩)) (hp : H[ip]? = some (some bp)) (hps : bp.segs = [.one .nils]) (n1 : ir ≠ ip) (n3 : ir ≠ is) : AMut Tryz.prog 221 H [.s (.ptr ir (0 + 0) 0), .s (.slice ip (0 + 0) 0 1 1)] (.tup []) ((forget [] H).set ir (some ⟨true, [.one (.ptr is (0 + 0) 0), .ints .u8 64 (q0).b, .one (.int .i64 ((q0).m : Nat)), .one (.int .u64 ((tot : Nat) : Int))]⟩) ++ []) := by
  refine amut_gen3 (args0 := [.s (.ptr 0 0 0), .s (.slice 1 0 0 1 1)]) (H0 := [some ⟨true, [.one (.ptr 2 0 0), .ints .u8 64 (q0).b, .one (.int .i64 ((q0).m : Nat)), .one (.int .u64 ((tot : Nat) : Int))]⟩, some ⟨false, [.one .nils]⟩, none]) (Hf := [some ⟨true, [.one (.ptr 2 0 0), .ints .u8 64 (q0).b, .one (.int .i64 ((q0).m : Nat)), .one (.int .u64 ((tot : Nat) : Int))]⟩, none, none]) (v0 := .tup []) [(ir, 0), (ip, 0), (is, 0)] [] 3 (Nat.le_of_ble_eq_true rfl) Tryz.func221 rfl Tryz.ntmps221 (by simp) rfl
    (fun k id' sh' b0 h1 h2 => by
      match k, h1, h2 with
      | 0, h1, h2 => simp at h1 h2; obtain ⟨rfl, rfl⟩ := h1; subst h2; exact ⟨rfl, _, hr, fun _ => ⟨rfl, rfl⟩, foot_same rfl⟩
      | 1, h1, h2 => simp at h1 h2; obtain ⟨rfl, rfl⟩ := h1; subst h2; exact ⟨rfl, _, hp, fun e => (by cases e), foot_same hps⟩
      | 2, h1, h2 => simp at h2
      | k + 3, h1, _ => simp at h1)
    (fun k k' id' s1 s2 b0 h1 h1' hne h2 => by
      match k, k', h1, h1', h2, hne with
      | 0, 0, _, _, _, hne => exact absurd rfl hne
      | 0, 1, h1, h1', _, _ => simp at h1 h1'; exact absurd (h1.1.trans h1'.1.symm) n1
      | 0, 2, h1, h1', _, _ => simp at h1 h1'; exact absurd (h1.1.trans h1'.1.symm) n3
      | 0, k + 3, _, h1', _, _ => simp at h1'
      | 1, _, _, _, h2, _ => simp at h2; subst h2; rfl
      | 2, _, _, _, h2, _ => simp at h2
      | k + 3, _, h1, _, _, _ => simp at h1)
    (fun W ρ vals w hH ha k id' sh' hk => by
      match k, hk with
      | 0, hk => simp at hk; obtain ⟨rfl, rfl⟩ := hk; exact live_ptr (i := 0) ha rfl
      | 1, hk => simp at hk; obtain ⟨rfl, rfl⟩ := hk; exact live_slice (i := 1) ha rfl
      | 2, hk => simp at hk; obtain ⟨rfl, rfl⟩ := hk; exact live_in (p := 0) hH (live_ptr (i := 0) ha rfl) hr rfl
      | k + 3, hk => simp at hk)
    rfl rfl rfl (by decide) rfl rfl rfl (fun W w' ρ0 hW hdom => ?_)
  refine w_seq ?_
  refine c_reg (by kernel_rfl) rfl ?_
  refine s_p (by first | exact h_move (v := .s _) rfl | exact h_move (v := .agg _) rfl | exact h_move (v := .tup _) rfl) ?_
  refine s_p (by first | exact h_len rfl Tryz.underlying289 | exact h_len_nil rfl Tryz.underlying289 | exact h_len_val rfl Tryz.underlying289) ?_
  refine s_p (by first | exact h_move (v := .s _) rfl | exact h_move (v := .agg _) rfl | exact h_move (v := .tup _) rfl) ?_
  refine s_nil ?_
  refine n_wp ?_
  refine w_block ?_
  refine c_loop (JN q0 tot) 1 ⟨0, tot, by omega, rfl, rfl, rfl, rfl⟩ (weak' (by repeat (first | exact trivial | refine ⟨rfl, ?_⟩)) rfl rfl (Nat.le_of_ble_eq_true rfl)) ?_
  rintro n T H ⟨i, ta, hi, rfl, het, rfl, rfl⟩
  refine w_seq ?_
  refine c_reg (by kernel_rfl) rfl ?_
  refine s_p (h_bin rfl rfl (b_lss rfl)) ?_
  refine s_nil ?_
  refine n_wp ?_
  refine w_seq ?_
  refine w_cond rfl (fun hc_t11 => ?_) (fun hc_t11 => ?_)
  · skip
    have hi0 : i = 0 := by have := of_decide_eq_true hc_t11; omega
    subst hi0
    refine w_skip ?_
    refine n_wp ?_
    refine w_seq ?_
    refine w_block ?_
    refine w_seq ?_
    refine c_reg (by kernel_rfl) rfl ?_
    refine s_p (by first | exact h_ixs0 rfl rfl Tryz.underlying289 Tryz.sizeOf49 (by omega) | exact h_ixs rfl rfl Tryz.underlying289 Tryz.sizeOf49 (by omega) | exact h_ixsx rfl rfl Tryz.underlying289 Tryz.sizeOf49 (by omega)) ?_
    refine s_p (h_load rfl rfl rfl Tryz.isAgg49) ?_
    refine s_p (by first | exact h_assign (v := .s _) rfl | exact h_assign (v := .agg _) rfl | exact h_assign (v := .tup _) rfl) ?_
    refine s_nil ?_
    refine n_wp ?_
    refine w_seq ?_
    refine c_reg (by kernel_rfl) rfl ?_
    refine s_p (by first | exact h_move (v := .s _) rfl | exact h_move (v := .agg _) rfl | exact h_move (v := .tup _) rfl) ?_
    refine s_p (h_nilCheck rfl) ?_
    refine s_p (h_field rfl Tryz.underlying394 rfl Tryz.sizeOf32 (by decide)) ?_
    refine s_p (by first | exact h_load_ints rfl rfl rfl (by omega) rfl Tryz.isAgg32 | exact h_load_one rfl rfl rfl Tryz.isAgg32) ?_
    refine s_p (by first | exact h_move (v := .s _) rfl | exact h_move (v := .agg _) rfl | exact h_move (v := .tup _) rfl) ?_
    refine s_p (by first | exact h_len rfl Tryz.underlying49 | exact h_len_nil rfl Tryz.underlying49 | exact h_len_val rfl Tryz.underlying49) ?_
    refine s_p (h_conv rfl Tryz.underlying3 Tryz.underlying32 (wu_n (c := 0) rfl (by omega))) ?_
    refine s_p (h_bin rfl rfl (b_add (r := ((ta + 0 : Nat) : Int)) (wu_n (by omega) (by omega)))) ?_
    refine s_p (h_nilCheck rfl) ?_
    refine s_p (h_field rfl Tryz.underlying394 rfl Tryz.sizeOf32 (by decide)) ?_
    refine s_st (by first | exact m_store_int rfl rfl rfl rfl (by omega) (by (first | assumption | exact hq0.b)) Tryz.sizeOf32 rfl | exact m_store_one rfl rfl (by simp) rfl rfl Tryz.sizeOf32 rfl) ?_
    refine s_nil ?_
    refine n_wp ?_
    refine w_block ?_
    refine c_loop (JNb q0 ta) 0 ⟨rfl, rfl, rfl⟩ (weak' (by repeat (first | exact trivial | refine ⟨rfl, ?_⟩)) rfl rfl (Nat.le_of_ble_eq_true rfl)) ?_
    rintro n T H ⟨rfl, rfl, rfl⟩
    refine w_seq ?_
    refine w_seq ?_
    refine c_reg (by kernel_rfl) rfl ?_
    refine s_p (by first | exact h_move (v := .s _) rfl | exact h_move (v := .agg _) rfl | exact h_move (v := .tup _) rfl) ?_
    refine s_p (by first | exact h_len rfl Tryz.underlying49 | exact h_len_nil rfl Tryz.underlying49 | exact h_len_val rfl Tryz.underlying49) ?_
    refine s_p (h_bin rfl rfl (b_gtr rfl)) ?_
    refine s_nil ?_
    refine n_wp ?_
    refine w_cond rfl (fun hc_t26 => ?_) (fun hc_t26 => ?_)
    · exact absurd hc_t26 (by simp)
    refine w_exit ?_
    refine x_thn ?_
    refine x_thn ?_
    refine x_eq ?_
    refine n_blo ?_
    refine n_wp ?_
    refine c_reg (by kernel_rfl) rfl ?_
    refine s_p (by first | exact h_bin rfl rfl (b_add (Go.IntWalk.i64_in _ (by omega))) | exact h_bin rfl rfl (b_add rfl)) ?_
    refine s_p (by first | exact h_move (v := .s _) rfl | exact h_move (v := .agg _) rfl | exact h_move (v := .tup _) rfl) ?_
    refine s_nil ?_
    exact n_round 0 (by omega) ⟨1, _, by omega, rfl, het, rfl, rfl⟩ (weak' (by repeat (first | exact trivial | refine ⟨rfl, ?_⟩)) rfl rfl (Nat.le_of_ble_eq_true rfl))
  · skip
    have hi1 : i = 1 := by have := of_decide_eq_false hc_t11; omega
    subst hi1
    refine w_exit ?_
    refine x_thn ?_
    refine x_thn ?_
    refine x_eq ?_
    subst het; exact doneN (by repeat (first | exact trivial | refine ⟨rfl, ?_⟩)) (ret_none Tryz.results221)
set_option maxRecDepth 100000 in
set_option maxHeartbeats 2000000 in
theorem Write_s (H : Heap) (ir id is sh : Nat) (q0 : Run) (tot : Nat) (B : List Int) (len cap : Nat) (bd : Blk) (hq0 : RunOk q0) (hBl : B.length = len) (hcap : len ≤ cap) (hlen : len ≤ 140737488351232) (hd : H[id]? = some (some bd)) (hds : ∀ (i : Nat) (y : SV), atS [.ints .u8 len B] i = some y → atS bd.segs (sh + i) = some y) (htot : tot ≤ 140737488351232) (hr : H[ir]? = some (some ⟨true, [.one (.ptr is (0 + 0) 0), .ints .u8 64 (q0).b, .one (.int .i64 ((q0).m : Nat)), .one (.int .u64 ((tot : Nat) : Int))]⟩)) (hs : H[is]? = some (some ⟨true, [.ints .u32 8 q0.s]⟩)) (n2 : ir ≠ id) (n3 : ir ≠ is) (n5 : is ≠ id) : AMut Tryz.prog 157 H [.s (.ptr ir (0 + 0) 0), .s (.slice id (0 + sh) 0 len cap)] (.s (.int .i64 0)) ((forget [is] H).set ir (some ⟨true, [.one (.ptr (H.length + 0) (0 + 0) 0), .ints .u8 64 (tk q0 B).b, .one (.int .i64 ((tk q0 B).m : Nat)), .one (.int .u64 ((tot + len : Nat) : Int))]⟩) ++ [some ⟨true, [.ints .u32 8 (tk q0 B).s]⟩]) := by
  refine amut_gen3 (args0 := [.s (.ptr 0 0 0), .s (.slice 1 0 0 len cap)]) (H0 := [some ⟨true, [.one (.ptr 2 0 0), .ints .u8 64 (q0).b, .one (.int .i64 ((q0).m : Nat)), .one (.int .u64 ((tot : Nat) : Int))]⟩, some ⟨false, [.ints .u8 len B]⟩, some ⟨true, [.ints .u32 8 q0.s]⟩]) (Hf := [some ⟨true, [.one (.ptr 4 0 0), .ints .u8 64 (tk q0 B).b, .one (.int .i64 ((tk q0 B).m : Nat)), .one (.int .u64 ((tot + len : Nat) : Int))]⟩, none, none, none, some ⟨true, [.ints .u32 8 (tk q0 B).s]⟩]) (v0 := .s (.int .i64 0)) [(ir, 0), (id, sh), (is, 0)] [4] 2 (Nat.le_of_ble_eq_true rfl) Tryz.func157 rfl Tryz.ntmps157 (by simp) rfl
    (fun k id' sh' b0 h1 h2 => by
      match k, h1, h2 with
      | 0, h1, h2 => simp at h1 h2; obtain ⟨rfl, rfl⟩ := h1; subst h2; exact ⟨rfl, _, hr, fun _ => ⟨rfl, rfl⟩, foot_same rfl⟩
      | 1, h1, h2 => simp at h1 h2; obtain ⟨rfl, rfl⟩ := h1; subst h2; exact ⟨rfl, _, hd, fun e => (by cases e), fun i y hy => by (have h := hds i y hy; obtain ⟨_, rfl⟩ := atS_ints1 hy; exact h)⟩
      | 2, h1, h2 => simp at h1 h2; obtain ⟨rfl, rfl⟩ := h1; subst h2; exact ⟨rfl, _, hs, fun _ => ⟨rfl, rfl⟩, foot_same rfl⟩
      | k + 3, h1, _ => simp at h1)
    (fun k k' id' s1 s2 b0 h1 h1' hne h2 => by
      match k, k', h1, h1', h2, hne with
      | 0, 0, _, _, _, hne => exact absurd rfl hne
      | 0, 1, h1, h1', _, _ => simp at h1 h1'; exact absurd (h1.1.trans h1'.1.symm) n2
      | 0, 2, h1, h1', _, _ => simp at h1 h1'; exact absurd (h1.1.trans h1'.1.symm) n3
      | 0, k + 3, _, h1', _, _ => simp at h1'
      | 1, _, _, _, h2, _ => simp at h2; subst h2; rfl
      | 2, 0, h1, h1', _, _ => simp at h1 h1'; exact absurd (h1'.1.trans h1.1.symm) n3
      | 2, 1, h1, h1', _, _ => simp at h1 h1'; exact absurd (h1.1.trans h1'.1.symm) n5
      | 2, 2, _, _, _, hne => exact absurd rfl hne
      | 2, k + 3, _, h1', _, _ => simp at h1'
      | k + 3, _, h1, _, _, _ => simp at h1)
    (fun W ρ vals w hH ha k id' sh' hk => by
      match k, hk with
      | 0, hk => simp at hk; obtain ⟨rfl, rfl⟩ := hk; exact live_ptr (i := 0) ha rfl
      | 1, hk => simp at hk; obtain ⟨rfl, rfl⟩ := hk; exact live_slice (i := 1) ha rfl
      | 2, hk => simp at hk; obtain ⟨rfl, rfl⟩ := hk; exact live_in (p := 0) hH (live_ptr (i := 0) ha rfl) hr rfl
      | k + 3, hk => simp at hk)
    rfl rfl rfl (by decide) rfl rfl rfl (fun W w' ρ0 hW hdom => ?_)
  refine w_seq ?_
  refine c_reg (by kernel_rfl) rfl ?_
  refine s_p (by first | exact h_assign (v := .s _) rfl | exact h_assign (v := .agg _) rfl | exact h_assign (v := .tup _) rfl) ?_
  refine s_nil ?_
  refine n_wp ?_
  refine w_seq ?_
  refine w_seq ?_
  refine c_reg (by kernel_rfl) rfl ?_
  refine s_p (by first | exact h_move (v := .s _) rfl | exact h_move (v := .agg _) rfl | exact h_move (v := .tup _) rfl) ?_
  refine s_p (h_eqn rfl rfl Tryz.underlying293) ?_
  refine s_p (by first | exact h_move (v := .s _) rfl | exact h_move (v := .agg _) rfl | exact h_move (v := .tup _) rfl) ?_
  first | refine s_on rfl rfl (by first | rfl | assumption) (by first | exact h_move (v := .s _) rfl | exact h_move (v := .agg _) rfl | exact h_move (v := .tup _) rfl) ?_ | refine s_off rfl rfl (by first | rfl | assumption) ?_
  first | refine s_on rfl rfl (by first | rfl | assumption) (h_nilCheck rfl) ?_ | refine s_off rfl rfl (by first | rfl | assumption) ?_
  first | refine s_on rfl rfl (by first | rfl | assumption) (h_field rfl Tryz.underlying394 rfl Tryz.sizeOf388 (by decide)) ?_ | refine s_off rfl rfl (by first | rfl | assumption) ?_
  first | refine s_on rfl rfl (by first | rfl | assumption) (by first | exact h_load_ints rfl rfl rfl (by omega) rfl Tryz.isAgg388 | exact h_load_one rfl rfl rfl Tryz.isAgg388) ?_ | refine s_off rfl rfl (by first | rfl | assumption) ?_
  first | refine s_on rfl rfl (by first | rfl | assumption) (h_eqn rfl rfl Tryz.underlying388) ?_ | refine s_off rfl rfl (by first | rfl | assumption) ?_
  refine s_p (by first | exact h_pick_t rfl (by first | rfl | assumption) rfl | exact h_pick_f rfl (by first | rfl | assumption) rfl) ?_
  refine s_nil ?_
  refine n_wp ?_
  refine w_cond rfl (fun hc_t13 => ?_) (fun hc_t13 => ?_)
  · exact absurd hc_t13 (by simp)
  refine w_skip ?_
  refine n_wp ?_
  refine w_seq ?_
  refine c_reg (by kernel_rfl) rfl ?_
  refine s_p (by first | exact h_move (v := .s _) rfl | exact h_move (v := .agg _) rfl | exact h_move (v := .tup _) rfl) ?_
  refine s_p (by first | exact h_move (v := .s _) rfl | exact h_move (v := .agg _) rfl | exact h_move (v := .tup _) rfl) ?_
  refine s_a (h_bsls1 rfl (by simp) Tryz.underlying289 Tryz.sizeOf49 Tryz.zeroValue49 rfl rfl) rfl ?_
  refine s_m (m_call callable_221 rfl (takes_c _ 0 3 1 2 0 q0 tot B len cap _ _ hq0 hBl hcap hlen htot rfl rfl rfl rfl (fun i y hy => by rw [Nat.zero_add]; exact hy) rfl (by decide) (by decide) (by decide) (by decide) (by decide))) ?_
  refine s_nil ?_
  refine n_wp ?_
  refine w_seq ?_
  refine c_reg (by kernel_rfl) rfl ?_
  refine s_p (by first | exact h_assign (v := .s _) rfl | exact h_assign (v := .agg _) rfl | exact h_assign (v := .tup _) rfl) ?_
  refine s_nil ?_
  refine n_wp ?_
  refine w_ret ?_
  exact doneM (by repeat (first | exact trivial | refine ⟨rfl, ?_⟩)) (ret_tmp Tryz.results157 rfl)
set_option maxRecDepth 100000 in
set_option maxHeartbeats 2000000 in
theorem Write_n (H : Heap) (ir is : Nat) (q0 : Run) (tot : Nat) (hq0 : RunOk q0) (htot : tot ≤ 140737488351232) (hr : H[ir]? = some (some ⟨true, [.one (.ptr is (0 + 0) 0), .ints .u8 64 (q0).b, .one (.int .i64 ((q0).m : Nat)), .one (.int .u64 ((tot : Nat) : Int))]⟩)) (n3 : ir ≠ is) : AMut Tryz.prog 157 H [.s (.ptr ir (0 + 0) 0), .s .nils] (.s (.int .i64 0)) ((forget [] H).set ir (some ⟨true, [.one (.ptr is (0 + 0) 0), .ints .u8 64 (q0).b, .one (.int .i64 ((q0).m : Nat)), .one (.int .u64 ((tot : Nat) : Int))]⟩) ++ []) := by
  refine amut_gen3 (args0 := [.s (.ptr 0 0 0), .s .nils]) (H0 := [some ⟨true, [.one (.ptr 1 0 0), .ints .u8 64 (q0).b, .one (.int .i64 ((q0).m : Nat)), .one (.int .u64 ((tot : Nat) : Int))]⟩, none]) (Hf := [some ⟨true, [.one (.ptr 1 0 0), .ints .u8 64 (q0).b, .one (.int .i64 ((q0).m : Nat)), .one (.int .u64 ((tot : Nat) : Int))]⟩, none]) (v0 := .s (.int .i64 0)) [(ir, 0), (is, 0)] [] 2 (Nat.le_of_ble_eq_true rfl) Tryz.func157 rfl Tryz.ntmps157 (by simp) rfl
    (fun k id' sh' b0 h1 h2 => by
      match k, h1, h2 with
      | 0, h1, h2 => simp at h1 h2; obtain ⟨rfl, rfl⟩ := h1; subst h2; exact ⟨rfl, _, hr, fun _ => ⟨rfl, rfl⟩, foot_same rfl⟩
      | 1, h1, h2 => simp at h2
      | k + 2, h1, _ => simp at h1)
    (fun k k' id' s1 s2 b0 h1 h1' hne h2 => by
      match k, k', h1, h1', h2, hne with
      | 0, 0, _, _, _, hne => exact absurd rfl hne
      | 0, 1, h1, h1', _, _ => simp at h1 h1'; exact absurd (h1.1.trans h1'.1.symm) n3
      | 0, k + 2, _, h1', _, _ => simp at h1'
      | 1, _, _, _, h2, _ => simp at h2
      | k + 2, _, h1, _, _, _ => simp at h1)
    (fun W ρ vals w hH ha k id' sh' hk => by
      match k, hk with
      | 0, hk => simp at hk; obtain ⟨rfl, rfl⟩ := hk; exact live_ptr (i := 0) ha rfl
      | 1, hk => simp at hk; obtain ⟨rfl, rfl⟩ := hk; exact live_in (p := 0) hH (live_ptr (i := 0) ha rfl) hr rfl
      | k + 2, hk => simp at hk)
    rfl rfl rfl (by decide) rfl rfl rfl (fun W w' ρ0 hW hdom => ?_)
  refine w_seq ?_
  refine c_reg (by kernel_rfl) rfl ?_
  refine s_p (by first | exact h_assign (v := .s _) rfl | exact h_assign (v := .agg _) rfl | exact h_assign (v := .tup _) rfl) ?_
  refine s_nil ?_
  refine n_wp ?_
  refine w_seq ?_
  refine w_seq ?_
  refine c_reg (by kernel_rfl) rfl ?_
  refine s_p (by first | exact h_move (v := .s _) rfl | exact h_move (v := .agg _) rfl | exact h_move (v := .tup _) rfl) ?_
  refine s_p (h_eqn rfl rfl Tryz.underlying293) ?_
  refine s_p (by first | exact h_move (v := .s _) rfl | exact h_move (v := .agg _) rfl | exact h_move (v := .tup _) rfl) ?_
  first | refine s_on rfl rfl (by first | rfl | assumption) (by first | exact h_move (v := .s _) rfl | exact h_move (v := .agg _) rfl | exact h_move (v := .tup _) rfl) ?_ | refine s_off rfl rfl (by first | rfl | assumption) ?_
  first | refine s_on rfl rfl (by first | rfl | assumption) (h_nilCheck rfl) ?_ | refine s_off rfl rfl (by first | rfl | assumption) ?_
  first | refine s_on rfl rfl (by first | rfl | assumption) (h_field rfl Tryz.underlying394 rfl Tryz.sizeOf388 (by decide)) ?_ | refine s_off rfl rfl (by first | rfl | assumption) ?_
  first | refine s_on rfl rfl (by first | rfl | assumption) (by first | exact h_load_ints rfl rfl rfl (by omega) rfl Tryz.isAgg388 | exact h_load_one rfl rfl rfl Tryz.isAgg388) ?_ | refine s_off rfl rfl (by first | rfl | assumption) ?_
  first | refine s_on rfl rfl (by first | rfl | assumption) (h_eqn rfl rfl Tryz.underlying388) ?_ | refine s_off rfl rfl (by first | rfl | assumption) ?_
  refine s_p (by first | exact h_pick_t rfl (by first | rfl | assumption) rfl | exact h_pick_f rfl (by first | rfl | assumption) rfl) ?_
  refine s_nil ?_
  refine n_wp ?_
  refine w_cond rfl (fun hc_t13 => ?_) (fun hc_t13 => ?_)
  · exact absurd hc_t13 (by simp)
  refine w_skip ?_
  refine n_wp ?_
  refine w_seq ?_
  refine c_reg (by kernel_rfl) rfl ?_
  refine s_p (by first | exact h_move (v := .s _) rfl | exact h_move (v := .agg _) rfl | exact h_move (v := .tup _) rfl) ?_
  refine s_p (by first | exact h_move (v := .s _) rfl | exact h_move (v := .agg _) rfl | exact h_move (v := .tup _) rfl) ?_
  refine s_a (h_bsls1 rfl (by simp) Tryz.underlying289 Tryz.sizeOf49 Tryz.zeroValue49 rfl rfl) rfl ?_
  refine s_m (m_call callable_221 rfl (takesN _ 0 2 1 q0 tot _ hq0 htot rfl rfl rfl (by decide) (by decide))) ?_
  refine s_nil ?_
  refine n_wp ?_
  refine w_seq ?_
  refine c_reg (by kernel_rfl) rfl ?_
  refine s_p (by first | exact h_assign (v := .s _) rfl | exact h_assign (v := .agg _) rfl | exact h_assign (v := .tup _) rfl) ?_
  refine s_nil ?_
  refine n_wp ?_
  refine w_ret ?_
  exact doneM (by repeat (first | exact trivial | refine ⟨rfl, ?_⟩)) (ret_tmp Tryz.results157 rfl)
end Go.Proofs.X
end

section
open Go Go.Ab Go.Proofs
namespace Go.Proofs.X
def JS (L S : List Int) (n : Nat) (T : Tm) (H : Heap) : Prop := ∃ i, i ≤ 8 ∧ n = 8 - i ∧
  ((i = 0 ∧ T = [(2, .s (.ptr 1 0 0)), (5, .s (.slice 1 0 0 0 32)), (41, .s (.ptr 2 0 0)), (42, .s (.int .i64 ((0 : Nat) : Int)))] ∧ H = [none, some ⟨true, [.ints .u8 32 L]⟩, some ⟨true, [.ints .u32 8 S]⟩]) ∨
   (0 < i ∧ T = [(2, .s (.ptr 1 0 0)), (5, .s (.slice 3 0 0 (4 * i) (4 * i))), (41, .s (.ptr 2 0 0)), (42, .s (.int .i64 ((i : Nat) : Int)))] ∧ H = [none, some ⟨true, [.ints .u8 32 L]⟩, some ⟨true, [.ints .u32 8 S]⟩, some ⟨true, [.ints .u8 (4 * i) (ob S i)]⟩]))
set_option maxRecDepth 100000 in
set_option maxHeartbeats 2000000 in
theorem Sum_c (H : Heap) (ir is : Nat) (q0 : Run) (tot : Nat) (br : Blk) (hq0 : RunOk q0) (htot : tot ≤ 140737488351000) (hr : H[ir]? = some (some br)) (hrs : br.segs = [.one (.ptr is (0 + 0) 0), .ints .u8 64 q0.b, .one (.int .i64 (q0.m : Nat)), .one (.int .u64 ((tot : Nat) : Int))]) (hs : H[is]? = some (some ⟨true, [.ints .u32 8 q0.s]⟩)) (n3 : ir ≠ is) : AMut Tryz.prog 158 H [.s (.ptr ir (0 + 0) 0)] (.agg [.ints .u8 32 (sumL q0 tot)]) (forget [is] H ++ []) := by
  refine amut_gen3 (args0 := [.s (.ptr 0 0 0)]) (H0 := [some ⟨false, [.one (.ptr 1 0 0), .ints .u8 64 (q0).b, .one (.int .i64 ((q0).m : Nat)), .one (.int .u64 ((tot : Nat) : Int))]⟩, some ⟨true, [.ints .u32 8 q0.s]⟩]) (Hf := [none, none]) (v0 := .agg [.ints .u8 32 (sumL q0 tot)]) [(ir, 0), (is, 0)] [] 1 (Nat.le_of_ble_eq_true rfl) Tryz.func158 rfl Tryz.ntmps158 (by simp) rfl
    (fun k id' sh' b0 h1 h2 => by
      match k, h1, h2 with
      | 0, h1, h2 => simp at h1 h2; obtain ⟨rfl, rfl⟩ := h1; subst h2; exact ⟨rfl, _, hr, fun e => (by cases e), foot_same hrs⟩
      | 1, h1, h2 => simp at h1 h2; obtain ⟨rfl, rfl⟩ := h1; subst h2; exact ⟨rfl, _, hs, fun _ => ⟨rfl, rfl⟩, foot_same rfl⟩
      | k + 2, h1, _ => simp at h1)
    (fun k k' id' s1 s2 b0 h1 h1' hne h2 => by
      match k, k', h1, h1', h2, hne with
      | 0, _, _, _, h2, _ => simp at h2; subst h2; rfl
      | 1, 0, h1, h1', _, _ => simp at h1 h1'; exact absurd (h1'.1.trans h1.1.symm) n3
      | 1, 1, _, _, _, hne => exact absurd rfl hne
      | 1, k + 2, _, h1', _, _ => simp at h1'
      | k + 2, _, h1, _, _, _ => simp at h1)
    (fun W ρ vals w hH ha k id' sh' hk => by
      match k, hk with
      | 0, hk => simp at hk; obtain ⟨rfl, rfl⟩ := hk; exact live_ptr (i := 0) ha rfl
      | 1, hk => simp at hk; obtain ⟨rfl, rfl⟩ := hk; exact live_in (p := 0) hH (live_ptr (i := 0) ha rfl) hr (by rw [hrs]; rfl)
      | k + 2, hk => simp at hk)
    rfl rfl rfl (by decide) rfl rfl rfl (fun W w' ρ0 hW hdom => ?_)
  have hqm := hq0.m
  refine w_seq ?_
  refine c_reg (by kernel_rfl) rfl ?_
  refine s_a (h_alloc (segs := [.ints .u8 32 (z 32)]) Tryz.zeroValue38 (by kernel_rfl) rfl) rfl ?_
  refine s_nil ?_
  refine n_wp ?_
  refine w_seq ?_
  refine w_seq ?_
  refine c_reg (by kernel_rfl) rfl ?_
  refine s_p (by first | exact h_move (v := .s _) rfl | exact h_move (v := .agg _) rfl | exact h_move (v := .tup _) rfl) ?_
  refine s_p (h_eqn rfl rfl Tryz.underlying293) ?_
  refine s_p (by first | exact h_move (v := .s _) rfl | exact h_move (v := .agg _) rfl | exact h_move (v := .tup _) rfl) ?_
  first | refine s_on rfl rfl (by first | rfl | assumption) (by first | exact h_move (v := .s _) rfl | exact h_move (v := .agg _) rfl | exact h_move (v := .tup _) rfl) ?_ | refine s_off rfl rfl (by first | rfl | assumption) ?_
  first | refine s_on rfl rfl (by first | rfl | assumption) (h_nilCheck rfl) ?_ | refine s_off rfl rfl (by first | rfl | assumption) ?_
  first | refine s_on rfl rfl (by first | rfl | assumption) (h_field rfl Tryz.underlying394 rfl Tryz.sizeOf388 (by decide)) ?_ | refine s_off rfl rfl (by first | rfl | assumption) ?_
  first | refine s_on rfl rfl (by first | rfl | assumption) (by first | exact h_load_ints rfl rfl rfl (by omega) rfl Tryz.isAgg388 | exact h_load_one rfl rfl rfl Tryz.isAgg388) ?_ | refine s_off rfl rfl (by first | rfl | assumption) ?_
  first | refine s_on rfl rfl (by first | rfl | assumption) (h_eqn rfl rfl Tryz.underlying388) ?_ | refine s_off rfl rfl (by first | rfl | assumption) ?_
  refine s_p (by first | exact h_pick_t rfl (by first | rfl | assumption) rfl | exact h_pick_f rfl (by first | rfl | assumption) rfl) ?_
  refine s_nil ?_
  refine n_wp ?_
  refine w_cond rfl (fun hc_t16 => ?_) (fun hc_t16 => ?_)
  · exact absurd hc_t16 (by simp)
  refine w_skip ?_
  refine n_wp ?_
  refine w_seq ?_
  refine c_reg (by kernel_rfl) rfl ?_
  refine s_p (by first | exact h_move (v := .s _) rfl | exact h_move (v := .agg _) rfl | exact h_move (v := .tup _) rfl) ?_
  refine s_p (h_nilCheck rfl) ?_
  refine s_p (by first | exact h_load_agg rfl rfl (.whole rfl) Tryz.isAgg394 Tryz.sizeOf394 | exact h_load_agg rfl rfl (.seg rfl rfl) Tryz.isAgg394 Tryz.sizeOf394 | exact h_load_agg rfl rfl (.ints rfl (by omega)) Tryz.isAgg394 Tryz.sizeOf394) ?_
  refine s_a (h_alloc (segs := [.one .nilp, .ints .u8 64 (z 64), .one (.int .i64 0), .one (.int .u64 0)]) Tryz.zeroValue394 (by kernel_rfl) rfl) rfl ?_
  refine s_st (by first | exact m_store_agg rfl rfl rfl (.whole (Nat.le_of_ble_eq_true rfl) rfl rfl) Tryz.sizeOf394 rfl | exact m_store_agg rfl rfl rfl (.seg (Nat.le_of_ble_eq_true rfl) rfl rfl rfl) Tryz.sizeOf394 rfl | exact m_store_agg rfl rfl rfl (.ints (Nat.le_of_ble_eq_true rfl) rfl (by omega)) Tryz.sizeOf394 rfl) ?_
  refine s_nil ?_
  refine n_wp ?_
  refine w_seq ?_
  refine c_reg (by kernel_rfl) rfl ?_
  refine s_p (by first | exact h_move (v := .s _) rfl | exact h_move (v := .agg _) rfl | exact h_move (v := .tup _) rfl) ?_
  refine s_p (h_nilCheck rfl) ?_
  refine s_p (h_field rfl Tryz.underlying394 rfl Tryz.sizeOf392 (by decide)) ?_
  refine s_p (h_field rfl Tryz.underlying392 rfl Tryz.sizeOf3 (by decide)) ?_
  refine s_p (by first | exact h_load_ints rfl rfl rfl (by omega) rfl Tryz.isAgg3 | exact h_load_one rfl rfl rfl Tryz.isAgg3) ?_
  refine s_p (h_bin rfl rfl (b_sub (r := ((119 - q0.m : Nat) : Int)) (wr_n (by omega) (by omega)))) ?_
  refine s_p (h_bin rfl rfl (b_rem (r := (((119 - q0.m) % 64 : Nat) : Int)) (by omega) rfl)) ?_
  refine s_a (h_make (l := (119 - q0.m) % 64) (c := (119 - q0.m) % 64) rfl rfl (Nat.le_refl _) (by rw [show Tryz.t5.bytes = 1 from rfl]; omega) (by omega) Tryz.underlying49 infoB5 rfl rfl rfl) rfl ?_
  refine s_p (by first | exact h_assign (v := .s _) rfl | exact h_assign (v := .agg _) rfl | exact h_assign (v := .tup _) rfl) ?_
  refine s_nil ?_
  refine n_wp ?_
  refine w_seq ?_
  refine c_reg (by kernel_rfl) rfl ?_
  refine s_a (h_bsli1 rfl Tryz.underlying49 Tryz.sizeOf5 Tryz.zeroValue5 rfl rfl) rfl ?_
  refine s_p (by first | exact h_move (v := .s _) rfl | exact h_move (v := .agg _) rfl | exact h_move (v := .tup _) rfl) ?_
  refine s_p (by first | exact h_move (v := .s _) rfl | exact h_move (v := .agg _) rfl | exact h_move (v := .tup _) rfl) ?_
  refine s_p (h_nilCheck rfl) ?_
  refine s_p (h_field rfl Tryz.underlying394 rfl Tryz.sizeOf32 (by decide)) ?_
  refine s_p (by first | exact h_load_ints rfl rfl rfl (by omega) rfl Tryz.isAgg32 | exact h_load_one rfl rfl rfl Tryz.isAgg32) ?_
  refine s_p (h_bin rfl rfl (b_mul rfl)) ?_
  refine s_a (h_call callable_112 rfl (Put_n _ 8 _ (by omega))) rfl ?_
  refine s_a (h_bsls3 rfl rfl rfl (by simp) (by simp) (by simp) Tryz.underlying289 Tryz.sizeOf49 Tryz.zeroValue49 rfl rfl) rfl ?_
  refine s_m (m_call callable_221 rfl (takes3 _ 3 7 1 q0 tot [128] 1 1 _ _ _ _ _ _ _ hq0 (by omega) rfl rfl rfl 5 0 _ rfl (by omega) (by omega) rfl (fun i y hy => by rw [Nat.zero_add]; exact hy) 4 0 _ List.length_replicate (Nat.le_refl _) (by omega) rfl (fun i y hy => by rw [Nat.zero_add]; exact hy) 6 0 _ (rr_len _ _ _ _ _) (Nat.le_refl _) (by omega) rfl (fun i y hy => by rw [Nat.zero_add]; exact hy) rfl (by decide) (by decide) (by decide) (by decide) (by decide) (by decide) (by decide) (by decide) (by decide))) ?_
  refine s_nil ?_
  refine n_wp ?_
  refine w_seq ?_
  refine c_reg (by kernel_rfl) rfl ?_
  refine s_p (h_asl_h (h := 0) rfl rfl rfl Tryz.underlying38 Tryz.sizeOf5 (by omega) (by omega)) ?_
  refine s_p (by first | exact h_assign (v := .s _) rfl | exact h_assign (v := .agg _) rfl | exact h_assign (v := .tup _) rfl) ?_
  refine s_nil ?_
  refine n_wp ?_
  refine w_seq ?_
  refine w_seq ?_
  refine c_reg (by kernel_rfl) rfl ?_
  refine s_p (h_field rfl Tryz.underlying394 rfl Tryz.sizeOf388 (by decide)) ?_
  refine s_p (by first | exact h_load_ints rfl rfl rfl (by omega) rfl Tryz.isAgg388 | exact h_load_one rfl rfl rfl Tryz.isAgg388) ?_
  refine s_p (by first | exact h_move (v := .s _) rfl | exact h_move (v := .agg _) rfl | exact h_move (v := .tup _) rfl) ?_
  refine s_nil ?_
  refine n_wp ?_
  refine w_block ?_
  refine c_loop (JS (z 32) (sumQ q0 tot).s) 8 ⟨0, by omega, rfl, .inl ⟨rfl, rfl, rfl⟩⟩ (weakR' [0, 2, 8] rfl (by decide) rfl (by repeat (first | exact trivial | refine ⟨⟨_, _, rfl, rfl, rfl, rfl, rfl⟩, ?_⟩)) (by repeat (first | exact trivial | refine ⟨⟨rfl, rfl⟩, ?_⟩))) ?_
  rintro n T H ⟨i, hi, rfl, ⟨rfl, rfl, rfl⟩ | ⟨h0, rfl, rfl⟩⟩
  · skip
    refine w_seq ?_
    refine c_reg (by kernel_rfl) rfl ?_
    refine s_p (h_bin rfl rfl (b_lss rfl)) ?_
    refine s_nil ?_
    refine n_wp ?_
    refine w_seq ?_
    refine w_cond rfl (fun hc_t43 => ?_) (fun hc_t43 => ?_)
    rotate_left
    · exact absurd hc_t43 (by simp at hc_t43)
    refine w_skip ?_
    refine n_wp ?_
    refine w_seq ?_
    refine w_block ?_
    refine w_seq ?_
    refine c_reg (by kernel_rfl) rfl ?_
    refine s_p (h_nilCheck rfl) ?_
    refine s_p (h_ixl 0 rfl rfl rfl Tryz.underlying390 Tryz.sizeOf41 (by omega)) ?_
    refine s_p (by first | exact h_load_ints rfl rfl rfl (by omega) rfl Tryz.isAgg41 | exact h_load_one rfl rfl rfl Tryz.isAgg41) ?_
    refine s_p (by first | exact h_assign (v := .s _) rfl | exact h_assign (v := .agg _) rfl | exact h_assign (v := .tup _) rfl) ?_
    refine s_nil ?_
    refine n_wp ?_
    refine c_reg (by kernel_rfl) rfl ?_
    refine s_p (by first | exact h_move (v := .s _) rfl | exact h_move (v := .agg _) rfl | exact h_move (v := .tup _) rfl) ?_
    refine s_p (by first | exact h_move (v := .s _) rfl | exact h_move (v := .agg _) rfl | exact h_move (v := .tup _) rfl) ?_
    refine s_p (h_conv rfl Tryz.underlying41 Tryz.underlying32 rfl) ?_
    refine s_a (h_call callable_112 rfl (Put_s _ 1 0 0 32 4 4 _ [] _ rfl (by omega) (by omega) rfl (fun i y hy => absurd (atS_ints1 hy).1 (by omega)) (by omega) rfl)) rfl ?_
    refine s_p (by first | exact h_assign (v := .s _) rfl | exact h_assign (v := .agg _) rfl | exact h_assign (v := .tup _) rfl) ?_
    refine s_nil ?_
    refine n_blo ?_
    refine n_wp ?_
    refine c_reg (by kernel_rfl) rfl ?_
    refine s_p (by first | exact h_bin rfl rfl (b_add (Go.IntWalk.i64_in _ (by omega))) | exact h_bin rfl rfl (b_add rfl)) ?_
    refine s_p (by first | exact h_move (v := .s _) rfl | exact h_move (v := .agg _) rfl | exact h_move (v := .tup _) rfl) ?_
    refine s_nil ?_
    exact n_round 7 (by omega) ⟨1, by omega, rfl, .inr ⟨by omega, rfl, rfl⟩⟩ (weakR' [0, 1, 2, 3] rfl (by decide) rfl (by repeat (first | exact trivial | refine ⟨⟨_, _, rfl, rfl, rfl, rfl, rfl⟩, ?_⟩)) (by repeat (first | exact trivial | refine ⟨⟨rfl, rfl⟩, ?_⟩)))
  · skip
    refine w_seq ?_
    refine c_reg (by kernel_rfl) rfl ?_
    refine s_p (h_bin rfl rfl (b_lss rfl)) ?_
    refine s_nil ?_
    refine n_wp ?_
    refine w_seq ?_
    refine w_cond rfl (fun hc_t43 => ?_) (fun hc_t43 => ?_)
    · skip
      have hlt : i < 8 := by have := of_decide_eq_true hc_t43; omega
      refine w_skip ?_
      refine n_wp ?_
      refine w_seq ?_
      refine w_block ?_
      refine w_seq ?_
      refine c_reg (by kernel_rfl) rfl ?_
      refine s_p (h_nilCheck rfl) ?_
      refine s_p (h_ixl i rfl rfl rfl Tryz.underlying390 Tryz.sizeOf41 (by omega)) ?_
      refine s_p (by first | exact h_load_ints rfl rfl rfl (by omega) rfl Tryz.isAgg41 | exact h_load_one rfl rfl rfl Tryz.isAgg41) ?_
      refine s_p (by first | exact h_assign (v := .s _) rfl | exact h_assign (v := .agg _) rfl | exact h_assign (v := .tup _) rfl) ?_
      refine s_nil ?_
      refine n_wp ?_
      refine c_reg (by kernel_rfl) rfl ?_
      refine s_p (by first | exact h_move (v := .s _) rfl | exact h_move (v := .agg _) rfl | exact h_move (v := .tup _) rfl) ?_
      refine s_p (by first | exact h_move (v := .s _) rfl | exact h_move (v := .agg _) rfl | exact h_move (v := .tup _) rfl) ?_
      refine s_p (h_conv rfl Tryz.underlying41 Tryz.underlying32 rfl) ?_
      refine s_a (h_call callable_112 rfl (Put_s _ 3 0 (4 * i) (4 * i) 4 (4 * i + 4) _ _ _ (ob_len _ _) (Nat.le_refl _) (by omega) rfl (fun i y hy => by rw [Nat.zero_add]; exact hy) (by omega) rfl)) rfl ?_
      refine s_p (by first | exact h_assign (v := .s _) rfl | exact h_assign (v := .agg _) rfl | exact h_assign (v := .tup _) rfl) ?_
      refine s_nil ?_
      refine n_blo ?_
      refine n_wp ?_
      refine c_reg (by kernel_rfl) rfl ?_
      refine s_p (by first | exact h_bin rfl rfl (b_add (Go.IntWalk.i64_in _ (by omega))) | exact h_bin rfl rfl (b_add rfl)) ?_
      refine s_p (by first | exact h_move (v := .s _) rfl | exact h_move (v := .agg _) rfl | exact h_move (v := .tup _) rfl) ?_
      refine s_nil ?_
      exact n_round (8 - (i + 1)) (by omega) ⟨i + 1, by omega, rfl, .inr ⟨by omega, rfl, rfl⟩⟩ (weakR' [0, 1, 2, 4] rfl (by decide) rfl (by repeat (first | exact trivial | refine ⟨⟨_, _, rfl, rfl, rfl, rfl, rfl⟩, ?_⟩)) (by repeat (first | exact trivial | refine ⟨⟨rfl, rfl⟩, ?_⟩)))
    · skip
      have hi8 : i = 8 := by have := of_decide_eq_false hc_t43; omega
      subst hi8
      refine w_exit ?_
      refine x_thn ?_
      refine x_thn ?_
      refine x_eq ?_
      refine n_wp ?_
      refine w_seq ?_
      refine c_reg (by kernel_rfl) rfl ?_
      refine s_p (h_asl_0 rfl Tryz.underlying38 Tryz.sizeOf5 (by omega)) ?_
      refine s_p (by first | exact h_move (v := .s _) rfl | exact h_move (v := .agg _) rfl | exact h_move (v := .tup _) rfl) ?_
      refine s_m (m_copy (n := 32) rfl rfl rfl rfl rfl (ob_len _ _) (by omega) (by omega) Tryz.underlying49 Tryz.sizeOf5 (.ints (by omega) rfl (by omega))) ?_
      refine s_nil ?_
      refine n_wp ?_
      refine w_seq ?_
      refine c_reg (by kernel_rfl) rfl ?_
      refine s_p (by first | exact h_load_agg rfl rfl (.whole rfl) Tryz.isAgg38 Tryz.sizeOf38 | exact h_load_agg rfl rfl (.seg rfl rfl) Tryz.isAgg38 Tryz.sizeOf38 | exact h_load_agg rfl rfl (.ints rfl (by omega)) Tryz.isAgg38 Tryz.sizeOf38) ?_
      refine s_st (by first | exact m_store_agg rfl rfl rfl (.whole (Nat.le_of_ble_eq_true rfl) rfl rfl) Tryz.sizeOf38 rfl | exact m_store_agg rfl rfl rfl (.seg (Nat.le_of_ble_eq_true rfl) rfl rfl rfl) Tryz.sizeOf38 rfl | exact m_store_agg rfl rfl rfl (.ints (Nat.le_of_ble_eq_true rfl) rfl (by omega)) Tryz.sizeOf38 rfl) ?_
      refine s_nil ?_
      refine n_wp ?_
      refine w_ret ?_
      exact doneM (by repeat (first | exact trivial | refine ⟨rfl, ?_⟩)) (ret_cell_agg Tryz.results158 rfl rfl (.whole rfl) Tryz.isAgg38 Tryz.sizeOf38)
end Go.Proofs.X
end
