/- A part of the proofs of this claim: MacA (MacSpec, MacW1). No conditions. -/
import Derived.Test.YtffflnpidipheaaShaC
import Derived.Test.YtffflnpidipheaaAbC
set_option linter.unusedVariables false
set_option linter.unusedSimpArgs false
section
/- What a sum by a key is, on lists. -/
open Go Go.Ab Go.Proofs
namespace Go.Proofs.X
def xk (k : List Int) (v : Int) : Nat → List Int
  | 0 => k
  | i + 1 => (xk k v i).set i (xorK .u8 ((xk k v i).getD i 0) v)
theorem xk_len (k : List Int) (v : Int) (i : Nat) : (xk k v i).length = k.length := by
  induction i with
  | zero => rfl
  | succ i ih => simp [xk, ih]
def k64 (K : List Int) : List Int := spl (z 64) ((K.drop 0).take 32) (0 + 0) 32 64
theorem k64_len (K : List Int) : (k64 K).length = 64 := spl_len _ _ _ _ _
def hmI (K : List Int) : Run := tk run0 (xk (k64 K) 54 64)
def hmO (K : List Int) (q : Run) (tot : Nat) : List Int := sumL (tk (tk run0 (xk (k64 K) 92 64)) (sumL q tot)) 96
theorem hmO_len (K : List Int) (q : Run) (tot : Nat) : (hmO K q tot).length = 32 := sumL_len _ _
theorem hmI_ok (K : List Int) : RunOk (hmI K) := tk_ok run0_ok _
end Go.Proofs.X
end

section
open Go Go.Ab Go.Proofs
namespace Go.Proofs.X
theorem callable_55 : Callable Try.prog 55 := ⟨_, Try.func55, by kernel_rfl, rfl⟩
theorem callable_31 : Callable Try.prog 31 := ⟨_, Try.func31, by kernel_rfl, rfl⟩
def I55 (K : List Int) (v : Int) (n : Nat) (T : Tm) (H : Heap) : Prop := ∃ i, i ≤ 64 ∧ n = 64 - i ∧ T = [(0, .s (.int .u8 v)), (4, .s (.ptr 1 0 0)), (7, .s (.int .i64 ((i : Nat) : Int)))] ∧ H = [some ⟨false, [.ints .u8 64 K]⟩, some ⟨true, [.ints .u8 64 (xk K v i)]⟩]
set_option maxRecDepth 100000 in
set_option maxHeartbeats 2000000 in
theorem macBy_c (H : Heap) (ik : Nat) (K : List Int) (v : Int) (bk : Blk) (hK : K.length = 64) (hky : H[ik]? = some (some bk)) (hkys : bk.segs = [.ints .u8 64 K]) : ACall Try.prog 55 H [.s (.int .u8 v), .s (.ptr ik (0 + 0) 0)] (.s (.slice (H.length + 0) (0 + 0) 0 64 64)) [⟨true, [.ints .u8 64 (xk K v 64)]⟩] := by
  refine acall_gen2 (args0 := [.s (.int .u8 v), .s (.ptr 0 0 0)]) (H0 := [some ⟨false, [.ints .u8 64 K]⟩]) (Hf := [none, some ⟨true, [.ints .u8 64 (xk K v 64)]⟩]) (v0 := .s (.slice 1 0 0 64 64)) [(ik, 0)] [1] Try.func55 rfl Try.ntmps55 (by simp) rfl
    (fun k id' sh' b0 h1 h2 => by
      match k, h1, h2 with
      | 0, h1, h2 => simp at h1 h2; obtain ⟨rfl, rfl⟩ := h1; subst h2; exact ⟨rfl, rfl, _, hky, foot_same hkys⟩
      | k + 1, h1, _ => simp at h1)
    (fun W ρ vals w hH ha k id' sh' hk => by
      match k, hk with
      | 0, hk => simp at hk; obtain ⟨rfl, rfl⟩ := hk; exact ⟨(List.getElem?_eq_some_iff.1 hky).1, live_ptr (i := 1) ha rfl⟩
      | k + 1, hk => simp at hk)
    rfl rfl rfl (by decide) rfl rfl rfl (fun W w ρ0 hW hdom => ?_)
  refine w_seq ?_
  refine c_reg (by kernel_rfl) rfl ?_
  refine s_p (by first | exact h_assign (v := .s _) rfl | exact h_assign (v := .agg _) rfl | exact h_assign (v := .tup _) rfl) ?_
  refine s_nil ?_
  refine n_wp ?_
  refine w_seq ?_
  refine c_reg (by kernel_rfl) rfl ?_
  refine s_p (by first | exact h_load_agg rfl rfl (.whole rfl) Try.isAgg112 Try.sizeOf112 | exact h_load_agg rfl rfl (.seg rfl rfl) Try.isAgg112 Try.sizeOf112 | exact h_load_agg rfl rfl (.ints rfl (by omega)) Try.isAgg112 Try.sizeOf112) ?_
  refine s_a (h_alloc (segs := [.ints .u8 64 (z 64)]) Try.zeroValue112 (by kernel_rfl) rfl) rfl ?_
  refine s_st (by first | exact m_store_agg rfl rfl rfl (.whole (Nat.le_of_ble_eq_true rfl) rfl rfl) Try.sizeOf112 rfl | exact m_store_agg rfl rfl rfl (.seg (Nat.le_of_ble_eq_true rfl) rfl rfl rfl) Try.sizeOf112 rfl | exact m_store_agg rfl rfl rfl (.ints (Nat.le_of_ble_eq_true rfl) rfl (by omega)) Try.sizeOf112 rfl) ?_
  refine s_nil ?_
  refine n_wp ?_
  refine w_seq ?_
  refine w_seq ?_
  refine c_reg (by kernel_rfl) rfl ?_
  refine s_p (by first | exact h_move (v := .s _) rfl | exact h_move (v := .agg _) rfl | exact h_move (v := .tup _) rfl) ?_
  refine s_nil ?_
  refine n_wp ?_
  refine w_block ?_
  refine c_loop (I55 K v) 64 ⟨0, by omega, rfl, rfl, rfl⟩ (weak' (by repeat (first | exact trivial | refine ⟨rfl, ?_⟩)) rfl rfl (Nat.le_of_ble_eq_true rfl)) ?_
  rintro n T H ⟨i, hi, rfl, rfl, rfl⟩
  refine w_seq ?_
  refine c_reg (by kernel_rfl) rfl ?_
  refine s_p (h_bin rfl rfl (b_lss rfl)) ?_
  refine s_nil ?_
  refine n_wp ?_
  refine w_seq ?_
  refine w_cond rfl (fun hc_t8 => ?_) (fun hc_t8 => ?_)
  · skip
    have hlt : i < 64 := by have := of_decide_eq_true hc_t8; omega
    refine w_skip ?_
    refine n_wp ?_
    refine w_seq ?_
    refine w_block ?_
    refine w_seq ?_
    refine c_reg (by kernel_rfl) rfl ?_
    refine s_p (by first | exact h_move (v := .s _) rfl | exact h_move (v := .agg _) rfl | exact h_move (v := .tup _) rfl) ?_
    refine s_p (by first | exact h_assign (v := .s _) rfl | exact h_assign (v := .agg _) rfl | exact h_assign (v := .tup _) rfl) ?_
    refine s_nil ?_
    refine n_wp ?_
    refine c_reg (by kernel_rfl) rfl ?_
    refine s_p (by first | exact h_move (v := .s _) rfl | exact h_move (v := .agg _) rfl | exact h_move (v := .tup _) rfl) ?_
    refine s_p (by first | exact h_ix rfl rfl Try.underlying112 Try.sizeOf5 (by omega) | exact h_ixa rfl rfl Try.underlying112 Try.sizeOf5 (by omega) | exact h_ixl (Int.toNat _) rfl rfl (Int.toNat_of_nonneg (by omega)).symm Try.underlying112 Try.sizeOf5 (by omega)) ?_
    refine s_p (by first | exact h_load_ints rfl rfl rfl (by omega) rfl Try.isAgg5 | exact h_load_one rfl rfl rfl Try.isAgg5) ?_
    refine s_p (by first | exact h_move (v := .s _) rfl | exact h_move (v := .agg _) rfl | exact h_move (v := .tup _) rfl) ?_
    refine s_p (h_bin rfl rfl (b_xor rfl)) ?_
    refine s_p (by first | exact h_ix rfl rfl Try.underlying112 Try.sizeOf5 (by omega) | exact h_ixa rfl rfl Try.underlying112 Try.sizeOf5 (by omega) | exact h_ixl (Int.toNat _) rfl rfl (Int.toNat_of_nonneg (by omega)).symm Try.underlying112 Try.sizeOf5 (by omega)) ?_
    refine s_st (by first | exact m_store_int rfl rfl rfl rfl (by omega) (by (rw [xk_len, hK])) Try.sizeOf5 rfl | exact m_store_one rfl rfl (by simp) rfl rfl Try.sizeOf5 rfl) ?_
    refine s_nil ?_
    refine n_blo ?_
    refine n_wp ?_
    refine c_reg (by kernel_rfl) rfl ?_
    refine s_p (by first | exact h_bin rfl rfl (b_add (Go.IntWalk.i64_in _ (by omega))) | exact h_bin rfl rfl (b_add rfl)) ?_
    refine s_p (by first | exact h_move (v := .s _) rfl | exact h_move (v := .agg _) rfl | exact h_move (v := .tup _) rfl) ?_
    refine s_nil ?_
    exact n_round (64 - (i + 1)) (by omega) ⟨i + 1, by omega, rfl, rfl, rfl⟩ (weak' (by repeat (first | exact trivial | refine ⟨rfl, ?_⟩)) rfl rfl (Nat.le_of_ble_eq_true rfl))
  · skip
    have hi : i = 64 := by have := of_decide_eq_false hc_t8; omega
    subst hi
    refine w_exit ?_
    refine x_thn ?_
    refine x_thn ?_
    refine x_eq ?_
    refine n_wp ?_
    refine w_seq ?_
    refine c_reg (by kernel_rfl) rfl ?_
    refine s_p (h_asl_0 rfl Try.underlying112 Try.sizeOf5 (by omega)) ?_
    refine s_p (by first | exact h_assign (v := .s _) rfl | exact h_assign (v := .agg _) rfl | exact h_assign (v := .tup _) rfl) ?_
    refine s_nil ?_
    refine n_wp ?_
    refine w_ret ?_
    exact doneM (by repeat (first | exact trivial | refine ⟨rfl, ?_⟩)) (ret_tmp Try.results55 rfl)
def JMmac1 (K : List Int) (B0 : List Int) (len0 cap0 : Nat) (n : Nat) (T : Tm) (H : Heap) : Prop := ∃ (i : Nat) (q : Run) (t : Nat), i ≤ 1 ∧ n = 1 - i ∧ (i = 0 → q = hmI K ∧ t = 64) ∧ (i = 1 → q = tk (hmI K) B0 ∧ t = 64 + len0) ∧ RunOk q ∧
  T = [(4, .s (.ptr 3 0 0)), (7, .s (.clo 55 [(4, 0, 0)])), (8, .s (.ptr 5 0 0)), (9, .s (.ptr 7 0 0)), (29, .s (.slice 1 0 0 1 1)), (30, .s (.int .i64 1)), (31, .s (.int .i64 ((i : Nat) : Int)))] ∧
  H = [some ⟨false, [.ints .u8 32 K]⟩, some ⟨false, [.one (.slice 2 0 0 len0 cap0)]⟩, some ⟨false, [.ints .u8 len0 B0]⟩, some ⟨true, [.ints .u8 32 (z 32)]⟩, some ⟨true, [.ints .u8 64 (k64 K)]⟩, some ⟨true, [.one (.ptr 6 0 0), .ints .u8 64 (q).b, .one (.int .i64 ((q).m : Nat)), .one (.int .u64 ((t : Nat) : Int))]⟩, some ⟨true, [.ints .u32 8 (q).s]⟩, some ⟨true, [.one (.ptr 8 0 0), .ints .u8 64 (run0).b, .one (.int .i64 ((run0).m : Nat)), .one (.int .u64 ((0 : Nat) : Int))]⟩, some ⟨true, [.ints .u32 8 (run0).s]⟩]
set_option maxRecDepth 100000 in
set_option maxHeartbeats 2000000 in
theorem mac1 (H : Heap) (ik sk ck ip : Nat) (K : List Int) (bk bp : Blk) (B0 : List Int) (len0 cap0 : Nat) (hK : K.length = 32) (hck : 32 ≤ ck) (hky : H[ik]? = some (some bk)) (hkys : ∀ (i : Nat) (y : SV), atS [.ints .u8 32 K] i = some y → atS bk.segs (sk + i) = some y) (hp : H[ip]? = some (some bp)) (id0 sh0 : Nat) (bd0 : Blk) (hBl0 : B0.length = len0) (hcap0 : len0 ≤ cap0) (hlen0 : len0 ≤ 100000000) (hd0 : H[id0]? = some (some bd0)) (hd0s : ∀ (i : Nat) (y : SV), atS [.ints .u8 len0 B0] i = some y → atS bd0.segs (sh0 + i) = some y) (hps : bp.segs = [.one (.slice id0 (0 + sh0) 0 len0 cap0)]) : ACall Try.prog 31 H [.s (.slice ik (0 + sk) 0 32 ck), .s (.slice ip (0 + 0) 0 1 1)] (.agg [.ints .u8 32 (hmO K (tk (hmI K) B0) (64 + len0))]) [] := by
  refine acall_gen2 (args0 := [.s (.slice 0 0 0 32 ck), .s (.slice 1 0 0 1 1)]) (H0 := [some ⟨false, [.ints .u8 32 K]⟩, some ⟨false, [.one (.slice 2 0 0 len0 cap0)]⟩, some ⟨false, [.ints .u8 len0 B0]⟩]) (Hf := []) (v0 := .agg [.ints .u8 32 (hmO K (tk (hmI K) B0) (64 + len0))]) [(ik, sk), (ip, 0), (id0, sh0)] [] Try.func31 rfl Try.ntmps31 (by simp) rfl
    (fun k id' sh' b0 h1 h2 => by
      match k, h1, h2 with
      | 0, h1, h2 => simp at h1 h2; obtain ⟨rfl, rfl⟩ := h1; subst h2; exact ⟨rfl, rfl, _, hky, fun i y hy => by (have h := hkys i y hy; obtain ⟨_, rfl⟩ := atS_ints1 hy; exact h)⟩
      | 1, h1, h2 => simp at h1 h2; obtain ⟨rfl, rfl⟩ := h1; subst h2; exact ⟨rfl, rfl, _, hp, foot_same hps⟩
      | 2, h1, h2 => simp at h1 h2; obtain ⟨rfl, rfl⟩ := h1; subst h2; exact ⟨rfl, rfl, _, hd0, fun i y hy => by (have h := hd0s i y hy; obtain ⟨_, rfl⟩ := atS_ints1 hy; exact h)⟩
      | k + 3, h1, _ => simp at h1)
    (fun W ρ vals w hH ha k id' sh' hk => by
      match k, hk with
      | 0, hk => simp at hk; obtain ⟨rfl, rfl⟩ := hk; exact ⟨(List.getElem?_eq_some_iff.1 hky).1, live_slice (i := 0) ha rfl⟩
      | 1, hk => simp at hk; obtain ⟨rfl, rfl⟩ := hk; exact ⟨(List.getElem?_eq_some_iff.1 hp).1, live_slice (i := 1) ha rfl⟩
      | 2, hk => simp at hk; obtain ⟨rfl, rfl⟩ := hk; exact ⟨(List.getElem?_eq_some_iff.1 hd0).1, live_in_slice (p := 0) hH (live_slice (i := 1) ha rfl) hp (by rw [hps]; rfl)⟩
      | k + 3, hk => simp at hk)
    rfl rfl rfl (by decide) rfl rfl rfl (fun W w ρ0 hW hdom => ?_)
  refine w_seq ?_
  refine c_reg (by kernel_rfl) rfl ?_
  refine s_a (h_alloc (segs := [.ints .u8 32 (z 32)]) Try.zeroValue44 (by kernel_rfl) rfl) rfl ?_
  refine s_nil ?_
  refine n_wp ?_
  refine w_seq ?_
  refine c_reg (by kernel_rfl) rfl ?_
  refine s_a (h_alloc (segs := [.ints .u8 64 (z 64)]) Try.zeroValue112 (by kernel_rfl) rfl) rfl ?_
  refine s_nil ?_
  refine n_wp ?_
  refine w_seq ?_
  refine w_seq ?_
  refine c_reg (by kernel_rfl) rfl ?_
  refine s_p (by first | exact h_move (v := .s _) rfl | exact h_move (v := .agg _) rfl | exact h_move (v := .tup _) rfl) ?_
  refine s_p (by first | exact h_len rfl Try.underlying29 | exact h_len_nil rfl Try.underlying29 | exact h_len_val rfl Try.underlying29) ?_
  refine s_p (h_bin rfl rfl (b_gtr rfl)) ?_
  refine s_nil ?_
  refine n_wp ?_
  refine w_cond rfl (fun hc_t15 => ?_) (fun hc_t15 => ?_)
  · exact absurd hc_t15 (by simp)
  refine w_skip ?_
  refine n_wp ?_
  refine w_seq ?_
  refine c_reg (by kernel_rfl) rfl ?_
  refine s_p (h_asl_0 rfl Try.underlying112 Try.sizeOf5 (by omega)) ?_
  refine s_p (by first | exact h_move (v := .s _) rfl | exact h_move (v := .agg _) rfl | exact h_move (v := .tup _) rfl) ?_
  refine s_m (m_copy (n := 32) rfl rfl rfl rfl rfl hK (by omega) (by omega) Try.underlying29 Try.sizeOf5 (.ints (by omega) rfl (by omega))) ?_
  refine s_nil ?_
  refine n_wp ?_
  refine w_seq ?_
  refine c_reg (by kernel_rfl) rfl ?_
  refine s_p (h_mkfunc (caps := [(4, 0, 0)]) rfl) ?_
  refine s_p (by first | exact h_assign (v := .s _) rfl | exact h_assign (v := .agg _) rfl | exact h_assign (v := .tup _) rfl) ?_
  refine s_nil ?_
  refine n_wp ?_
  refine w_seq ?_
  refine c_reg (by kernel_rfl) rfl ?_
  refine s_nb (h_call callable_56 rfl (New_c _)) rfl ?_
  refine s_nb (h_call callable_56 rfl (New_c _)) rfl ?_
  refine s_p (by first | exact h_assign (v := .s _) rfl | exact h_assign (v := .agg _) rfl | exact h_assign (v := .tup _) rfl) ?_
  refine s_p (by first | exact h_assign (v := .s _) rfl | exact h_assign (v := .agg _) rfl | exact h_assign (v := .tup _) rfl) ?_
  refine s_nil ?_
  refine n_wp ?_
  refine w_seq ?_
  refine c_reg (by kernel_rfl) rfl ?_
  refine s_p (by first | exact h_move (v := .s _) rfl | exact h_move (v := .agg _) rfl | exact h_move (v := .tup _) rfl) ?_
  refine s_p (by first | exact h_move (v := .s _) rfl | exact h_move (v := .agg _) rfl | exact h_move (v := .tup _) rfl) ?_
  refine s_a (h_callc callable_55 rfl rfl (macBy_c _ 4 (k64 K) 54 _ (k64_len _) rfl rfl)) rfl ?_
  refine s_m (m_call callable_57 rfl (Write_s _ 6 9 5 0 run0 0 (xk (k64 K) 54 64) 64 64 _ run0_ok ((xk_len _ _ _).trans (k64_len _)) (Nat.le_refl _) (by omega) rfl (fun i y hy => by rw [Nat.zero_add i]; exact hy) (by omega) rfl rfl (by decide) (by decide) (by decide))) ?_
  refine s_nil ?_
  refine n_wp ?_
  refine w_seq ?_
  refine w_seq ?_
  refine c_reg (by kernel_rfl) rfl ?_
  refine s_p (by first | exact h_move (v := .s _) rfl | exact h_move (v := .agg _) rfl | exact h_move (v := .tup _) rfl) ?_
  refine s_p (by first | exact h_len rfl Try.underlying92 | exact h_len_nil rfl Try.underlying92 | exact h_len_val rfl Try.underlying92) ?_
  refine s_p (by first | exact h_move (v := .s _) rfl | exact h_move (v := .agg _) rfl | exact h_move (v := .tup _) rfl) ?_
  refine s_nil ?_
  refine n_wp ?_
  refine w_block ?_
  refine c_loop (JMmac1 K B0 len0 cap0) 1 ⟨0, hmI K, 64, by omega, rfl, fun _ => ⟨rfl, rfl⟩, fun e => absurd e (by omega), hmI_ok _, rfl, rfl⟩ (weakR' [0, 1, 2, 3, 4, 6, 10, 8, 7] rfl (by decide) rfl (by repeat (first | exact trivial | refine ⟨⟨_, _, rfl, rfl, rfl, rfl, rfl⟩, ?_⟩)) (by repeat (first | exact trivial | refine ⟨⟨rfl, rfl⟩, ?_⟩))) ?_
  rintro n T H ⟨i, qa, ta, hi, rfl, h0, h1, hqa, rfl, rfl⟩
  refine w_seq ?_
  refine c_reg (by kernel_rfl) rfl ?_
  refine s_p (h_bin rfl rfl (b_lss rfl)) ?_
  refine s_nil ?_
  refine n_wp ?_
  refine w_seq ?_
  refine w_cond rfl (fun hc_t32 => ?_) (fun hc_t32 => ?_)
  · skip
    have hi0 : i = 0 := by have := of_decide_eq_true hc_t32; omega
    subst hi0
    obtain ⟨heq, het⟩ := h0 rfl
    refine w_skip ?_
    refine n_wp ?_
    refine w_seq ?_
    refine w_block ?_
    refine w_seq ?_
    refine c_reg (by kernel_rfl) rfl ?_
    refine s_p (h_ixs0l 0 rfl rfl (by rfl) Try.underlying92 Try.sizeOf29 (by omega)) ?_
    refine s_p (h_load rfl rfl rfl Try.isAgg29) ?_
    refine s_p (by first | exact h_assign (v := .s _) rfl | exact h_assign (v := .agg _) rfl | exact h_assign (v := .tup _) rfl) ?_
    refine s_nil ?_
    refine n_wp ?_
    refine c_reg (by kernel_rfl) rfl ?_
    refine s_p (by first | exact h_move (v := .s _) rfl | exact h_move (v := .agg _) rfl | exact h_move (v := .tup _) rfl) ?_
    refine s_p (by first | exact h_move (v := .s _) rfl | exact h_move (v := .agg _) rfl | exact h_move (v := .tup _) rfl) ?_
    refine s_m (m_call callable_57 rfl (Write_s _ 5 2 6 0 qa ta B0 len0 cap0 _ hqa hBl0 hcap0 (by omega) rfl (fun i y hy => by rw [Nat.zero_add i]; exact hy) (by omega) rfl rfl (by decide) (by decide) (by decide))) ?_
    refine s_nil ?_
    refine n_blo ?_
    refine n_wp ?_
    refine c_reg (by kernel_rfl) rfl ?_
    refine s_p (by first | exact h_bin rfl rfl (b_add (Go.IntWalk.i64_in _ (by omega))) | exact h_bin rfl rfl (b_add rfl)) ?_
    refine s_p (by first | exact h_move (v := .s _) rfl | exact h_move (v := .agg _) rfl | exact h_move (v := .tup _) rfl) ?_
    refine s_nil ?_
    exact n_round (1 - 1) (by omega) ⟨1, tk qa B0, ta + len0, by omega, rfl, fun e => absurd e (by omega), fun _ => ⟨by rw [heq], by rw [het]⟩, tk_ok hqa _, rfl, rfl⟩ (weakR' [0, 1, 2, 3, 4, 5, 9, 7, 8] rfl (by decide) rfl (by repeat (first | exact trivial | refine ⟨⟨_, _, rfl, rfl, rfl, rfl, rfl⟩, ?_⟩)) (by repeat (first | exact trivial | refine ⟨⟨rfl, rfl⟩, ?_⟩)))
  · skip
    have hi1 : i = 1 := by have := of_decide_eq_false hc_t32; omega
    subst hi1
    obtain ⟨rfl, rfl⟩ := h1 rfl
    refine w_exit ?_
    refine x_thn ?_
    refine x_thn ?_
    refine x_eq ?_
    refine n_wp ?_
    refine w_seq ?_
    refine c_reg (by kernel_rfl) rfl ?_
    refine s_p (by first | exact h_move (v := .s _) rfl | exact h_move (v := .agg _) rfl | exact h_move (v := .tup _) rfl) ?_
    refine s_m (m_call callable_58 rfl (Sum_c _ 5 6 (tk (hmI K) B0) (64 + len0) _ hqa (by omega) rfl rfl rfl (by decide))) ?_
    refine s_heap (H' := [some ⟨false, [.ints .u8 32 K]⟩, some ⟨false, [.one (.slice 2 0 0 len0 cap0)]⟩, some ⟨false, [.ints .u8 len0 B0]⟩, some ⟨true, [.ints .u8 32 (z 32)]⟩, some ⟨true, [.ints .u8 64 (k64 K)]⟩, some ⟨true, [.one (.ptr 6 0 0), .ints .u8 64 (tk (hmI K) B0).b, .one (.int .i64 ((tk (hmI K) B0).m : Nat)), .one (.int .u64 ((64 + len0 : Nat) : Int))]⟩, none, some ⟨true, [.one (.ptr 8 0 0), .ints .u8 64 (run0).b, .one (.int .i64 ((run0).m : Nat)), .one (.int .u64 ((0 : Nat) : Int))]⟩, some ⟨true, [.ints .u32 8 (run0).s]⟩]) (by kernel_rfl) ?_
    refine s_a (h_alloc (segs := [.ints .u8 32 (z 32)]) Try.zeroValue44 (by kernel_rfl) rfl) rfl ?_
    refine s_st (m_store_agg (n := 32) (segs := [.ints .u8 32 (z 32)]) (sub := [.ints .u8 32 (sumL (tk (hmI K) B0) (64 + len0))]) (id := 9) (base := 0) (idx := 0) rfl rfl rfl (.whole (Nat.le_of_ble_eq_true rfl) rfl rfl) Try.sizeOf44 rfl) ?_
    refine s_nil ?_
    refine n_wp ?_
    refine w_seq ?_
    refine c_reg (by kernel_rfl) rfl ?_
    refine s_p (by first | exact h_move (v := .s _) rfl | exact h_move (v := .agg _) rfl | exact h_move (v := .tup _) rfl) ?_
    refine s_p (by first | exact h_move (v := .s _) rfl | exact h_move (v := .agg _) rfl | exact h_move (v := .tup _) rfl) ?_
    refine s_a (h_callc callable_55 rfl rfl (macBy_c _ 4 (k64 K) 92 _ (k64_len _) rfl rfl)) rfl ?_
    refine s_m (m_call callable_57 rfl (Write_s _ 7 10 8 0 run0 0 (xk (k64 K) 92 64) 64 64 _ run0_ok ((xk_len _ _ _).trans (k64_len _)) (Nat.le_refl _) (by omega) rfl (fun i y hy => by rw [Nat.zero_add i]; exact hy) (by omega) rfl rfl (by decide) (by decide) (by decide))) ?_
    refine s_heap (H' := [some ⟨false, [.ints .u8 32 K]⟩, some ⟨false, [.one (.slice 2 0 0 len0 cap0)]⟩, some ⟨false, [.ints .u8 len0 B0]⟩, some ⟨true, [.ints .u8 32 (z 32)]⟩, some ⟨true, [.ints .u8 64 (k64 K)]⟩, some ⟨true, [.one (.ptr 6 0 0), .ints .u8 64 (tk (hmI K) B0).b, .one (.int .i64 ((tk (hmI K) B0).m : Nat)), .one (.int .u64 ((64 + len0 : Nat) : Int))]⟩, none, some ⟨true, [.one (.ptr 11 0 0), .ints .u8 64 (tk run0 (xk (k64 K) 92 64)).b, .one (.int .i64 ((tk run0 (xk (k64 K) 92 64)).m : Nat)), .one (.int .u64 ((64 : Nat) : Int))]⟩, none, some ⟨true, [.ints .u8 32 (sumL (tk (hmI K) B0) (64 + len0))]⟩, some ⟨true, [.ints .u8 64 (xk (k64 K) 92 64)]⟩, some ⟨true, [.ints .u32 8 (tk run0 (xk (k64 K) 92 64)).s]⟩]) (by kernel_rfl) ?_
    refine s_nil ?_
    refine n_wp ?_
    refine w_seq ?_
    refine c_reg (by kernel_rfl) rfl ?_
    refine s_p (by first | exact h_move (v := .s _) rfl | exact h_move (v := .agg _) rfl | exact h_move (v := .tup _) rfl) ?_
    refine s_p (h_asl_0 rfl Try.underlying44 Try.sizeOf5 (by omega)) ?_
    refine s_m (m_call callable_57 rfl (Write_s _ 7 9 11 0 (tk run0 (xk (k64 K) 92 64)) 64 (sumL (tk (hmI K) B0) (64 + len0)) 32 32 _ (tk_ok run0_ok _) (sumL_len _ _) (Nat.le_refl _) (by omega) rfl (fun i y hy => by rw [Nat.zero_add i]; exact hy) (by omega) rfl rfl (by decide) (by decide) (by decide))) ?_
    refine s_heap (H' := [some ⟨false, [.ints .u8 32 K]⟩, some ⟨false, [.one (.slice 2 0 0 len0 cap0)]⟩, some ⟨false, [.ints .u8 len0 B0]⟩, some ⟨true, [.ints .u8 32 (z 32)]⟩, some ⟨true, [.ints .u8 64 (k64 K)]⟩, some ⟨true, [.one (.ptr 6 0 0), .ints .u8 64 (tk (hmI K) B0).b, .one (.int .i64 ((tk (hmI K) B0).m : Nat)), .one (.int .u64 ((64 + len0 : Nat) : Int))]⟩, none, some ⟨true, [.one (.ptr 12 0 0), .ints .u8 64 (tk (tk run0 (xk (k64 K) 92 64)) (sumL (tk (hmI K) B0) (64 + len0))).b, .one (.int .i64 ((tk (tk run0 (xk (k64 K) 92 64)) (sumL (tk (hmI K) B0) (64 + len0))).m : Nat)), .one (.int .u64 ((96 : Nat) : Int))]⟩, none, some ⟨true, [.ints .u8 32 (sumL (tk (hmI K) B0) (64 + len0))]⟩, some ⟨true, [.ints .u8 64 (xk (k64 K) 92 64)]⟩, none, some ⟨true, [.ints .u32 8 (tk (tk run0 (xk (k64 K) 92 64)) (sumL (tk (hmI K) B0) (64 + len0))).s]⟩]) (by kernel_rfl) ?_
    refine s_nil ?_
    refine n_wp ?_
    refine w_seq ?_
    refine c_reg (by kernel_rfl) rfl ?_
    refine s_p (by first | exact h_move (v := .s _) rfl | exact h_move (v := .agg _) rfl | exact h_move (v := .tup _) rfl) ?_
    refine s_m (m_call callable_58 rfl (Sum_c _ 7 12 (tk (tk run0 (xk (k64 K) 92 64)) (sumL (tk (hmI K) B0) (64 + len0))) 96 _ (tk_ok (tk_ok run0_ok _) _) (by omega) rfl rfl rfl (by decide))) ?_
    refine s_heap (H' := [some ⟨false, [.ints .u8 32 K]⟩, some ⟨false, [.one (.slice 2 0 0 len0 cap0)]⟩, some ⟨false, [.ints .u8 len0 B0]⟩, some ⟨true, [.ints .u8 32 (z 32)]⟩, some ⟨true, [.ints .u8 64 (k64 K)]⟩, some ⟨true, [.one (.ptr 6 0 0), .ints .u8 64 (tk (hmI K) B0).b, .one (.int .i64 ((tk (hmI K) B0).m : Nat)), .one (.int .u64 ((64 + len0 : Nat) : Int))]⟩, none, some ⟨true, [.one (.ptr 12 0 0), .ints .u8 64 (tk (tk run0 (xk (k64 K) 92 64)) (sumL (tk (hmI K) B0) (64 + len0))).b, .one (.int .i64 ((tk (tk run0 (xk (k64 K) 92 64)) (sumL (tk (hmI K) B0) (64 + len0))).m : Nat)), .one (.int .u64 ((96 : Nat) : Int))]⟩, none, some ⟨true, [.ints .u8 32 (sumL (tk (hmI K) B0) (64 + len0))]⟩, some ⟨true, [.ints .u8 64 (xk (k64 K) 92 64)]⟩, none, none]) (by kernel_rfl) ?_
    refine s_st (m_store_agg (n := 32) (segs := [.ints .u8 32 (z 32)]) (sub := [.ints .u8 32 (hmO K (tk (hmI K) B0) (64 + len0))]) (id := 3) (base := 0) (idx := 0) rfl rfl rfl (.whole (Nat.le_of_ble_eq_true rfl) rfl rfl) Try.sizeOf44 rfl) ?_
    refine s_nil ?_
    refine n_wp ?_
    refine w_ret ?_
    exact doneM (by repeat (first | exact trivial | refine ⟨rfl, ?_⟩)) (ret_cell_agg Try.results31 rfl rfl (.whole rfl) Try.isAgg44 Try.sizeOf44)
def JMmac3 (K : List Int) (B0 : List Int) (len0 cap0 : Nat) (B1 : List Int) (len1 cap1 : Nat) (B2 : List Int) (len2 cap2 : Nat) (n : Nat) (T : Tm) (H : Heap) : Prop := ∃ (i : Nat) (q : Run) (t : Nat), i ≤ 3 ∧ n = 3 - i ∧ (i = 0 → q = hmI K ∧ t = 64) ∧ (i = 1 → q = tk (hmI K) B0 ∧ t = 64 + len0) ∧ (i = 2 → q = tk (tk (hmI K) B0) B1 ∧ t = 64 + len0 + len1) ∧ (i = 3 → q = tk (tk (tk (hmI K) B0) B1) B2 ∧ t = 64 + len0 + len1 + len2) ∧ RunOk q ∧
  T = [(4, .s (.ptr 5 0 0)), (7, .s (.clo 55 [(6, 0, 0)])), (8, .s (.ptr 7 0 0)), (9, .s (.ptr 9 0 0)), (29, .s (.slice 1 0 0 3 3)), (30, .s (.int .i64 3)), (31, .s (.int .i64 ((i : Nat) : Int)))] ∧
  H = [some ⟨false, [.ints .u8 32 K]⟩, some ⟨false, [.one (.slice 2 0 0 len0 cap0), .one (.slice 3 0 0 len1 cap1), .one (.slice 4 0 0 len2 cap2)]⟩, some ⟨false, [.ints .u8 len0 B0]⟩, some ⟨false, [.ints .u8 len1 B1]⟩, some ⟨false, [.ints .u8 len2 B2]⟩, some ⟨true, [.ints .u8 32 (z 32)]⟩, some ⟨true, [.ints .u8 64 (k64 K)]⟩, some ⟨true, [.one (.ptr 8 0 0), .ints .u8 64 (q).b, .one (.int .i64 ((q).m : Nat)), .one (.int .u64 ((t : Nat) : Int))]⟩, some ⟨true, [.ints .u32 8 (q).s]⟩, some ⟨true, [.one (.ptr 10 0 0), .ints .u8 64 (run0).b, .one (.int .i64 ((run0).m : Nat)), .one (.int .u64 ((0 : Nat) : Int))]⟩, some ⟨true, [.ints .u32 8 (run0).s]⟩]
set_option maxRecDepth 100000 in
set_option maxHeartbeats 2000000 in
theorem mac3 (H : Heap) (ik sk ck ip : Nat) (K : List Int) (bk bp : Blk) (B0 : List Int) (len0 cap0 : Nat) (B1 : List Int) (len1 cap1 : Nat) (B2 : List Int) (len2 cap2 : Nat) (hK : K.length = 32) (hck : 32 ≤ ck) (hky : H[ik]? = some (some bk)) (hkys : ∀ (i : Nat) (y : SV), atS [.ints .u8 32 K] i = some y → atS bk.segs (sk + i) = some y) (hp : H[ip]? = some (some bp)) (id0 sh0 : Nat) (bd0 : Blk) (hBl0 : B0.length = len0) (hcap0 : len0 ≤ cap0) (hlen0 : len0 ≤ 100000000) (hd0 : H[id0]? = some (some bd0)) (hd0s : ∀ (i : Nat) (y : SV), atS [.ints .u8 len0 B0] i = some y → atS bd0.segs (sh0 + i) = some y) (id1 sh1 : Nat) (bd1 : Blk) (hBl1 : B1.length = len1) (hcap1 : len1 ≤ cap1) (hlen1 : len1 ≤ 100000000) (hd1 : H[id1]? = some (some bd1)) (hd1s : ∀ (i : Nat) (y : SV), atS [.ints .u8 len1 B1] i = some y → atS bd1.segs (sh1 + i) = some y) (id2 sh2 : Nat) (bd2 : Blk) (hBl2 : B2.length = len2) (hcap2 : len2 ≤ cap2) (hlen2 : len2 ≤ 100000000) (hd2 : H[id2]? = some (some bd2)) (hd2s : ∀ (i : Nat) (y : SV), atS [.ints .u8 len2 B2] i = some y → atS bd2.segs (sh2 + i) = some y) (hps : bp.segs = [.one (.slice id0 (0 + sh0) 0 len0 cap0), .one (.slice id1 (0 + sh1) 0 len1 cap1), .one (.slice id2 (0 + sh2) 0 len2 cap2)]) : ACall Try.prog 31 H [.s (.slice ik (0 + sk) 0 32 ck), .s (.slice ip (0 + 0) 0 3 3)] (.agg [.ints .u8 32 (hmO K (tk (tk (tk (hmI K) B0) B1) B2) (64 + len0 + len1 + len2))]) [] := by
  refine acall_gen2 (args0 := [.s (.slice 0 0 0 32 ck), .s (.slice 1 0 0 3 3)]) (H0 := [some ⟨false, [.ints .u8 32 K]⟩, some ⟨false, [.one (.slice 2 0 0 len0 cap0), .one (.slice 3 0 0 len1 cap1), .one (.slice 4 0 0 len2 cap2)]⟩, some ⟨false, [.ints .u8 len0 B0]⟩, some ⟨false, [.ints .u8 len1 B1]⟩, some ⟨false, [.ints .u8 len2 B2]⟩]) (Hf := []) (v0 := .agg [.ints .u8 32 (hmO K (tk (tk (tk (hmI K) B0) B1) B2) (64 + len0 + len1 + len2))]) [(ik, sk), (ip, 0), (id0, sh0), (id1, sh1), (id2, sh2)] [] Try.func31 rfl Try.ntmps31 (by simp) rfl
    (fun k id' sh' b0 h1 h2 => by
      match k, h1, h2 with
      | 0, h1, h2 => simp at h1 h2; obtain ⟨rfl, rfl⟩ := h1; subst h2; exact ⟨rfl, rfl, _, hky, fun i y hy => by (have h := hkys i y hy; obtain ⟨_, rfl⟩ := atS_ints1 hy; exact h)⟩
      | 1, h1, h2 => simp at h1 h2; obtain ⟨rfl, rfl⟩ := h1; subst h2; exact ⟨rfl, rfl, _, hp, foot_same hps⟩
      | 2, h1, h2 => simp at h1 h2; obtain ⟨rfl, rfl⟩ := h1; subst h2; exact ⟨rfl, rfl, _, hd0, fun i y hy => by (have h := hd0s i y hy; obtain ⟨_, rfl⟩ := atS_ints1 hy; exact h)⟩
      | 3, h1, h2 => simp at h1 h2; obtain ⟨rfl, rfl⟩ := h1; subst h2; exact ⟨rfl, rfl, _, hd1, fun i y hy => by (have h := hd1s i y hy; obtain ⟨_, rfl⟩ := atS_ints1 hy; exact h)⟩
      | 4, h1, h2 => simp at h1 h2; obtain ⟨rfl, rfl⟩ := h1; subst h2; exact ⟨rfl, rfl, _, hd2, fun i y hy => by (have h := hd2s i y hy; obtain ⟨_, rfl⟩ := atS_ints1 hy; exact h)⟩
      | k + 5, h1, _ => simp at h1)
    (fun W ρ vals w hH ha k id' sh' hk => by
      match k, hk with
      | 0, hk => simp at hk; obtain ⟨rfl, rfl⟩ := hk; exact ⟨(List.getElem?_eq_some_iff.1 hky).1, live_slice (i := 0) ha rfl⟩
      | 1, hk => simp at hk; obtain ⟨rfl, rfl⟩ := hk; exact ⟨(List.getElem?_eq_some_iff.1 hp).1, live_slice (i := 1) ha rfl⟩
      | 2, hk => simp at hk; obtain ⟨rfl, rfl⟩ := hk; exact ⟨(List.getElem?_eq_some_iff.1 hd0).1, live_in_slice (p := 0) hH (live_slice (i := 1) ha rfl) hp (by rw [hps]; rfl)⟩
      | 3, hk => simp at hk; obtain ⟨rfl, rfl⟩ := hk; exact ⟨(List.getElem?_eq_some_iff.1 hd1).1, live_in_slice (p := 1) hH (live_slice (i := 1) ha rfl) hp (by rw [hps]; rfl)⟩
      | 4, hk => simp at hk; obtain ⟨rfl, rfl⟩ := hk; exact ⟨(List.getElem?_eq_some_iff.1 hd2).1, live_in_slice (p := 2) hH (live_slice (i := 1) ha rfl) hp (by rw [hps]; rfl)⟩
      | k + 5, hk => simp at hk)
    rfl rfl rfl (by decide) rfl rfl rfl (fun W w ρ0 hW hdom => ?_)
  refine w_seq ?_
  refine c_reg (by kernel_rfl) rfl ?_
  refine s_a (h_alloc (segs := [.ints .u8 32 (z 32)]) Try.zeroValue44 (by kernel_rfl) rfl) rfl ?_
  refine s_nil ?_
  refine n_wp ?_
  refine w_seq ?_
  refine c_reg (by kernel_rfl) rfl ?_
  refine s_a (h_alloc (segs := [.ints .u8 64 (z 64)]) Try.zeroValue112 (by kernel_rfl) rfl) rfl ?_
  refine s_nil ?_
  refine n_wp ?_
  refine w_seq ?_
  refine w_seq ?_
  refine c_reg (by kernel_rfl) rfl ?_
  refine s_p (by first | exact h_move (v := .s _) rfl | exact h_move (v := .agg _) rfl | exact h_move (v := .tup _) rfl) ?_
  refine s_p (by first | exact h_len rfl Try.underlying29 | exact h_len_nil rfl Try.underlying29 | exact h_len_val rfl Try.underlying29) ?_
  refine s_p (h_bin rfl rfl (b_gtr rfl)) ?_
  refine s_nil ?_
  refine n_wp ?_
  refine w_cond rfl (fun hc_t15 => ?_) (fun hc_t15 => ?_)
  · exact absurd hc_t15 (by simp)
  refine w_skip ?_
  refine n_wp ?_
  refine w_seq ?_
  refine c_reg (by kernel_rfl) rfl ?_
  refine s_p (h_asl_0 rfl Try.underlying112 Try.sizeOf5 (by omega)) ?_
  refine s_p (by first | exact h_move (v := .s _) rfl | exact h_move (v := .agg _) rfl | exact h_move (v := .tup _) rfl) ?_
  refine s_m (m_copy (n := 32) rfl rfl rfl rfl rfl hK (by omega) (by omega) Try.underlying29 Try.sizeOf5 (.ints (by omega) rfl (by omega))) ?_
  refine s_nil ?_
  refine n_wp ?_
  refine w_seq ?_
  refine c_reg (by kernel_rfl) rfl ?_
  refine s_p (h_mkfunc (caps := [(6, 0, 0)]) rfl) ?_
  refine s_p (by first | exact h_assign (v := .s _) rfl | exact h_assign (v := .agg _) rfl | exact h_assign (v := .tup _) rfl) ?_
  refine s_nil ?_
  refine n_wp ?_
  refine w_seq ?_
  refine c_reg (by kernel_rfl) rfl ?_
  refine s_nb (h_call callable_56 rfl (New_c _)) rfl ?_
  refine s_nb (h_call callable_56 rfl (New_c _)) rfl ?_
  refine s_p (by first | exact h_assign (v := .s _) rfl | exact h_assign (v := .agg _) rfl | exact h_assign (v := .tup _) rfl) ?_
  refine s_p (by first | exact h_assign (v := .s _) rfl | exact h_assign (v := .agg _) rfl | exact h_assign (v := .tup _) rfl) ?_
  refine s_nil ?_
  refine n_wp ?_
  refine w_seq ?_
  refine c_reg (by kernel_rfl) rfl ?_
  refine s_p (by first | exact h_move (v := .s _) rfl | exact h_move (v := .agg _) rfl | exact h_move (v := .tup _) rfl) ?_
  refine s_p (by first | exact h_move (v := .s _) rfl | exact h_move (v := .agg _) rfl | exact h_move (v := .tup _) rfl) ?_
  refine s_a (h_callc callable_55 rfl rfl (macBy_c _ 6 (k64 K) 54 _ (k64_len _) rfl rfl)) rfl ?_
  refine s_m (m_call callable_57 rfl (Write_s _ 8 11 7 0 run0 0 (xk (k64 K) 54 64) 64 64 _ run0_ok ((xk_len _ _ _).trans (k64_len _)) (Nat.le_refl _) (by omega) rfl (fun i y hy => by rw [Nat.zero_add i]; exact hy) (by omega) rfl rfl (by decide) (by decide) (by decide))) ?_
  refine s_nil ?_
  refine n_wp ?_
  refine w_seq ?_
  refine w_seq ?_
  refine c_reg (by kernel_rfl) rfl ?_
  refine s_p (by first | exact h_move (v := .s _) rfl | exact h_move (v := .agg _) rfl | exact h_move (v := .tup _) rfl) ?_
  refine s_p (by first | exact h_len rfl Try.underlying92 | exact h_len_nil rfl Try.underlying92 | exact h_len_val rfl Try.underlying92) ?_
  refine s_p (by first | exact h_move (v := .s _) rfl | exact h_move (v := .agg _) rfl | exact h_move (v := .tup _) rfl) ?_
  refine s_nil ?_
  refine n_wp ?_
  refine w_block ?_
  refine c_loop (JMmac3 K B0 len0 cap0 B1 len1 cap1 B2 len2 cap2) 3 ⟨0, hmI K, 64, by omega, rfl, fun _ => ⟨rfl, rfl⟩, fun e => absurd e (by omega), fun e => absurd e (by omega), fun e => absurd e (by omega), hmI_ok _, rfl, rfl⟩ (weakR' [0, 1, 2, 3, 4, 5, 6, 8, 12, 10, 9] rfl (by decide) rfl (by repeat (first | exact trivial | refine ⟨⟨_, _, rfl, rfl, rfl, rfl, rfl⟩, ?_⟩)) (by repeat (first | exact trivial | refine ⟨⟨rfl, rfl⟩, ?_⟩))) ?_
  rintro n T H ⟨i, qa, ta, hi, rfl, h0, h1, h2, h3, hqa, rfl, rfl⟩
  refine w_seq ?_
  refine c_reg (by kernel_rfl) rfl ?_
  refine s_p (h_bin rfl rfl (b_lss rfl)) ?_
  refine s_nil ?_
  refine n_wp ?_
  refine w_seq ?_
  refine w_cond rfl (fun hc_t32 => ?_) (fun hc_t32 => ?_)
  · skip
    have hi0 : i = 0 ∨ i = 1 ∨ i = 2 := by have := of_decide_eq_true hc_t32; omega
    rcases hi0 with rfl | rfl | rfl
    · skip
      obtain ⟨heq, het⟩ := h0 rfl
      refine w_skip ?_
      refine n_wp ?_
      refine w_seq ?_
      refine w_block ?_
      refine w_seq ?_
      refine c_reg (by kernel_rfl) rfl ?_
      refine s_p (h_ixs0l 0 rfl rfl (by rfl) Try.underlying92 Try.sizeOf29 (by omega)) ?_
      refine s_p (h_load rfl rfl rfl Try.isAgg29) ?_
      refine s_p (by first | exact h_assign (v := .s _) rfl | exact h_assign (v := .agg _) rfl | exact h_assign (v := .tup _) rfl) ?_
      refine s_nil ?_
      refine n_wp ?_
      refine c_reg (by kernel_rfl) rfl ?_
      refine s_p (by first | exact h_move (v := .s _) rfl | exact h_move (v := .agg _) rfl | exact h_move (v := .tup _) rfl) ?_
      refine s_p (by first | exact h_move (v := .s _) rfl | exact h_move (v := .agg _) rfl | exact h_move (v := .tup _) rfl) ?_
      refine s_m (m_call callable_57 rfl (Write_s _ 7 2 8 0 qa ta B0 len0 cap0 _ hqa hBl0 hcap0 (by omega) rfl (fun i y hy => by rw [Nat.zero_add i]; exact hy) (by omega) rfl rfl (by decide) (by decide) (by decide))) ?_
      refine s_nil ?_
      refine n_blo ?_
      refine n_wp ?_
      refine c_reg (by kernel_rfl) rfl ?_
      refine s_p (by first | exact h_bin rfl rfl (b_add (Go.IntWalk.i64_in _ (by omega))) | exact h_bin rfl rfl (b_add rfl)) ?_
      refine s_p (by first | exact h_move (v := .s _) rfl | exact h_move (v := .agg _) rfl | exact h_move (v := .tup _) rfl) ?_
      refine s_nil ?_
      exact n_round (3 - 1) (by omega) ⟨1, tk qa B0, ta + len0, by omega, rfl, fun e => absurd e (by omega), fun _ => ⟨by rw [heq], by rw [het]⟩, fun e => absurd e (by omega), fun e => absurd e (by omega), tk_ok hqa _, rfl, rfl⟩ (weakR' [0, 1, 2, 3, 4, 5, 6, 7, 11, 9, 10] rfl (by decide) rfl (by repeat (first | exact trivial | refine ⟨⟨_, _, rfl, rfl, rfl, rfl, rfl⟩, ?_⟩)) (by repeat (first | exact trivial | refine ⟨⟨rfl, rfl⟩, ?_⟩)))
    · skip
      obtain ⟨heq, het⟩ := h1 rfl
      refine w_skip ?_
      refine n_wp ?_
      refine w_seq ?_
      refine w_block ?_
      refine w_seq ?_
      refine c_reg (by kernel_rfl) rfl ?_
      refine s_p (h_ixs0l 1 rfl rfl (by rfl) Try.underlying92 Try.sizeOf29 (by omega)) ?_
      refine s_p (h_load rfl rfl rfl Try.isAgg29) ?_
      refine s_p (by first | exact h_assign (v := .s _) rfl | exact h_assign (v := .agg _) rfl | exact h_assign (v := .tup _) rfl) ?_
      refine s_nil ?_
      refine n_wp ?_
      refine c_reg (by kernel_rfl) rfl ?_
      refine s_p (by first | exact h_move (v := .s _) rfl | exact h_move (v := .agg _) rfl | exact h_move (v := .tup _) rfl) ?_
      refine s_p (by first | exact h_move (v := .s _) rfl | exact h_move (v := .agg _) rfl | exact h_move (v := .tup _) rfl) ?_
      refine s_m (m_call callable_57 rfl (Write_s _ 7 3 8 0 qa ta B1 len1 cap1 _ hqa hBl1 hcap1 (by omega) rfl (fun i y hy => by rw [Nat.zero_add i]; exact hy) (by omega) rfl rfl (by decide) (by decide) (by decide))) ?_
      refine s_nil ?_
      refine n_blo ?_
      refine n_wp ?_
      refine c_reg (by kernel_rfl) rfl ?_
      refine s_p (by first | exact h_bin rfl rfl (b_add (Go.IntWalk.i64_in _ (by omega))) | exact h_bin rfl rfl (b_add rfl)) ?_
      refine s_p (by first | exact h_move (v := .s _) rfl | exact h_move (v := .agg _) rfl | exact h_move (v := .tup _) rfl) ?_
      refine s_nil ?_
      exact n_round (3 - 2) (by omega) ⟨2, tk qa B1, ta + len1, by omega, rfl, fun e => absurd e (by omega), fun e => absurd e (by omega), fun _ => ⟨by rw [heq], by rw [het]⟩, fun e => absurd e (by omega), tk_ok hqa _, rfl, rfl⟩ (weakR' [0, 1, 2, 3, 4, 5, 6, 7, 11, 9, 10] rfl (by decide) rfl (by repeat (first | exact trivial | refine ⟨⟨_, _, rfl, rfl, rfl, rfl, rfl⟩, ?_⟩)) (by repeat (first | exact trivial | refine ⟨⟨rfl, rfl⟩, ?_⟩)))
    · skip
      obtain ⟨heq, het⟩ := h2 rfl
      refine w_skip ?_
      refine n_wp ?_
      refine w_seq ?_
      refine w_block ?_
      refine w_seq ?_
      refine c_reg (by kernel_rfl) rfl ?_
      refine s_p (h_ixs0l 2 rfl rfl (by rfl) Try.underlying92 Try.sizeOf29 (by omega)) ?_
      refine s_p (h_load rfl rfl rfl Try.isAgg29) ?_
      refine s_p (by first | exact h_assign (v := .s _) rfl | exact h_assign (v := .agg _) rfl | exact h_assign (v := .tup _) rfl) ?_
      refine s_nil ?_
      refine n_wp ?_
      refine c_reg (by kernel_rfl) rfl ?_
      refine s_p (by first | exact h_move (v := .s _) rfl | exact h_move (v := .agg _) rfl | exact h_move (v := .tup _) rfl) ?_
      refine s_p (by first | exact h_move (v := .s _) rfl | exact h_move (v := .agg _) rfl | exact h_move (v := .tup _) rfl) ?_
      refine s_m (m_call callable_57 rfl (Write_s _ 7 4 8 0 qa ta B2 len2 cap2 _ hqa hBl2 hcap2 (by omega) rfl (fun i y hy => by rw [Nat.zero_add i]; exact hy) (by omega) rfl rfl (by decide) (by decide) (by decide))) ?_
      refine s_nil ?_
      refine n_blo ?_
      refine n_wp ?_
      refine c_reg (by kernel_rfl) rfl ?_
      refine s_p (by first | exact h_bin rfl rfl (b_add (Go.IntWalk.i64_in _ (by omega))) | exact h_bin rfl rfl (b_add rfl)) ?_
      refine s_p (by first | exact h_move (v := .s _) rfl | exact h_move (v := .agg _) rfl | exact h_move (v := .tup _) rfl) ?_
      refine s_nil ?_
      exact n_round (3 - 3) (by omega) ⟨3, tk qa B2, ta + len2, by omega, rfl, fun e => absurd e (by omega), fun e => absurd e (by omega), fun e => absurd e (by omega), fun _ => ⟨by rw [heq], by rw [het]⟩, tk_ok hqa _, rfl, rfl⟩ (weakR' [0, 1, 2, 3, 4, 5, 6, 7, 11, 9, 10] rfl (by decide) rfl (by repeat (first | exact trivial | refine ⟨⟨_, _, rfl, rfl, rfl, rfl, rfl⟩, ?_⟩)) (by repeat (first | exact trivial | refine ⟨⟨rfl, rfl⟩, ?_⟩)))
  · skip
    have hi1 : i = 3 := by have := of_decide_eq_false hc_t32; omega
    subst hi1
    obtain ⟨rfl, rfl⟩ := h3 rfl
    refine w_exit ?_
    refine x_thn ?_
    refine x_thn ?_
    refine x_eq ?_
    refine n_wp ?_
    refine w_seq ?_
    refine c_reg (by kernel_rfl) rfl ?_
    refine s_p (by first | exact h_move (v := .s _) rfl | exact h_move (v := .agg _) rfl | exact h_move (v := .tup _) rfl) ?_
    refine s_m (m_call callable_58 rfl (Sum_c _ 7 8 (tk (tk (tk (hmI K) B0) B1) B2) (64 + len0 + len1 + len2) _ hqa (by omega) rfl rfl rfl (by decide))) ?_
    refine s_heap (H' := [some ⟨false, [.ints .u8 32 K]⟩, some ⟨false, [.one (.slice 2 0 0 len0 cap0), .one (.slice 3 0 0 len1 cap1), .one (.slice 4 0 0 len2 cap2)]⟩, some ⟨false, [.ints .u8 len0 B0]⟩, some ⟨false, [.ints .u8 len1 B1]⟩, some ⟨false, [.ints .u8 len2 B2]⟩, some ⟨true, [.ints .u8 32 (z 32)]⟩, some ⟨true, [.ints .u8 64 (k64 K)]⟩, some ⟨true, [.one (.ptr 8 0 0), .ints .u8 64 (tk (tk (tk (hmI K) B0) B1) B2).b, .one (.int .i64 ((tk (tk (tk (hmI K) B0) B1) B2).m : Nat)), .one (.int .u64 ((64 + len0 + len1 + len2 : Nat) : Int))]⟩, none, some ⟨true, [.one (.ptr 10 0 0), .ints .u8 64 (run0).b, .one (.int .i64 ((run0).m : Nat)), .one (.int .u64 ((0 : Nat) : Int))]⟩, some ⟨true, [.ints .u32 8 (run0).s]⟩]) (by kernel_rfl) ?_
    refine s_a (h_alloc (segs := [.ints .u8 32 (z 32)]) Try.zeroValue44 (by kernel_rfl) rfl) rfl ?_
    refine s_st (m_store_agg (n := 32) (segs := [.ints .u8 32 (z 32)]) (sub := [.ints .u8 32 (sumL (tk (tk (tk (hmI K) B0) B1) B2) (64 + len0 + len1 + len2))]) (id := 11) (base := 0) (idx := 0) rfl rfl rfl (.whole (Nat.le_of_ble_eq_true rfl) rfl rfl) Try.sizeOf44 rfl) ?_
    refine s_nil ?_
    refine n_wp ?_
    refine w_seq ?_
    refine c_reg (by kernel_rfl) rfl ?_
    refine s_p (by first | exact h_move (v := .s _) rfl | exact h_move (v := .agg _) rfl | exact h_move (v := .tup _) rfl) ?_
    refine s_p (by first | exact h_move (v := .s _) rfl | exact h_move (v := .agg _) rfl | exact h_move (v := .tup _) rfl) ?_
    refine s_a (h_callc callable_55 rfl rfl (macBy_c _ 6 (k64 K) 92 _ (k64_len _) rfl rfl)) rfl ?_
    refine s_m (m_call callable_57 rfl (Write_s _ 9 12 10 0 run0 0 (xk (k64 K) 92 64) 64 64 _ run0_ok ((xk_len _ _ _).trans (k64_len _)) (Nat.le_refl _) (by omega) rfl (fun i y hy => by rw [Nat.zero_add i]; exact hy) (by omega) rfl rfl (by decide) (by decide) (by decide))) ?_
    refine s_heap (H' := [some ⟨false, [.ints .u8 32 K]⟩, some ⟨false, [.one (.slice 2 0 0 len0 cap0), .one (.slice 3 0 0 len1 cap1), .one (.slice 4 0 0 len2 cap2)]⟩, some ⟨false, [.ints .u8 len0 B0]⟩, some ⟨false, [.ints .u8 len1 B1]⟩, some ⟨false, [.ints .u8 len2 B2]⟩, some ⟨true, [.ints .u8 32 (z 32)]⟩, some ⟨true, [.ints .u8 64 (k64 K)]⟩, some ⟨true, [.one (.ptr 8 0 0), .ints .u8 64 (tk (tk (tk (hmI K) B0) B1) B2).b, .one (.int .i64 ((tk (tk (tk (hmI K) B0) B1) B2).m : Nat)), .one (.int .u64 ((64 + len0 + len1 + len2 : Nat) : Int))]⟩, none, some ⟨true, [.one (.ptr 13 0 0), .ints .u8 64 (tk run0 (xk (k64 K) 92 64)).b, .one (.int .i64 ((tk run0 (xk (k64 K) 92 64)).m : Nat)), .one (.int .u64 ((64 : Nat) : Int))]⟩, none, some ⟨true, [.ints .u8 32 (sumL (tk (tk (tk (hmI K) B0) B1) B2) (64 + len0 + len1 + len2))]⟩, some ⟨true, [.ints .u8 64 (xk (k64 K) 92 64)]⟩, some ⟨true, [.ints .u32 8 (tk run0 (xk (k64 K) 92 64)).s]⟩]) (by kernel_rfl) ?_
    refine s_nil ?_
    refine n_wp ?_
    refine w_seq ?_
    refine c_reg (by kernel_rfl) rfl ?_
    refine s_p (by first | exact h_move (v := .s _) rfl | exact h_move (v := .agg _) rfl | exact h_move (v := .tup _) rfl) ?_
    refine s_p (h_asl_0 rfl Try.underlying44 Try.sizeOf5 (by omega)) ?_
    refine s_m (m_call callable_57 rfl (Write_s _ 9 11 13 0 (tk run0 (xk (k64 K) 92 64)) 64 (sumL (tk (tk (tk (hmI K) B0) B1) B2) (64 + len0 + len1 + len2)) 32 32 _ (tk_ok run0_ok _) (sumL_len _ _) (Nat.le_refl _) (by omega) rfl (fun i y hy => by rw [Nat.zero_add i]; exact hy) (by omega) rfl rfl (by decide) (by decide) (by decide))) ?_
    refine s_heap (H' := [some ⟨false, [.ints .u8 32 K]⟩, some ⟨false, [.one (.slice 2 0 0 len0 cap0), .one (.slice 3 0 0 len1 cap1), .one (.slice 4 0 0 len2 cap2)]⟩, some ⟨false, [.ints .u8 len0 B0]⟩, some ⟨false, [.ints .u8 len1 B1]⟩, some ⟨false, [.ints .u8 len2 B2]⟩, some ⟨true, [.ints .u8 32 (z 32)]⟩, some ⟨true, [.ints .u8 64 (k64 K)]⟩, some ⟨true, [.one (.ptr 8 0 0), .ints .u8 64 (tk (tk (tk (hmI K) B0) B1) B2).b, .one (.int .i64 ((tk (tk (tk (hmI K) B0) B1) B2).m : Nat)), .one (.int .u64 ((64 + len0 + len1 + len2 : Nat) : Int))]⟩, none, some ⟨true, [.one (.ptr 14 0 0), .ints .u8 64 (tk (tk run0 (xk (k64 K) 92 64)) (sumL (tk (tk (tk (hmI K) B0) B1) B2) (64 + len0 + len1 + len2))).b, .one (.int .i64 ((tk (tk run0 (xk (k64 K) 92 64)) (sumL (tk (tk (tk (hmI K) B0) B1) B2) (64 + len0 + len1 + len2))).m : Nat)), .one (.int .u64 ((96 : Nat) : Int))]⟩, none, some ⟨true, [.ints .u8 32 (sumL (tk (tk (tk (hmI K) B0) B1) B2) (64 + len0 + len1 + len2))]⟩, some ⟨true, [.ints .u8 64 (xk (k64 K) 92 64)]⟩, none, some ⟨true, [.ints .u32 8 (tk (tk run0 (xk (k64 K) 92 64)) (sumL (tk (tk (tk (hmI K) B0) B1) B2) (64 + len0 + len1 + len2))).s]⟩]) (by kernel_rfl) ?_
    refine s_nil ?_
    refine n_wp ?_
    refine w_seq ?_
    refine c_reg (by kernel_rfl) rfl ?_
    refine s_p (by first | exact h_move (v := .s _) rfl | exact h_move (v := .agg _) rfl | exact h_move (v := .tup _) rfl) ?_
    refine s_m (m_call callable_58 rfl (Sum_c _ 9 14 (tk (tk run0 (xk (k64 K) 92 64)) (sumL (tk (tk (tk (hmI K) B0) B1) B2) (64 + len0 + len1 + len2))) 96 _ (tk_ok (tk_ok run0_ok _) _) (by omega) rfl rfl rfl (by decide))) ?_
    refine s_heap (H' := [some ⟨false, [.ints .u8 32 K]⟩, some ⟨false, [.one (.slice 2 0 0 len0 cap0), .one (.slice 3 0 0 len1 cap1), .one (.slice 4 0 0 len2 cap2)]⟩, some ⟨false, [.ints .u8 len0 B0]⟩, some ⟨false, [.ints .u8 len1 B1]⟩, some ⟨false, [.ints .u8 len2 B2]⟩, some ⟨true, [.ints .u8 32 (z 32)]⟩, some ⟨true, [.ints .u8 64 (k64 K)]⟩, some ⟨true, [.one (.ptr 8 0 0), .ints .u8 64 (tk (tk (tk (hmI K) B0) B1) B2).b, .one (.int .i64 ((tk (tk (tk (hmI K) B0) B1) B2).m : Nat)), .one (.int .u64 ((64 + len0 + len1 + len2 : Nat) : Int))]⟩, none, some ⟨true, [.one (.ptr 14 0 0), .ints .u8 64 (tk (tk run0 (xk (k64 K) 92 64)) (sumL (tk (tk (tk (hmI K) B0) B1) B2) (64 + len0 + len1 + len2))).b, .one (.int .i64 ((tk (tk run0 (xk (k64 K) 92 64)) (sumL (tk (tk (tk (hmI K) B0) B1) B2) (64 + len0 + len1 + len2))).m : Nat)), .one (.int .u64 ((96 : Nat) : Int))]⟩, none, some ⟨true, [.ints .u8 32 (sumL (tk (tk (tk (hmI K) B0) B1) B2) (64 + len0 + len1 + len2))]⟩, some ⟨true, [.ints .u8 64 (xk (k64 K) 92 64)]⟩, none, none]) (by kernel_rfl) ?_
    refine s_st (m_store_agg (n := 32) (segs := [.ints .u8 32 (z 32)]) (sub := [.ints .u8 32 (hmO K (tk (tk (tk (hmI K) B0) B1) B2) (64 + len0 + len1 + len2))]) (id := 5) (base := 0) (idx := 0) rfl rfl rfl (.whole (Nat.le_of_ble_eq_true rfl) rfl rfl) Try.sizeOf44 rfl) ?_
    refine s_nil ?_
    refine n_wp ?_
    refine w_ret ?_
    exact doneM (by repeat (first | exact trivial | refine ⟨rfl, ?_⟩)) (ret_cell_agg Try.results31 rfl rfl (.whole rfl) Try.isAgg44 Try.sizeOf44)
def JMmac3n (K : List Int) (B1 : List Int) (len1 cap1 : Nat) (B2 : List Int) (len2 cap2 : Nat) (n : Nat) (T : Tm) (H : Heap) : Prop := ∃ (i : Nat) (q : Run) (t : Nat), i ≤ 3 ∧ n = 3 - i ∧ (i = 0 → q = hmI K ∧ t = 64) ∧ (i = 1 → q = hmI K ∧ t = 64) ∧ (i = 2 → q = tk (hmI K) B1 ∧ t = 64 + len1) ∧ (i = 3 → q = tk (tk (hmI K) B1) B2 ∧ t = 64 + len1 + len2) ∧ RunOk q ∧
  T = [(4, .s (.ptr 4 0 0)), (7, .s (.clo 55 [(5, 0, 0)])), (8, .s (.ptr 6 0 0)), (9, .s (.ptr 8 0 0)), (29, .s (.slice 1 0 0 3 3)), (30, .s (.int .i64 3)), (31, .s (.int .i64 ((i : Nat) : Int)))] ∧
  H = [some ⟨false, [.ints .u8 32 K]⟩, some ⟨false, [.one .nils, .one (.slice 2 0 0 len1 cap1), .one (.slice 3 0 0 len2 cap2)]⟩, some ⟨false, [.ints .u8 len1 B1]⟩, some ⟨false, [.ints .u8 len2 B2]⟩, some ⟨true, [.ints .u8 32 (z 32)]⟩, some ⟨true, [.ints .u8 64 (k64 K)]⟩, some ⟨true, [.one (.ptr 7 0 0), .ints .u8 64 (q).b, .one (.int .i64 ((q).m : Nat)), .one (.int .u64 ((t : Nat) : Int))]⟩, some ⟨true, [.ints .u32 8 (q).s]⟩, some ⟨true, [.one (.ptr 9 0 0), .ints .u8 64 (run0).b, .one (.int .i64 ((run0).m : Nat)), .one (.int .u64 ((0 : Nat) : Int))]⟩, some ⟨true, [.ints .u32 8 (run0).s]⟩]
set_option maxRecDepth 100000 in
set_option maxHeartbeats 2000000 in
theorem mac3n (H : Heap) (ik sk ck ip : Nat) (K : List Int) (bk bp : Blk) (B1 : List Int) (len1 cap1 : Nat) (B2 : List Int) (len2 cap2 : Nat) (hK : K.length = 32) (hck : 32 ≤ ck) (hky : H[ik]? = some (some bk)) (hkys : ∀ (i : Nat) (y : SV), atS [.ints .u8 32 K] i = some y → atS bk.segs (sk + i) = some y) (hp : H[ip]? = some (some bp)) (id1 sh1 : Nat) (bd1 : Blk) (hBl1 : B1.length = len1) (hcap1 : len1 ≤ cap1) (hlen1 : len1 ≤ 100000000) (hd1 : H[id1]? = some (some bd1)) (hd1s : ∀ (i : Nat) (y : SV), atS [.ints .u8 len1 B1] i = some y → atS bd1.segs (sh1 + i) = some y) (id2 sh2 : Nat) (bd2 : Blk) (hBl2 : B2.length = len2) (hcap2 : len2 ≤ cap2) (hlen2 : len2 ≤ 100000000) (hd2 : H[id2]? = some (some bd2)) (hd2s : ∀ (i : Nat) (y : SV), atS [.ints .u8 len2 B2] i = some y → atS bd2.segs (sh2 + i) = some y) (hps : bp.segs = [.one .nils, .one (.slice id1 (0 + sh1) 0 len1 cap1), .one (.slice id2 (0 + sh2) 0 len2 cap2)]) : ACall Try.prog 31 H [.s (.slice ik (0 + sk) 0 32 ck), .s (.slice ip (0 + 0) 0 3 3)] (.agg [.ints .u8 32 (hmO K (tk (tk (hmI K) B1) B2) (64 + len1 + len2))]) [] := by
  refine acall_gen2 (args0 := [.s (.slice 0 0 0 32 ck), .s (.slice 1 0 0 3 3)]) (H0 := [some ⟨false, [.ints .u8 32 K]⟩, some ⟨false, [.one .nils, .one (.slice 2 0 0 len1 cap1), .one (.slice 3 0 0 len2 cap2)]⟩, some ⟨false, [.ints .u8 len1 B1]⟩, some ⟨false, [.ints .u8 len2 B2]⟩]) (Hf := []) (v0 := .agg [.ints .u8 32 (hmO K (tk (tk (hmI K) B1) B2) (64 + len1 + len2))]) [(ik, sk), (ip, 0), (id1, sh1), (id2, sh2)] [] Try.func31 rfl Try.ntmps31 (by simp) rfl
    (fun k id' sh' b0 h1 h2 => by
      match k, h1, h2 with
      | 0, h1, h2 => simp at h1 h2; obtain ⟨rfl, rfl⟩ := h1; subst h2; exact ⟨rfl, rfl, _, hky, fun i y hy => by (have h := hkys i y hy; obtain ⟨_, rfl⟩ := atS_ints1 hy; exact h)⟩
      | 1, h1, h2 => simp at h1 h2; obtain ⟨rfl, rfl⟩ := h1; subst h2; exact ⟨rfl, rfl, _, hp, foot_same hps⟩
      | 2, h1, h2 => simp at h1 h2; obtain ⟨rfl, rfl⟩ := h1; subst h2; exact ⟨rfl, rfl, _, hd1, fun i y hy => by (have h := hd1s i y hy; obtain ⟨_, rfl⟩ := atS_ints1 hy; exact h)⟩
      | 3, h1, h2 => simp at h1 h2; obtain ⟨rfl, rfl⟩ := h1; subst h2; exact ⟨rfl, rfl, _, hd2, fun i y hy => by (have h := hd2s i y hy; obtain ⟨_, rfl⟩ := atS_ints1 hy; exact h)⟩
      | k + 4, h1, _ => simp at h1)
    (fun W ρ vals w hH ha k id' sh' hk => by
      match k, hk with
      | 0, hk => simp at hk; obtain ⟨rfl, rfl⟩ := hk; exact ⟨(List.getElem?_eq_some_iff.1 hky).1, live_slice (i := 0) ha rfl⟩
      | 1, hk => simp at hk; obtain ⟨rfl, rfl⟩ := hk; exact ⟨(List.getElem?_eq_some_iff.1 hp).1, live_slice (i := 1) ha rfl⟩
      | 2, hk => simp at hk; obtain ⟨rfl, rfl⟩ := hk; exact ⟨(List.getElem?_eq_some_iff.1 hd1).1, live_in_slice (p := 1) hH (live_slice (i := 1) ha rfl) hp (by rw [hps]; rfl)⟩
      | 3, hk => simp at hk; obtain ⟨rfl, rfl⟩ := hk; exact ⟨(List.getElem?_eq_some_iff.1 hd2).1, live_in_slice (p := 2) hH (live_slice (i := 1) ha rfl) hp (by rw [hps]; rfl)⟩
      | k + 4, hk => simp at hk)
    rfl rfl rfl (by decide) rfl rfl rfl (fun W w ρ0 hW hdom => ?_)
  refine w_seq ?_
  refine c_reg (by kernel_rfl) rfl ?_
  refine s_a (h_alloc (segs := [.ints .u8 32 (z 32)]) Try.zeroValue44 (by kernel_rfl) rfl) rfl ?_
  refine s_nil ?_
  refine n_wp ?_
  refine w_seq ?_
  refine c_reg (by kernel_rfl) rfl ?_
  refine s_a (h_alloc (segs := [.ints .u8 64 (z 64)]) Try.zeroValue112 (by kernel_rfl) rfl) rfl ?_
  refine s_nil ?_
  refine n_wp ?_
  refine w_seq ?_
  refine w_seq ?_
  refine c_reg (by kernel_rfl) rfl ?_
  refine s_p (by first | exact h_move (v := .s _) rfl | exact h_move (v := .agg _) rfl | exact h_move (v := .tup _) rfl) ?_
  refine s_p (by first | exact h_len rfl Try.underlying29 | exact h_len_nil rfl Try.underlying29 | exact h_len_val rfl Try.underlying29) ?_
  refine s_p (h_bin rfl rfl (b_gtr rfl)) ?_
  refine s_nil ?_
  refine n_wp ?_
  refine w_cond rfl (fun hc_t15 => ?_) (fun hc_t15 => ?_)
  · exact absurd hc_t15 (by simp)
  refine w_skip ?_
  refine n_wp ?_
  refine w_seq ?_
  refine c_reg (by kernel_rfl) rfl ?_
  refine s_p (h_asl_0 rfl Try.underlying112 Try.sizeOf5 (by omega)) ?_
  refine s_p (by first | exact h_move (v := .s _) rfl | exact h_move (v := .agg _) rfl | exact h_move (v := .tup _) rfl) ?_
  refine s_m (m_copy (n := 32) rfl rfl rfl rfl rfl hK (by omega) (by omega) Try.underlying29 Try.sizeOf5 (.ints (by omega) rfl (by omega))) ?_
  refine s_nil ?_
  refine n_wp ?_
  refine w_seq ?_
  refine c_reg (by kernel_rfl) rfl ?_
  refine s_p (h_mkfunc (caps := [(5, 0, 0)]) rfl) ?_
  refine s_p (by first | exact h_assign (v := .s _) rfl | exact h_assign (v := .agg _) rfl | exact h_assign (v := .tup _) rfl) ?_
  refine s_nil ?_
  refine n_wp ?_
  refine w_seq ?_
  refine c_reg (by kernel_rfl) rfl ?_
  refine s_nb (h_call callable_56 rfl (New_c _)) rfl ?_
  refine s_nb (h_call callable_56 rfl (New_c _)) rfl ?_
  refine s_p (by first | exact h_assign (v := .s _) rfl | exact h_assign (v := .agg _) rfl | exact h_assign (v := .tup _) rfl) ?_
  refine s_p (by first | exact h_assign (v := .s _) rfl | exact h_assign (v := .agg _) rfl | exact h_assign (v := .tup _) rfl) ?_
  refine s_nil ?_
  refine n_wp ?_
  refine w_seq ?_
  refine c_reg (by kernel_rfl) rfl ?_
  refine s_p (by first | exact h_move (v := .s _) rfl | exact h_move (v := .agg _) rfl | exact h_move (v := .tup _) rfl) ?_
  refine s_p (by first | exact h_move (v := .s _) rfl | exact h_move (v := .agg _) rfl | exact h_move (v := .tup _) rfl) ?_
  refine s_a (h_callc callable_55 rfl rfl (macBy_c _ 5 (k64 K) 54 _ (k64_len _) rfl rfl)) rfl ?_
  refine s_m (m_call callable_57 rfl (Write_s _ 7 10 6 0 run0 0 (xk (k64 K) 54 64) 64 64 _ run0_ok ((xk_len _ _ _).trans (k64_len _)) (Nat.le_refl _) (by omega) rfl (fun i y hy => by rw [Nat.zero_add i]; exact hy) (by omega) rfl rfl (by decide) (by decide) (by decide))) ?_
  refine s_nil ?_
  refine n_wp ?_
  refine w_seq ?_
  refine w_seq ?_
  refine c_reg (by kernel_rfl) rfl ?_
  refine s_p (by first | exact h_move (v := .s _) rfl | exact h_move (v := .agg _) rfl | exact h_move (v := .tup _) rfl) ?_
  refine s_p (by first | exact h_len rfl Try.underlying92 | exact h_len_nil rfl Try.underlying92 | exact h_len_val rfl Try.underlying92) ?_
  refine s_p (by first | exact h_move (v := .s _) rfl | exact h_move (v := .agg _) rfl | exact h_move (v := .tup _) rfl) ?_
  refine s_nil ?_
  refine n_wp ?_
  refine w_block ?_
  refine c_loop (JMmac3n K B1 len1 cap1 B2 len2 cap2) 3 ⟨0, hmI K, 64, by omega, rfl, fun _ => ⟨rfl, rfl⟩, fun e => absurd e (by omega), fun e => absurd e (by omega), fun e => absurd e (by omega), hmI_ok _, rfl, rfl⟩ (weakR' [0, 1, 2, 3, 4, 5, 7, 11, 9, 8] rfl (by decide) rfl (by repeat (first | exact trivial | refine ⟨⟨_, _, rfl, rfl, rfl, rfl, rfl⟩, ?_⟩)) (by repeat (first | exact trivial | refine ⟨⟨rfl, rfl⟩, ?_⟩))) ?_
  rintro n T H ⟨i, qa, ta, hi, rfl, h0, h1, h2, h3, hqa, rfl, rfl⟩
  refine w_seq ?_
  refine c_reg (by kernel_rfl) rfl ?_
  refine s_p (h_bin rfl rfl (b_lss rfl)) ?_
  refine s_nil ?_
  refine n_wp ?_
  refine w_seq ?_
  refine w_cond rfl (fun hc_t32 => ?_) (fun hc_t32 => ?_)
  · skip
    have hi0 : i = 0 ∨ i = 1 ∨ i = 2 := by have := of_decide_eq_true hc_t32; omega
    rcases hi0 with rfl | rfl | rfl
    · skip
      obtain ⟨heq, het⟩ := h0 rfl
      refine w_skip ?_
      refine n_wp ?_
      refine w_seq ?_
      refine w_block ?_
      refine w_seq ?_
      refine c_reg (by kernel_rfl) rfl ?_
      refine s_p (h_ixs0l 0 rfl rfl (by rfl) Try.underlying92 Try.sizeOf29 (by omega)) ?_
      refine s_p (h_load rfl rfl rfl Try.isAgg29) ?_
      refine s_p (by first | exact h_assign (v := .s _) rfl | exact h_assign (v := .agg _) rfl | exact h_assign (v := .tup _) rfl) ?_
      refine s_nil ?_
      refine n_wp ?_
      refine c_reg (by kernel_rfl) rfl ?_
      refine s_p (by first | exact h_move (v := .s _) rfl | exact h_move (v := .agg _) rfl | exact h_move (v := .tup _) rfl) ?_
      refine s_p (by first | exact h_move (v := .s _) rfl | exact h_move (v := .agg _) rfl | exact h_move (v := .tup _) rfl) ?_
      refine s_m (m_call callable_57 rfl (Write_n _ 6 7 qa ta hqa (by omega) rfl (by decide))) ?_
      refine s_nil ?_
      refine n_blo ?_
      refine n_wp ?_
      refine c_reg (by kernel_rfl) rfl ?_
      refine s_p (by first | exact h_bin rfl rfl (b_add (Go.IntWalk.i64_in _ (by omega))) | exact h_bin rfl rfl (b_add rfl)) ?_
      refine s_p (by first | exact h_move (v := .s _) rfl | exact h_move (v := .agg _) rfl | exact h_move (v := .tup _) rfl) ?_
      refine s_nil ?_
      exact n_round (3 - 1) (by omega) ⟨1, qa, ta, by omega, rfl, fun e => absurd e (by omega), fun _ => ⟨by rw [heq], by rw [het]⟩, fun e => absurd e (by omega), fun e => absurd e (by omega), hqa, rfl, rfl⟩ (weakR' [0, 1, 2, 3, 4, 5, 6, 7, 8, 9] rfl (by decide) rfl (by repeat (first | exact trivial | refine ⟨⟨_, _, rfl, rfl, rfl, rfl, rfl⟩, ?_⟩)) (by repeat (first | exact trivial | refine ⟨⟨rfl, rfl⟩, ?_⟩)))
    · skip
      obtain ⟨heq, het⟩ := h1 rfl
      refine w_skip ?_
      refine n_wp ?_
      refine w_seq ?_
      refine w_block ?_
      refine w_seq ?_
      refine c_reg (by kernel_rfl) rfl ?_
      refine s_p (h_ixs0l 1 rfl rfl (by rfl) Try.underlying92 Try.sizeOf29 (by omega)) ?_
      refine s_p (h_load rfl rfl rfl Try.isAgg29) ?_
      refine s_p (by first | exact h_assign (v := .s _) rfl | exact h_assign (v := .agg _) rfl | exact h_assign (v := .tup _) rfl) ?_
      refine s_nil ?_
      refine n_wp ?_
      refine c_reg (by kernel_rfl) rfl ?_
      refine s_p (by first | exact h_move (v := .s _) rfl | exact h_move (v := .agg _) rfl | exact h_move (v := .tup _) rfl) ?_
      refine s_p (by first | exact h_move (v := .s _) rfl | exact h_move (v := .agg _) rfl | exact h_move (v := .tup _) rfl) ?_
      refine s_m (m_call callable_57 rfl (Write_s _ 6 2 7 0 qa ta B1 len1 cap1 _ hqa hBl1 hcap1 (by omega) rfl (fun i y hy => by rw [Nat.zero_add i]; exact hy) (by omega) rfl rfl (by decide) (by decide) (by decide))) ?_
      refine s_nil ?_
      refine n_blo ?_
      refine n_wp ?_
      refine c_reg (by kernel_rfl) rfl ?_
      refine s_p (by first | exact h_bin rfl rfl (b_add (Go.IntWalk.i64_in _ (by omega))) | exact h_bin rfl rfl (b_add rfl)) ?_
      refine s_p (by first | exact h_move (v := .s _) rfl | exact h_move (v := .agg _) rfl | exact h_move (v := .tup _) rfl) ?_
      refine s_nil ?_
      exact n_round (3 - 2) (by omega) ⟨2, tk qa B1, ta + len1, by omega, rfl, fun e => absurd e (by omega), fun e => absurd e (by omega), fun _ => ⟨by rw [heq], by rw [het]⟩, fun e => absurd e (by omega), tk_ok hqa _, rfl, rfl⟩ (weakR' [0, 1, 2, 3, 4, 5, 6, 10, 8, 9] rfl (by decide) rfl (by repeat (first | exact trivial | refine ⟨⟨_, _, rfl, rfl, rfl, rfl, rfl⟩, ?_⟩)) (by repeat (first | exact trivial | refine ⟨⟨rfl, rfl⟩, ?_⟩)))
    · skip
      obtain ⟨heq, het⟩ := h2 rfl
      refine w_skip ?_
      refine n_wp ?_
      refine w_seq ?_
      refine w_block ?_
      refine w_seq ?_
      refine c_reg (by kernel_rfl) rfl ?_
      refine s_p (h_ixs0l 2 rfl rfl (by rfl) Try.underlying92 Try.sizeOf29 (by omega)) ?_
      refine s_p (h_load rfl rfl rfl Try.isAgg29) ?_
      refine s_p (by first | exact h_assign (v := .s _) rfl | exact h_assign (v := .agg _) rfl | exact h_assign (v := .tup _) rfl) ?_
      refine s_nil ?_
      refine n_wp ?_
      refine c_reg (by kernel_rfl) rfl ?_
      refine s_p (by first | exact h_move (v := .s _) rfl | exact h_move (v := .agg _) rfl | exact h_move (v := .tup _) rfl) ?_
      refine s_p (by first | exact h_move (v := .s _) rfl | exact h_move (v := .agg _) rfl | exact h_move (v := .tup _) rfl) ?_
      refine s_m (m_call callable_57 rfl (Write_s _ 6 3 7 0 qa ta B2 len2 cap2 _ hqa hBl2 hcap2 (by omega) rfl (fun i y hy => by rw [Nat.zero_add i]; exact hy) (by omega) rfl rfl (by decide) (by decide) (by decide))) ?_
      refine s_nil ?_
      refine n_blo ?_
      refine n_wp ?_
      refine c_reg (by kernel_rfl) rfl ?_
      refine s_p (by first | exact h_bin rfl rfl (b_add (Go.IntWalk.i64_in _ (by omega))) | exact h_bin rfl rfl (b_add rfl)) ?_
      refine s_p (by first | exact h_move (v := .s _) rfl | exact h_move (v := .agg _) rfl | exact h_move (v := .tup _) rfl) ?_
      refine s_nil ?_
      exact n_round (3 - 3) (by omega) ⟨3, tk qa B2, ta + len2, by omega, rfl, fun e => absurd e (by omega), fun e => absurd e (by omega), fun e => absurd e (by omega), fun _ => ⟨by rw [heq], by rw [het]⟩, tk_ok hqa _, rfl, rfl⟩ (weakR' [0, 1, 2, 3, 4, 5, 6, 10, 8, 9] rfl (by decide) rfl (by repeat (first | exact trivial | refine ⟨⟨_, _, rfl, rfl, rfl, rfl, rfl⟩, ?_⟩)) (by repeat (first | exact trivial | refine ⟨⟨rfl, rfl⟩, ?_⟩)))
  · skip
    have hi1 : i = 3 := by have := of_decide_eq_false hc_t32; omega
    subst hi1
    obtain ⟨rfl, rfl⟩ := h3 rfl
    refine w_exit ?_
    refine x_thn ?_
    refine x_thn ?_
    refine x_eq ?_
    refine n_wp ?_
    refine w_seq ?_
    refine c_reg (by kernel_rfl) rfl ?_
    refine s_p (by first | exact h_move (v := .s _) rfl | exact h_move (v := .agg _) rfl | exact h_move (v := .tup _) rfl) ?_
    refine s_m (m_call callable_58 rfl (Sum_c _ 6 7 (tk (tk (hmI K) B1) B2) (64 + len1 + len2) _ hqa (by omega) rfl rfl rfl (by decide))) ?_
    refine s_heap (H' := [some ⟨false, [.ints .u8 32 K]⟩, some ⟨false, [.one .nils, .one (.slice 2 0 0 len1 cap1), .one (.slice 3 0 0 len2 cap2)]⟩, some ⟨false, [.ints .u8 len1 B1]⟩, some ⟨false, [.ints .u8 len2 B2]⟩, some ⟨true, [.ints .u8 32 (z 32)]⟩, some ⟨true, [.ints .u8 64 (k64 K)]⟩, some ⟨true, [.one (.ptr 7 0 0), .ints .u8 64 (tk (tk (hmI K) B1) B2).b, .one (.int .i64 ((tk (tk (hmI K) B1) B2).m : Nat)), .one (.int .u64 ((64 + len1 + len2 : Nat) : Int))]⟩, none, some ⟨true, [.one (.ptr 9 0 0), .ints .u8 64 (run0).b, .one (.int .i64 ((run0).m : Nat)), .one (.int .u64 ((0 : Nat) : Int))]⟩, some ⟨true, [.ints .u32 8 (run0).s]⟩]) (by kernel_rfl) ?_
    refine s_a (h_alloc (segs := [.ints .u8 32 (z 32)]) Try.zeroValue44 (by kernel_rfl) rfl) rfl ?_
    refine s_st (m_store_agg (n := 32) (segs := [.ints .u8 32 (z 32)]) (sub := [.ints .u8 32 (sumL (tk (tk (hmI K) B1) B2) (64 + len1 + len2))]) (id := 10) (base := 0) (idx := 0) rfl rfl rfl (.whole (Nat.le_of_ble_eq_true rfl) rfl rfl) Try.sizeOf44 rfl) ?_
    refine s_nil ?_
    refine n_wp ?_
    refine w_seq ?_
    refine c_reg (by kernel_rfl) rfl ?_
    refine s_p (by first | exact h_move (v := .s _) rfl | exact h_move (v := .agg _) rfl | exact h_move (v := .tup _) rfl) ?_
    refine s_p (by first | exact h_move (v := .s _) rfl | exact h_move (v := .agg _) rfl | exact h_move (v := .tup _) rfl) ?_
    refine s_a (h_callc callable_55 rfl rfl (macBy_c _ 5 (k64 K) 92 _ (k64_len _) rfl rfl)) rfl ?_
    refine s_m (m_call callable_57 rfl (Write_s _ 8 11 9 0 run0 0 (xk (k64 K) 92 64) 64 64 _ run0_ok ((xk_len _ _ _).trans (k64_len _)) (Nat.le_refl _) (by omega) rfl (fun i y hy => by rw [Nat.zero_add i]; exact hy) (by omega) rfl rfl (by decide) (by decide) (by decide))) ?_
    refine s_heap (H' := [some ⟨false, [.ints .u8 32 K]⟩, some ⟨false, [.one .nils, .one (.slice 2 0 0 len1 cap1), .one (.slice 3 0 0 len2 cap2)]⟩, some ⟨false, [.ints .u8 len1 B1]⟩, some ⟨false, [.ints .u8 len2 B2]⟩, some ⟨true, [.ints .u8 32 (z 32)]⟩, some ⟨true, [.ints .u8 64 (k64 K)]⟩, some ⟨true, [.one (.ptr 7 0 0), .ints .u8 64 (tk (tk (hmI K) B1) B2).b, .one (.int .i64 ((tk (tk (hmI K) B1) B2).m : Nat)), .one (.int .u64 ((64 + len1 + len2 : Nat) : Int))]⟩, none, some ⟨true, [.one (.ptr 12 0 0), .ints .u8 64 (tk run0 (xk (k64 K) 92 64)).b, .one (.int .i64 ((tk run0 (xk (k64 K) 92 64)).m : Nat)), .one (.int .u64 ((64 : Nat) : Int))]⟩, none, some ⟨true, [.ints .u8 32 (sumL (tk (tk (hmI K) B1) B2) (64 + len1 + len2))]⟩, some ⟨true, [.ints .u8 64 (xk (k64 K) 92 64)]⟩, some ⟨true, [.ints .u32 8 (tk run0 (xk (k64 K) 92 64)).s]⟩]) (by kernel_rfl) ?_
    refine s_nil ?_
    refine n_wp ?_
    refine w_seq ?_
    refine c_reg (by kernel_rfl) rfl ?_
    refine s_p (by first | exact h_move (v := .s _) rfl | exact h_move (v := .agg _) rfl | exact h_move (v := .tup _) rfl) ?_
    refine s_p (h_asl_0 rfl Try.underlying44 Try.sizeOf5 (by omega)) ?_
    refine s_m (m_call callable_57 rfl (Write_s _ 8 10 12 0 (tk run0 (xk (k64 K) 92 64)) 64 (sumL (tk (tk (hmI K) B1) B2) (64 + len1 + len2)) 32 32 _ (tk_ok run0_ok _) (sumL_len _ _) (Nat.le_refl _) (by omega) rfl (fun i y hy => by rw [Nat.zero_add i]; exact hy) (by omega) rfl rfl (by decide) (by decide) (by decide))) ?_
    refine s_heap (H' := [some ⟨false, [.ints .u8 32 K]⟩, some ⟨false, [.one .nils, .one (.slice 2 0 0 len1 cap1), .one (.slice 3 0 0 len2 cap2)]⟩, some ⟨false, [.ints .u8 len1 B1]⟩, some ⟨false, [.ints .u8 len2 B2]⟩, some ⟨true, [.ints .u8 32 (z 32)]⟩, some ⟨true, [.ints .u8 64 (k64 K)]⟩, some ⟨true, [.one (.ptr 7 0 0), .ints .u8 64 (tk (tk (hmI K) B1) B2).b, .one (.int .i64 ((tk (tk (hmI K) B1) B2).m : Nat)), .one (.int .u64 ((64 + len1 + len2 : Nat) : Int))]⟩, none, some ⟨true, [.one (.ptr 13 0 0), .ints .u8 64 (tk (tk run0 (xk (k64 K) 92 64)) (sumL (tk (tk (hmI K) B1) B2) (64 + len1 + len2))).b, .one (.int .i64 ((tk (tk run0 (xk (k64 K) 92 64)) (sumL (tk (tk (hmI K) B1) B2) (64 + len1 + len2))).m : Nat)), .one (.int .u64 ((96 : Nat) : Int))]⟩, none, some ⟨true, [.ints .u8 32 (sumL (tk (tk (hmI K) B1) B2) (64 + len1 + len2))]⟩, some ⟨true, [.ints .u8 64 (xk (k64 K) 92 64)]⟩, none, some ⟨true, [.ints .u32 8 (tk (tk run0 (xk (k64 K) 92 64)) (sumL (tk (tk (hmI K) B1) B2) (64 + len1 + len2))).s]⟩]) (by kernel_rfl) ?_
    refine s_nil ?_
    refine n_wp ?_
    refine w_seq ?_
    refine c_reg (by kernel_rfl) rfl ?_
    refine s_p (by first | exact h_move (v := .s _) rfl | exact h_move (v := .agg _) rfl | exact h_move (v := .tup _) rfl) ?_
    refine s_m (m_call callable_58 rfl (Sum_c _ 8 13 (tk (tk run0 (xk (k64 K) 92 64)) (sumL (tk (tk (hmI K) B1) B2) (64 + len1 + len2))) 96 _ (tk_ok (tk_ok run0_ok _) _) (by omega) rfl rfl rfl (by decide))) ?_
    refine s_heap (H' := [some ⟨false, [.ints .u8 32 K]⟩, some ⟨false, [.one .nils, .one (.slice 2 0 0 len1 cap1), .one (.slice 3 0 0 len2 cap2)]⟩, some ⟨false, [.ints .u8 len1 B1]⟩, some ⟨false, [.ints .u8 len2 B2]⟩, some ⟨true, [.ints .u8 32 (z 32)]⟩, some ⟨true, [.ints .u8 64 (k64 K)]⟩, some ⟨true, [.one (.ptr 7 0 0), .ints .u8 64 (tk (tk (hmI K) B1) B2).b, .one (.int .i64 ((tk (tk (hmI K) B1) B2).m : Nat)), .one (.int .u64 ((64 + len1 + len2 : Nat) : Int))]⟩, none, some ⟨true, [.one (.ptr 13 0 0), .ints .u8 64 (tk (tk run0 (xk (k64 K) 92 64)) (sumL (tk (tk (hmI K) B1) B2) (64 + len1 + len2))).b, .one (.int .i64 ((tk (tk run0 (xk (k64 K) 92 64)) (sumL (tk (tk (hmI K) B1) B2) (64 + len1 + len2))).m : Nat)), .one (.int .u64 ((96 : Nat) : Int))]⟩, none, some ⟨true, [.ints .u8 32 (sumL (tk (tk (hmI K) B1) B2) (64 + len1 + len2))]⟩, some ⟨true, [.ints .u8 64 (xk (k64 K) 92 64)]⟩, none, none]) (by kernel_rfl) ?_
    refine s_st (m_store_agg (n := 32) (segs := [.ints .u8 32 (z 32)]) (sub := [.ints .u8 32 (hmO K (tk (tk (hmI K) B1) B2) (64 + len1 + len2))]) (id := 4) (base := 0) (idx := 0) rfl rfl rfl (.whole (Nat.le_of_ble_eq_true rfl) rfl rfl) Try.sizeOf44 rfl) ?_
    refine s_nil ?_
    refine n_wp ?_
    refine w_ret ?_
    exact doneM (by repeat (first | exact trivial | refine ⟨rfl, ?_⟩)) (ret_cell_agg Try.results31 rfl rfl (.whole rfl) Try.isAgg44 Try.sizeOf44)
end Go.Proofs.X
end
