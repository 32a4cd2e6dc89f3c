/- A part of the proofs of this claim: ShaW2. No conditions. -/
import Derived.Test.YtffflnpidipheaaShaW1
open Go Go.Ab Go.Proofs
namespace Go.Proofs.X
set_option maxRecDepth 100000 in
set_option maxHeartbeats 2000000 in
theorem numbers_c (H : Heap) (id sh : Nat) (hid : id < H.length) : ACall Try.prog 80 H [.s (.ptr id (0 + sh) 0)] (.s (.clo 83 [(H.length + 1, 0 + 0, 0), (H.length + 2, 0 + 0, 0), (H.length + 0, 0 + 0, 0)])) [⟨true, [.one (.ptr id (0 + sh) 0)]⟩, ⟨true, [.ints .u32 16 (z 16)]⟩, ⟨true, [.one (.int .i64 0)]⟩] := by
  refine acall_gen2 (args0 := [.s (.ptr 0 0 0)]) (H0 := [none]) (Hf := [none, some ⟨true, [.one (.ptr 0 0 0)]⟩, some ⟨true, [.ints .u32 16 (z 16)]⟩, some ⟨true, [.one (.int .i64 0)]⟩]) (v0 := .s (.clo 83 [(2, 0, 0), (3, 0, 0), (1, 0, 0)])) [(id, sh)] [1, 2, 3] Try.func80 rfl Try.ntmps80 (by simp) rfl
    (fun k id sh b0 h1 h2 => by match k, h1, h2 with | 0, _, h2 => simp at h2 | k + 1, h1, _ => simp at h1)
    (fun W ρ vals w hH ha k id' sh' hk => by match k, hk with | 0, hk => (simp at hk; obtain ⟨rfl, rfl⟩ := hk; exact ⟨hid, live_ptr (i := 0) ha rfl⟩) | k + 1, hk => simp at hk)
    rfl rfl rfl (by decide) rfl rfl rfl (fun W w ρ0 hW hdom => ?_)
  refine w_seq ?_
  refine c_reg (by kernel_rfl) rfl ?_
  refine s_a (by first | exact h_box_agg rfl rfl | exact h_box rfl (by simp) rfl) rfl ?_
  refine s_p (by first | exact h_assign (v := .s _) rfl | exact h_assign (v := .agg _) rfl | exact h_assign (v := .tup _) rfl) ?_
  refine s_nil ?_
  refine n_wp ?_
  refine w_seq ?_
  refine c_reg (by kernel_rfl) rfl ?_
  refine s_a (h_alloc (segs := [.ints .u32 16 (z 16)]) Try.zeroValue160 (by kernel_rfl) rfl) rfl ?_
  refine s_nil ?_
  refine n_wp ?_
  refine w_seq ?_
  refine c_reg (by kernel_rfl) rfl ?_
  refine s_a (h_alloc (segs := [.one (.int .i64 0)]) Try.zeroValue3 (by kernel_rfl) rfl) rfl ?_
  refine s_st (by first | exact m_store_int rfl rfl rfl rfl (by omega) (by assumption) Try.sizeOf3 rfl | exact m_store_one rfl rfl (by simp) rfl rfl Try.sizeOf3 rfl) ?_
  refine s_nil ?_
  refine n_wp ?_
  refine w_seq ?_
  refine c_reg (by kernel_rfl) rfl ?_
  refine s_p (h_mkfunc (caps := [(2, 0, 0), (3, 0, 0), (1, 0, 0)]) rfl) ?_
  refine s_p (by first | exact h_assign (v := .s _) rfl | exact h_assign (v := .agg _) rfl | exact h_assign (v := .tup _) rfl) ?_
  refine s_nil ?_
  refine n_wp ?_
  refine w_ret ?_
  exact doneM (by repeat (first | exact trivial | refine ⟨rfl, ?_⟩)) (ret_tmp Try.results80 rfl)
set_option maxRecDepth 100000 in
set_option maxHeartbeats 2000000 in
theorem nextn_c (H : Heap) (iw it ib ix sh : Nat) (b w : List Int) (t : Nat) (bb bx : Blk) (hw : H[iw]? = some (some ⟨true, [.ints .u32 16 w]⟩)) (ht : H[it]? = some (some ⟨true, [.one (.int .i64 t)]⟩)) (hbb : H[ib]? = some (some bb)) (hbs : bb.segs = [.one (.ptr ix (0 + sh) 0)]) (hbx : H[ix]? = some (some bx)) (hxs : ∀ (i : Nat) (y : SV), atS [.ints .u8 64 b] i = some y → atS bx.segs (sh + i) = some y)
    (hwl : w.length = 16) (hb : b.length = 64) (htm : t < 1000) (hn1 : iw ≠ it) (hn2 : iw ≠ ib) (hn3 : iw ≠ ix) (hn4 : it ≠ ib) (hn5 : it ≠ ix) : AMut Try.prog 83 H [.s (.ptr iw (0 + 0) 0), .s (.ptr it (0 + 0) 0), .s (.ptr ib (0 + 0) 0)] (.s (.int .u32 ((wn b w t).getD (t % 16) 0))) ((H.set iw (some ⟨true, [.ints .u32 16 (wn b w t)]⟩)).set it (some ⟨true, [.one (.int .i64 ((t + 1 : Nat) : Int))]⟩)) := by
  refine amut_gen (args0 := [.s (.ptr 0 0 0), .s (.ptr 1 0 0), .s (.ptr 2 0 0)]) (H0 := [some ⟨true, [.ints .u32 16 w]⟩, some ⟨true, [.one (.int .i64 t)]⟩, some ⟨false, [.one (.ptr 3 0 0)]⟩, some ⟨false, [.ints .u8 64 b]⟩]) (Hf := [some ⟨true, [.ints .u32 16 (wn b w t)]⟩, some ⟨true, [.one (.int .i64 ((t + 1 : Nat) : Int))]⟩]) (v0 := .s (.int .u32 ((wn b w t).getD (t % 16) 0))) [(iw, 0), (it, 0), (ib, 0), (ix, sh)] [] Try.func83 rfl Try.ntmps83 (by simp) rfl
    (fun k id sh' b0 h1 h2 => by
      match k, h1, h2 with
      | 0, h1, h2 => simp at h1 h2; obtain ⟨rfl, rfl⟩ := h1; subst h2; exact ⟨rfl, _, hw, fun _ => ⟨rfl, rfl⟩, foot_same rfl⟩
      | 1, h1, h2 => simp at h1 h2; obtain ⟨rfl, rfl⟩ := h1; subst h2; exact ⟨rfl, _, ht, fun _ => ⟨rfl, rfl⟩, foot_same rfl⟩
      | 2, h1, h2 => simp at h1 h2; obtain ⟨rfl, rfl⟩ := h1; subst h2; exact ⟨rfl, _, hbb, fun e => (by cases e), foot_same hbs⟩
      | 3, h1, h2 => simp at h1 h2; obtain ⟨rfl, rfl⟩ := h1; subst h2; exact ⟨rfl, _, hbx, fun e => (by cases e), fun i y hy => by (have h := hxs i y hy; obtain ⟨_, rfl⟩ := atS_ints1 hy; exact h)⟩
      | k + 4, h1, _ => simp at h1)
    (fun k k' id s1 s2 b0 h1 h1' hne h2 => by
      match k, k', h1, h1', h2, hne with
      | 0, 0, _, _, _, hne => exact absurd rfl hne
      | 0, 1, h1, h1', _, _ => simp at h1 h1'; exact absurd (h1.1.trans h1'.1.symm) hn1
      | 0, 2, h1, h1', _, _ => simp at h1 h1'; exact absurd (h1.1.trans h1'.1.symm) hn2
      | 0, 3, h1, h1', _, _ => simp at h1 h1'; exact absurd (h1.1.trans h1'.1.symm) hn3
      | 1, 0, h1, h1', _, _ => simp at h1 h1'; exact absurd (h1'.1.trans h1.1.symm) hn1
      | 1, 1, _, _, _, hne => exact absurd rfl hne
      | 1, 2, h1, h1', _, _ => simp at h1 h1'; exact absurd (h1.1.trans h1'.1.symm) hn4
      | 1, 3, h1, h1', _, _ => simp at h1 h1'; exact absurd (h1.1.trans h1'.1.symm) hn5
      | 2, _, _, _, h2, _ => simp at h2; subst h2; rfl
      | 3, _, _, _, h2, _ => simp at h2; subst h2; rfl
      | 0, k + 4, _, h1', _, _ => simp at h1'
      | 1, k + 4, _, h1', _, _ => simp at h1'
      | k + 4, _, h1, _, _, _ => simp at h1)
    (fun W ρ vals w hH ha k id' sh' hk => by
      match k, hk with
      | 0, hk => simp at hk; obtain ⟨rfl, rfl⟩ := hk; exact live_ptr (i := 0) ha rfl
      | 1, hk => simp at hk; obtain ⟨rfl, rfl⟩ := hk; exact live_ptr (i := 1) ha rfl
      | 2, hk => simp at hk; obtain ⟨rfl, rfl⟩ := hk; exact live_ptr (i := 2) ha rfl
      | 3, hk => simp at hk; obtain ⟨rfl, rfl⟩ := hk; exact live_in (p := 0) hH (live_ptr (i := 2) ha rfl) hbb (by rw [hbs]; rfl)
      | k + 4, hk => simp at hk)
    rfl rfl rfl (by decide) rfl rfl (by rw [show newH [(iw, 0), (it, 0), (ib, 0), (ix, sh)] [] H.length _ = [] from rfl, List.append_nil]; rfl) (fun W w' ρ0 hW hdom => ?_)
  refine w_seq ?_
  refine c_reg (by kernel_rfl) rfl ?_
  refine s_p (by first | exact h_assign (v := .s _) rfl | exact h_assign (v := .agg _) rfl | exact h_assign (v := .tup _) rfl) ?_
  refine s_nil ?_
  refine n_wp ?_
  refine w_seq ?_
  refine c_reg (by kernel_rfl) rfl ?_
  refine s_p (by first | exact h_load_ints rfl rfl rfl (by omega) rfl Try.isAgg3 | exact h_load_one rfl rfl rfl Try.isAgg3) ?_
  refine s_p (h_bin rfl rfl (b_rem (r := ((t % 16 : Nat) : Int)) (by omega) rfl)) ?_
  refine s_p (by first | exact h_ix rfl rfl Try.underlying160 Try.sizeOf61 (by omega) | exact h_ixa rfl rfl Try.underlying160 Try.sizeOf61 (by omega) | exact h_ixl (Int.toNat _) rfl rfl (Int.toNat_of_nonneg (by omega)).symm Try.underlying160 Try.sizeOf61 (by omega)) ?_
  refine s_p (by first | exact h_assign (v := .s _) rfl | exact h_assign (v := .agg _) rfl | exact h_assign (v := .tup _) rfl) ?_
  refine s_nil ?_
  refine n_wp ?_
  refine w_seq ?_
  refine w_seq ?_
  refine c_reg (by kernel_rfl) rfl ?_
  refine s_p (by first | exact h_load_ints rfl rfl rfl (by omega) rfl Try.isAgg3 | exact h_load_one rfl rfl rfl Try.isAgg3) ?_
  refine s_p (h_bin rfl rfl (b_lss rfl)) ?_
  refine s_nil ?_
  refine n_wp ?_
  refine w_cond rfl (fun hc_t13 => ?_) (fun hc_t13 => ?_)
  · skip
    have hlt : t < 16 := by have := of_decide_eq_true hc_t13; omega
    have hwn := wn_lt b w hlt
    refine w_seq ?_
    refine c_any 11 mix (by kernel_rfl) (by kernel_rfl) rfl rfl rfl ?_
    refine t_p (by first | exact h_load_ints rfl rfl rfl (by omega) rfl Try.isAgg153 | exact h_load_one rfl rfl rfl Try.isAgg153) ?_
    refine t_p (h_nilCheck rfl) ?_
    refine t_p (h_field rfl Try.underlying140 rfl Try.sizeOf112 (by decide)) ?_
    refine t_p (by first | exact h_load_ints rfl rfl rfl (by omega) rfl Try.isAgg3 | exact h_load_one rfl rfl rfl Try.isAgg3) ?_
    refine t_p (h_bin rfl rfl (b_mul (r := ((4 * t : Nat) : Int)) (wr_n (by omega) (by omega)))) ?_
    refine t_p (h_asl_l (l := 4 * t) rfl rfl rfl Try.underlying112 Try.sizeOf5 (by omega)) ?_
    refine t_p (h_call callable_63 rfl (get_c ((b.drop (0 + 4 * t)).take (64 - 4 * t)) 4 (by omega) (by omega) (64 - 4 * t) (64 - 4 * t) _ 3 0 (0 + 4 * t) 64 _ b rfl rfl (by omega) rfl (by omega) (by omega) hb)) ?_
    refine t_p (by first | exact h_move (v := .s _) rfl | exact h_move (v := .agg _) rfl | exact h_move (v := .tup _) rfl) ?_
    refine t_p (h_extract rfl rfl (by simp)) ?_
    refine t_p (h_extract rfl rfl (by simp)) ?_
    refine t_p (by first | exact h_assign (v := .s _) rfl | exact h_assign (v := .agg _) rfl | exact h_assign (v := .tup _) rfl) ?_
    refine t_nil ?_
    refine s_p (by first | exact h_assign (v := .s _) rfl | exact h_assign (v := .agg _) rfl | exact h_assign (v := .tup _) rfl) ?_
    refine s_nil ?_
    refine n_wp ?_
    refine c_reg (by kernel_rfl) rfl ?_
    refine s_p (by first | exact h_move (v := .s _) rfl | exact h_move (v := .agg _) rfl | exact h_move (v := .tup _) rfl) ?_
    refine s_p (by first | exact h_move (v := .s _) rfl | exact h_move (v := .agg _) rfl | exact h_move (v := .tup _) rfl) ?_
    refine s_p (by first | exact h_conv rfl Try.underlying40 Try.underlying61 (Go.IntWalk.i64_in _ (by omega)) | exact h_conv rfl Try.underlying40 Try.underlying61 (wrap_u8 (by omega) (by omega)) | exact h_conv rfl Try.underlying40 Try.underlying61 rfl) ?_
    refine s_p (h_nilCheck rfl) ?_
    refine s_st (by first | exact m_store_int rfl rfl rfl rfl (by omega) (by (first | assumption | (simp only [List.length_set]; assumption))) Try.sizeOf61 rfl | exact m_store_one rfl rfl (by simp) rfl rfl Try.sizeOf61 rfl) ?_
    refine s_nil ?_
    refine n_wp ?_
    refine w_seq ?_
    refine c_reg (by kernel_rfl) rfl ?_
    refine s_p (by first | exact h_load_ints rfl rfl rfl (by omega) rfl Try.isAgg3 | exact h_load_one rfl rfl rfl Try.isAgg3) ?_
    refine s_p (h_bin rfl rfl (b_add (r := ((t + 1 : Nat) : Int)) (wr_n (by omega) (by omega)))) ?_
    refine s_st (by first | exact m_store_int rfl rfl rfl rfl (by omega) (by (first | assumption | (simp only [List.length_set]; assumption))) Try.sizeOf3 rfl | exact m_store_one rfl rfl (by simp) rfl rfl Try.sizeOf3 rfl) ?_
    refine s_nil ?_
    refine n_wp ?_
    refine w_seq ?_
    refine c_reg (by kernel_rfl) rfl ?_
    refine s_p (by first | exact h_move (v := .s _) rfl | exact h_move (v := .agg _) rfl | exact h_move (v := .tup _) rfl) ?_
    refine s_p (h_nilCheck rfl) ?_
    refine s_p (by first | exact h_load_ints rfl rfl rfl (by omega) rfl Try.isAgg61 | exact h_load_one rfl rfl rfl Try.isAgg61) ?_
    refine s_p (by first | exact h_assign (v := .s _) rfl | exact h_assign (v := .agg _) rfl | exact h_assign (v := .tup _) rfl) ?_
    refine s_nil ?_
    refine n_wp ?_
    refine w_ret ?_
    rw [hwn]
    exact doneM (by repeat (first | exact trivial | refine ⟨rfl, ?_⟩)) (ret_tmp Try.results83 rfl)
  · skip
    have hge : ¬ t < 16 := by have := of_decide_eq_false hc_t13; omega
    have hwn := wn_ge b w hge
    unfold wn3 wn2 wn1 at hwn
    refine w_seq ?_
    refine c_any 11 mix (by kernel_rfl) (by kernel_rfl) rfl rfl rfl ?_
    refine t_p (by first | exact h_load_ints rfl rfl rfl (by omega) rfl Try.isAgg3 | exact h_load_one rfl rfl rfl Try.isAgg3) ?_
    refine t_p (h_bin rfl rfl (b_add (r := ((t + 1 : Nat) : Int)) (wr_n (by omega) (by omega)))) ?_
    refine t_p (h_bin rfl rfl (b_rem (r := (((t + 1) % 16 : Nat) : Int)) (by omega) rfl)) ?_
    refine t_p (by first | exact h_ix rfl rfl Try.underlying160 Try.sizeOf61 (by omega) | exact h_ixa rfl rfl Try.underlying160 Try.sizeOf61 (by omega) | exact h_ixl (Int.toNat _) rfl rfl (Int.toNat_of_nonneg (by omega)).symm Try.underlying160 Try.sizeOf61 (by omega)) ?_
    refine t_p (by first | exact h_load_ints rfl rfl rfl (by omega) rfl Try.isAgg61 | exact h_load_one rfl rfl rfl Try.isAgg61) ?_
    refine t_p (by first | exact h_load_ints rfl rfl rfl (by omega) rfl Try.isAgg3 | exact h_load_one rfl rfl rfl Try.isAgg3) ?_
    refine t_p (h_bin rfl rfl (b_add (r := ((t + 14 : Nat) : Int)) (wr_n (by omega) (by omega)))) ?_
    refine t_p (h_bin rfl rfl (b_rem (r := (((t + 14) % 16 : Nat) : Int)) (by omega) rfl)) ?_
    refine t_p (by first | exact h_ix rfl rfl Try.underlying160 Try.sizeOf61 (by omega) | exact h_ixa rfl rfl Try.underlying160 Try.sizeOf61 (by omega) | exact h_ixl (Int.toNat _) rfl rfl (Int.toNat_of_nonneg (by omega)).symm Try.underlying160 Try.sizeOf61 (by omega)) ?_
    refine t_p (by first | exact h_load_ints rfl rfl rfl (by omega) rfl Try.isAgg61 | exact h_load_one rfl rfl rfl Try.isAgg61) ?_
    refine t_p (by first | exact h_assign (v := .s _) rfl | exact h_assign (v := .agg _) rfl | exact h_assign (v := .tup _) rfl) ?_
    refine t_nil ?_
    refine s_p (by first | exact h_assign (v := .s _) rfl | exact h_assign (v := .agg _) rfl | exact h_assign (v := .tup _) rfl) ?_
    refine s_nil ?_
    refine n_wp ?_
    refine w_seq ?_
    refine c_any 9 mix (by kernel_rfl) (by kernel_rfl) rfl rfl rfl ?_
    refine t_p (by first | exact h_move (v := .s _) rfl | exact h_move (v := .agg _) rfl | exact h_move (v := .tup _) rfl) ?_
    refine t_p (h_nilCheck rfl) ?_
    refine t_p (by first | exact h_load_ints rfl rfl rfl (by omega) rfl Try.isAgg61 | exact h_load_one rfl rfl rfl Try.isAgg61) ?_
    refine t_p (by first | exact h_move (v := .s _) rfl | exact h_move (v := .agg _) rfl | exact h_move (v := .tup _) rfl) ?_
    refine t_a (h_bsli2 rfl rfl Try.underlying162 Try.sizeOf3 Try.zeroValue3 rfl rfl) rfl ?_
    refine t_p (h_call callable_82 rfl (down_c _ [7, 18] 2 2 _ 4 0 0 2 _ [7, 18] rfl rfl (by omega) rfl (by omega))) ?_
    refine t_p (by first | exact h_move (v := .s _) rfl | exact h_move (v := .agg _) rfl | exact h_move (v := .tup _) rfl) ?_
    refine t_p (h_bin rfl rfl (b_shr (by omega) rfl)) ?_
    refine t_p (h_bin rfl rfl (b_xor rfl)) ?_
    refine t_nil ?_
    refine s_p (h_bin rfl rfl (b_add rfl)) ?_
    refine s_p (h_nilCheck rfl) ?_
    refine s_st (by first | exact m_store_int rfl rfl rfl rfl (by omega) (by (first | assumption | (simp only [List.length_set]; assumption))) Try.sizeOf61 rfl | exact m_store_one rfl rfl (by simp) rfl rfl Try.sizeOf61 rfl) ?_
    refine s_nil ?_
    refine n_wp ?_
    refine w_seq ?_
    refine c_any 9 mix (by kernel_rfl) (by kernel_rfl) rfl rfl rfl ?_
    refine t_p (by first | exact h_move (v := .s _) rfl | exact h_move (v := .agg _) rfl | exact h_move (v := .tup _) rfl) ?_
    refine t_p (h_nilCheck rfl) ?_
    refine t_p (by first | exact h_load_ints rfl rfl rfl (by omega) rfl Try.isAgg61 | exact h_load_one rfl rfl rfl Try.isAgg61) ?_
    refine t_p (by first | exact h_move (v := .s _) rfl | exact h_move (v := .agg _) rfl | exact h_move (v := .tup _) rfl) ?_
    refine t_a (h_bsli2 rfl rfl Try.underlying162 Try.sizeOf3 Try.zeroValue3 rfl rfl) rfl ?_
    refine t_p (h_call callable_82 rfl (down_c _ [17, 19] 2 2 _ 5 0 0 2 _ [17, 19] rfl rfl (by omega) rfl (by omega))) ?_
    refine t_p (by first | exact h_move (v := .s _) rfl | exact h_move (v := .agg _) rfl | exact h_move (v := .tup _) rfl) ?_
    refine t_p (h_bin rfl rfl (b_shr (by omega) rfl)) ?_
    refine t_p (h_bin rfl rfl (b_xor rfl)) ?_
    refine t_nil ?_
    refine s_p (h_bin rfl rfl (b_add rfl)) ?_
    refine s_p (h_nilCheck rfl) ?_
    refine s_st (by first | exact m_store_int rfl rfl rfl rfl (by omega) (by (first | assumption | (simp only [List.length_set]; assumption))) Try.sizeOf61 rfl | exact m_store_one rfl rfl (by simp) rfl rfl Try.sizeOf61 rfl) ?_
    refine s_nil ?_
    refine n_wp ?_
    refine c_any 8 mix (by kernel_rfl) (by kernel_rfl) rfl rfl rfl ?_
    refine t_p (by first | exact h_move (v := .s _) rfl | exact h_move (v := .agg _) rfl | exact h_move (v := .tup _) rfl) ?_
    refine t_p (h_nilCheck rfl) ?_
    refine t_p (by first | exact h_load_ints rfl rfl rfl (by omega) rfl Try.isAgg61 | exact h_load_one rfl rfl rfl Try.isAgg61) ?_
    refine t_p (by first | exact h_load_ints rfl rfl rfl (by omega) rfl Try.isAgg3 | exact h_load_one rfl rfl rfl Try.isAgg3) ?_
    refine t_p (h_bin rfl rfl (b_add (r := ((t + 9 : Nat) : Int)) (wr_n (by omega) (by omega)))) ?_
    refine t_p (h_bin rfl rfl (b_rem (r := (((t + 9) % 16 : Nat) : Int)) (by omega) rfl)) ?_
    refine t_p (by first | exact h_ix rfl rfl Try.underlying160 Try.sizeOf61 (by omega) | exact h_ixa rfl rfl Try.underlying160 Try.sizeOf61 (by omega) | exact h_ixl (Int.toNat _) rfl rfl (Int.toNat_of_nonneg (by omega)).symm Try.underlying160 Try.sizeOf61 (by omega)) ?_
    refine t_p (by first | exact h_load_ints rfl rfl rfl (by omega) rfl Try.isAgg61 | exact h_load_one rfl rfl rfl Try.isAgg61) ?_
    refine t_nil ?_
    refine s_p (h_bin rfl rfl (b_add rfl)) ?_
    refine s_p (h_nilCheck rfl) ?_
    refine s_st (by first | exact m_store_int rfl rfl rfl rfl (by omega) (by (first | assumption | (simp only [List.length_set]; assumption))) Try.sizeOf61 rfl | exact m_store_one rfl rfl (by simp) rfl rfl Try.sizeOf61 rfl) ?_
    refine s_nil ?_
    refine n_wp ?_
    refine w_seq ?_
    refine c_reg (by kernel_rfl) rfl ?_
    refine s_p (by first | exact h_load_ints rfl rfl rfl (by omega) rfl Try.isAgg3 | exact h_load_one rfl rfl rfl Try.isAgg3) ?_
    refine s_p (h_bin rfl rfl (b_add (r := ((t + 1 : Nat) : Int)) (wr_n (by omega) (by omega)))) ?_
    refine s_st (by first | exact m_store_int rfl rfl rfl rfl (by omega) (by (first | assumption | (simp only [List.length_set]; assumption))) Try.sizeOf3 rfl | exact m_store_one rfl rfl (by simp) rfl rfl Try.sizeOf3 rfl) ?_
    refine s_nil ?_
    refine n_wp ?_
    refine w_seq ?_
    refine c_reg (by kernel_rfl) rfl ?_
    refine s_p (by first | exact h_move (v := .s _) rfl | exact h_move (v := .agg _) rfl | exact h_move (v := .tup _) rfl) ?_
    refine s_p (h_nilCheck rfl) ?_
    refine s_p (by first | exact h_load_ints rfl rfl rfl (by omega) rfl Try.isAgg61 | exact h_load_one rfl rfl rfl Try.isAgg61) ?_
    refine s_p (by first | exact h_assign (v := .s _) rfl | exact h_assign (v := .agg _) rfl | exact h_assign (v := .tup _) rfl) ?_
    refine s_nil ?_
    refine n_wp ?_
    refine w_ret ?_
    rw [hwn]
    exact doneM (by repeat (first | exact trivial | refine ⟨rfl, ?_⟩)) (ret_tmp Try.results83 rfl)
end Go.Proofs.X
