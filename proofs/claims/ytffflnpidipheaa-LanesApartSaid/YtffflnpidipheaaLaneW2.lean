/- A part of the proofs of this claim: LaneW2 (LaneW2). No conditions. -/
import Derived.Test.YtffflnpidipheaaLaneW1
set_option linter.unusedVariables false
set_option linter.unusedSimpArgs false
open Go Go.Ab Go.Proofs
namespace Go.Proofs.X
theorem callable_46 : Callable Try.prog 46 := ⟨_, Try.func46, by kernel_rfl, rfl⟩
theorem callable_47 : Callable Try.prog 47 := ⟨_, Try.func47, by kernel_rfl, rfl⟩
theorem callable_39 : Callable Try.prog 39 := ⟨_, Try.func39, by kernel_rfl, rfl⟩
theorem callable_40 : Callable Try.prog 40 := ⟨_, Try.func40, by kernel_rfl, rfl⟩
theorem callable_41 : Callable Try.prog 41 := ⟨_, Try.func41, by kernel_rfl, rfl⟩
theorem callable_42 : Callable Try.prog 42 := ⟨_, Try.func42, by kernel_rfl, rfl⟩
theorem callable_43 : Callable Try.prog 43 := ⟨_, Try.func43, by kernel_rfl, rfl⟩
set_option maxRecDepth 100000 in
set_option maxHeartbeats 2000000 in
theorem NewOut_c (H : Heap) (M C : List Int) (l : Nat) : ACall Try.prog 46 H [.agg [.ints .u8 32 M, .ints .u8 16 C], .s (.int .u32 ((l : Nat) : Int))] (.s (.ptr (H.length + 0) (0 + 0) 0)) [⟨true, [.ints .u8 32 M, .ints .u8 16 C, .one (.int .u32 ((l : Nat) : Int)), .one (.int .i64 1), .one (.int .i64 ((0 : Nat) : Int))]⟩] := by
  refine acall_gen2 (args0 := [.agg [.ints .u8 32 M, .ints .u8 16 C], .s (.int .u32 ((l : Nat) : Int))]) (H0 := []) (Hf := [none, some ⟨true, [.ints .u8 32 M, .ints .u8 16 C, .one (.int .u32 ((l : Nat) : Int)), .one (.int .i64 1), .one (.int .i64 ((0 : Nat) : Int))]⟩]) (v0 := .s (.ptr 1 0 0)) [] [1] Try.func46 rfl Try.ntmps46 (by simp) rfl
    (fun k id sh b0 h1 h2 => by simp at h1) (fun W ρ vals w hH ha k id' sh' hk => by simp at hk) rfl rfl rfl (by decide) rfl rfl rfl (fun W w ρ0 hW hdom => ?_)
  refine w_seq ?_
  refine c_reg (by kernel_rfl) rfl ?_
  refine s_a (by first | exact h_box_agg rfl rfl | exact h_box rfl (by simp) rfl) rfl ?_
  refine s_p (by first | exact h_assign (v := .s _) rfl | exact h_assign (v := .agg _) rfl | exact h_assign (v := .tup _) rfl) ?_
  refine s_nil ?_
  refine n_wp ?_
  refine w_seq ?_
  refine c_reg (by kernel_rfl) rfl ?_
  refine s_p (h_load_agg rfl rfl (.whole rfl) Try.isAgg56 Try.sizeOf56) ?_
  refine s_p (by first | exact h_move (v := .s _) rfl | exact h_move (v := .agg _) rfl | exact h_move (v := .tup _) rfl) ?_
  refine s_p (h_bld3 (n := 48) (m := 1) (l := 1) (z := .agg ((z 48).map (Value.int .u8) ++ [Value.int .u32 0, Value.int .i64 0]).toArray) rfl rfl rfl rfl rfl rfl Try.underlying75 (fun w => by kernel_rfl) (fun w => by kernel_rfl) rfl rfl rfl rfl (by kernel_rfl) rfl) ?_
  refine s_p (h_bld1 (n := 50) (zr := [.int .i64 0]) (Z := [.one (.int .i64 0)]) (z := .agg ((z 48).map (Value.int .u8) ++ [Value.int .u32 0, Value.int .i64 0, Value.int .i64 0]).toArray) (places := #[(0, 50), (50, 1)]) rfl rfl Try.underlying77 (fun w => by kernel_rfl) (fun w => by kernel_rfl) rfl rfl (by kernel_rfl) (by decide) (fun ρ => rep_cons_one ⟨rfl, rfl⟩ rep_nil_agg) rfl) ?_
  refine s_a (by first | exact h_box_agg rfl rfl | exact h_box rfl (by simp) rfl) rfl ?_
  refine s_p (by first | exact h_assign (v := .s _) rfl | exact h_assign (v := .agg _) rfl | exact h_assign (v := .tup _) rfl) ?_
  refine s_nil ?_
  refine n_wp ?_
  refine w_ret ?_
  exact doneM (by repeat (first | exact trivial | refine ⟨rfl, ?_⟩)) (ret_tmp Try.results46 rfl)
set_option maxRecDepth 100000 in
set_option maxHeartbeats 2000000 in
theorem NewIn_c (H : Heap) (M C : List Int) (l : Nat) : ACall Try.prog 47 H [.agg [.ints .u8 32 M, .ints .u8 16 C], .s (.int .u32 ((l : Nat) : Int))] (.s (.ptr (H.length + 1) (0 + 0) 0)) [⟨true, [.ints .i64 1 [1], .ints .u64 64 (z 64), .one (.int .u64 0), .one (.int .u64 0)]⟩, ⟨true, [.ints .u8 32 M, .ints .u8 16 C, .one (.int .u32 ((l : Nat) : Int)), .one (.int .i64 1), .one (.ptr (H.length + 0) (0 + 0) 0)]⟩] := by
  refine acall_gen2 (args0 := [.agg [.ints .u8 32 M, .ints .u8 16 C], .s (.int .u32 ((l : Nat) : Int))]) (H0 := []) (Hf := [none, some ⟨true, [.ints .i64 1 [1], .ints .u64 64 (z 64), .one (.int .u64 0), .one (.int .u64 0)]⟩, some ⟨true, [.ints .u8 32 M, .ints .u8 16 C, .one (.int .u32 ((l : Nat) : Int)), .one (.int .i64 1), .one (.ptr 1 0 0)]⟩]) (v0 := .s (.ptr 2 0 0)) [] [1, 2] Try.func47 rfl Try.ntmps47 (by simp) rfl
    (fun k id sh b0 h1 h2 => by simp at h1) (fun W ρ vals w hH ha k id' sh' hk => by simp at hk) rfl rfl rfl (by decide) rfl rfl rfl (fun W w ρ0 hW hdom => ?_)
  refine w_seq ?_
  refine c_reg (by kernel_rfl) rfl ?_
  refine s_a (by first | exact h_box_agg rfl rfl | exact h_box rfl (by simp) rfl) rfl ?_
  refine s_p (by first | exact h_assign (v := .s _) rfl | exact h_assign (v := .agg _) rfl | exact h_assign (v := .tup _) rfl) ?_
  refine s_nil ?_
  refine n_wp ?_
  refine w_seq ?_
  refine c_any 4 mix (by kernel_rfl) (by kernel_rfl) rfl rfl rfl ?_
  refine t_p (h_load_agg rfl rfl (.whole rfl) Try.isAgg56 Try.sizeOf56) ?_
  refine t_p (by first | exact h_move (v := .s _) rfl | exact h_move (v := .agg _) rfl | exact h_move (v := .tup _) rfl) ?_
  refine t_p (h_bld3 (n := 48) (m := 1) (l := 1) (z := .agg ((z 48).map (Value.int .u8) ++ [Value.int .u32 0, Value.int .i64 0]).toArray) rfl rfl rfl rfl rfl rfl Try.underlying75 (fun w => by kernel_rfl) (fun w => by kernel_rfl) rfl rfl rfl rfl (by kernel_rfl) rfl) ?_
  refine t_a (h_call callable_67 rfl (WNew_c _)) rfl ?_
  refine t_nil ?_
  refine s_p (h_bld2 (n := 50) (m := 1) (z := .agg ((z 48).map (Value.int .u8) ++ [Value.int .u32 0, Value.int .i64 0, Value.pointer none]).toArray) rfl rfl rfl rfl Try.underlying82 (fun w => by kernel_rfl) (fun w => by kernel_rfl) rfl rfl rfl (by kernel_rfl) rfl) ?_
  refine s_a (by first | exact h_box_agg rfl rfl | exact h_box rfl (by simp) rfl) rfl ?_
  refine s_p (by first | exact h_assign (v := .s _) rfl | exact h_assign (v := .agg _) rfl | exact h_assign (v := .tup _) rfl) ?_
  refine s_nil ?_
  refine n_wp ?_
  refine w_ret ?_
  exact doneM (by repeat (first | exact trivial | refine ⟨rfl, ?_⟩)) (ret_tmp Try.results47 rfl)
set_option maxRecDepth 100000 in
set_option maxHeartbeats 2000000 in
theorem Used_c (H : Heap) (io : Nat) (M C : List Int) (l u : Nat) (bo : Blk) (ho : H[io]? = some (some bo)) (hos : bo.segs = [.ints .u8 32 M, .ints .u8 16 C, .one (.int .u32 ((l : Nat) : Int)), .one (.int .i64 1), .one (.int .i64 ((u : Nat) : Int))]) : ACall Try.prog 41 H [.s (.ptr io (0 + 0) 0)] (.s (.int .i64 ((u : Nat) : Int))) [] := by
  refine acall_gen2 (args0 := [.s (.ptr 0 0 0)]) (H0 := [some ⟨false, [.ints .u8 32 M, .ints .u8 16 C, .one (.int .u32 ((l : Nat) : Int)), .one (.int .i64 1), .one (.int .i64 ((u : Nat) : Int))]⟩]) (Hf := []) (v0 := (.s (.int .i64 ((u : Nat) : Int)))) [(io, 0)] [] Try.func41 rfl Try.ntmps41 (by simp) rfl
    (fun k id' sh' b0 h1 h2 => by
      match k, h1, h2 with
      | 0, h1, h2 => simp at h1 h2; obtain ⟨rfl, rfl⟩ := h1; subst h2; exact ⟨rfl, rfl, _, ho, foot_same hos⟩
      | k + 1, h1, _ => simp at h1)
    (fun W ρ vals w hH ha k id' sh' hk => by
      match k, hk with
      | 0, hk => simp at hk; obtain ⟨rfl, rfl⟩ := hk; exact ⟨(List.getElem?_eq_some_iff.1 ho).1, live_ptr (i := 0) ha rfl⟩
      | k + 1, hk => simp at hk)
    rfl rfl rfl (by decide) rfl rfl rfl (fun W w ρ0 hW hdom => ?_)
  refine w_seq ?_
  refine c_reg (by kernel_rfl) rfl ?_
  refine s_p (by first | exact h_assign (v := .s _) rfl | exact h_assign (v := .agg _) rfl | exact h_assign (v := .tup _) rfl) ?_
  refine s_nil ?_
  refine n_wp ?_
  refine w_seq ?_
  refine w_seq ?_
  refine c_reg (by kernel_rfl) rfl ?_
  refine s_p (by first | exact h_move (v := .s _) rfl | exact h_move (v := .agg _) rfl | exact h_move (v := .tup _) rfl) ?_
  refine s_p (h_eqn rfl rfl Try.underlying73) ?_
  refine s_nil ?_
  refine n_wp ?_
  refine w_cond rfl (fun hc_t4 => ?_) (fun hc_t4 => ?_)
  · exact absurd hc_t4 (by simp)
  refine w_skip ?_
  refine n_wp ?_
  refine w_seq ?_
  refine c_reg (by kernel_rfl) rfl ?_
  refine s_p (by first | exact h_move (v := .s _) rfl | exact h_move (v := .agg _) rfl | exact h_move (v := .tup _) rfl) ?_
  refine s_p (h_nilCheck rfl) ?_
  refine s_p (h_field rfl Try.underlying77 rfl Try.sizeOf3 (by decide)) ?_
  refine s_p (by first | exact h_load_ints rfl rfl rfl (by omega) rfl Try.isAgg3 | exact h_load_one rfl rfl rfl Try.isAgg3) ?_
  refine s_p (by first | exact h_assign (v := .s _) rfl | exact h_assign (v := .agg _) rfl | exact h_assign (v := .tup _) rfl) ?_
  refine s_nil ?_
  refine n_wp ?_
  refine w_ret ?_
  exact doneM (by repeat (first | exact trivial | refine ⟨rfl, ?_⟩)) (ret_tmp Try.results41 rfl)
set_option maxRecDepth 100000 in
set_option maxHeartbeats 2000000 in
theorem InLane_c (H : Heap) (ii iw : Nat) (M C : List Int) (l : Nat) (bi : Blk) (hi : H[ii]? = some (some bi)) (his : bi.segs = [.ints .u8 32 M, .ints .u8 16 C, .one (.int .u32 ((l : Nat) : Int)), .one (.int .i64 1), .one (.ptr iw (0 + 0) 0)]) (hlw : iw < H.length) : ACall Try.prog 43 H [.s (.ptr ii (0 + 0) 0)] (.s (.int .u32 ((l : Nat) : Int))) [] := by
  refine acall_gen2 (args0 := [.s (.ptr 0 0 0)]) (H0 := [some ⟨false, [.ints .u8 32 M, .ints .u8 16 C, .one (.int .u32 ((l : Nat) : Int)), .one (.int .i64 1), .one (.ptr 1 0 0)]⟩, none]) (Hf := []) (v0 := (.s (.int .u32 ((l : Nat) : Int)))) [(ii, 0), (iw, 0)] [] Try.func43 rfl Try.ntmps43 (by simp) rfl
    (fun k id' sh' b0 h1 h2 => by
      match k, h1, h2 with
      | 0, h1, h2 => simp at h1 h2; obtain ⟨rfl, rfl⟩ := h1; subst h2; exact ⟨rfl, rfl, _, hi, foot_same his⟩
      | 1, h1, h2 => simp at h2
      | k + 2, h1, _ => simp at h1)
    (fun W ρ vals w hH ha k id' sh' hk => by
      match k, hk with
      | 0, hk => simp at hk; obtain ⟨rfl, rfl⟩ := hk; exact ⟨(List.getElem?_eq_some_iff.1 hi).1, live_ptr (i := 0) ha rfl⟩
      | 1, hk => simp at hk; obtain ⟨rfl, rfl⟩ := hk; exact ⟨(hlw), live_in (p := 50) hH (live_ptr (i := 0) ha rfl) hi (by rw [his]; rfl)⟩
      | k + 2, hk => simp at hk)
    rfl rfl rfl (by decide) rfl rfl rfl (fun W w ρ0 hW hdom => ?_)
  refine w_seq ?_
  refine c_reg (by kernel_rfl) rfl ?_
  refine s_p (by first | exact h_assign (v := .s _) rfl | exact h_assign (v := .agg _) rfl | exact h_assign (v := .tup _) rfl) ?_
  refine s_nil ?_
  refine n_wp ?_
  refine w_seq ?_
  refine w_seq ?_
  refine c_reg (by kernel_rfl) rfl ?_
  refine s_p (by first | exact h_move (v := .s _) rfl | exact h_move (v := .agg _) rfl | exact h_move (v := .tup _) rfl) ?_
  refine s_p (h_eqn rfl rfl Try.underlying79) ?_
  refine s_nil ?_
  refine n_wp ?_
  refine w_cond rfl (fun hc_t4 => ?_) (fun hc_t4 => ?_)
  · exact absurd hc_t4 (by simp)
  refine w_skip ?_
  refine n_wp ?_
  refine w_seq ?_
  refine c_reg (by kernel_rfl) rfl ?_
  refine s_p (by first | exact h_move (v := .s _) rfl | exact h_move (v := .agg _) rfl | exact h_move (v := .tup _) rfl) ?_
  refine s_p (h_nilCheck rfl) ?_
  refine s_p (h_field rfl Try.underlying82 rfl Try.sizeOf75 (by decide)) ?_
  refine s_p (h_field rfl Try.underlying75 rfl Try.sizeOf61 (by decide)) ?_
  refine s_p (by first | exact h_load_ints rfl rfl rfl (by omega) rfl Try.isAgg61 | exact h_load_one rfl rfl rfl Try.isAgg61) ?_
  refine s_p (by first | exact h_assign (v := .s _) rfl | exact h_assign (v := .agg _) rfl | exact h_assign (v := .tup _) rfl) ?_
  refine s_nil ?_
  refine n_wp ?_
  refine w_ret ?_
  exact doneM (by repeat (first | exact trivial | refine ⟨rfl, ?_⟩)) (ret_tmp Try.results43 rfl)
set_option maxRecDepth 100000 in
set_option maxHeartbeats 2000000 in
theorem Came_c (H : Heap) (ii iw : Nat) (M C : List Int) (l : Nat) (bi : Blk) (hi : H[ii]? = some (some bi)) (his : bi.segs = [.ints .u8 32 M, .ints .u8 16 C, .one (.int .u32 ((l : Nat) : Int)), .one (.int .i64 1), .one (.ptr iw (0 + 0) 0)]) (Cw : List Int) (top taken : Nat) (bw : Blk) (hw : H[iw]? = some (some bw)) (hws : bw.segs = [.ints .i64 1 [1], .ints .u64 64 Cw, .one (.int .u64 ((top : Nat) : Int)), .one (.int .u64 ((taken : Nat) : Int))]) : ACall Try.prog 42 H [.s (.ptr ii (0 + 0) 0)] (.s (.int .u64 ((taken : Nat) : Int))) [] := by
  refine acall_gen2 (args0 := [.s (.ptr 0 0 0)]) (H0 := [some ⟨false, [.ints .u8 32 M, .ints .u8 16 C, .one (.int .u32 ((l : Nat) : Int)), .one (.int .i64 1), .one (.ptr 1 0 0)]⟩, some ⟨false, [.ints .i64 1 [1], .ints .u64 64 Cw, .one (.int .u64 ((top : Nat) : Int)), .one (.int .u64 ((taken : Nat) : Int))]⟩]) (Hf := []) (v0 := (.s (.int .u64 ((taken : Nat) : Int)))) [(ii, 0), (iw, 0)] [] Try.func42 rfl Try.ntmps42 (by simp) rfl
    (fun k id' sh' b0 h1 h2 => by
      match k, h1, h2 with
      | 0, h1, h2 => simp at h1 h2; obtain ⟨rfl, rfl⟩ := h1; subst h2; exact ⟨rfl, rfl, _, hi, foot_same his⟩
      | 1, h1, h2 => simp at h1 h2; obtain ⟨rfl, rfl⟩ := h1; subst h2; exact ⟨rfl, rfl, _, hw, foot_same hws⟩
      | k + 2, h1, _ => simp at h1)
    (fun W ρ vals w hH ha k id' sh' hk => by
      match k, hk with
      | 0, hk => simp at hk; obtain ⟨rfl, rfl⟩ := hk; exact ⟨(List.getElem?_eq_some_iff.1 hi).1, live_ptr (i := 0) ha rfl⟩
      | 1, hk => simp at hk; obtain ⟨rfl, rfl⟩ := hk; exact ⟨(List.getElem?_eq_some_iff.1 hw).1, live_in (p := 50) hH (live_ptr (i := 0) ha rfl) hi (by rw [his]; rfl)⟩
      | k + 2, hk => simp at hk)
    rfl rfl rfl (by decide) rfl rfl rfl (fun W w ρ0 hW hdom => ?_)
  refine w_seq ?_
  refine c_reg (by kernel_rfl) rfl ?_
  refine s_p (by first | exact h_assign (v := .s _) rfl | exact h_assign (v := .agg _) rfl | exact h_assign (v := .tup _) rfl) ?_
  refine s_nil ?_
  refine n_wp ?_
  refine w_seq ?_
  refine w_seq ?_
  refine c_reg (by kernel_rfl) rfl ?_
  refine s_p (by first | exact h_move (v := .s _) rfl | exact h_move (v := .agg _) rfl | exact h_move (v := .tup _) rfl) ?_
  refine s_p (h_eqn rfl rfl Try.underlying79) ?_
  refine s_p (by first | exact h_move (v := .s _) rfl | exact h_move (v := .agg _) rfl | exact h_move (v := .tup _) rfl) ?_
  first | refine s_on rfl rfl (by first | rfl | assumption) (by first | exact h_move (v := .s _) rfl | exact h_move (v := .agg _) rfl | exact h_move (v := .tup _) rfl) ?_ | refine s_off rfl rfl (by first | rfl | assumption) ?_
  first | refine s_on rfl rfl (by first | rfl | assumption) (h_nilCheck rfl) ?_ | refine s_off rfl rfl (by first | rfl | assumption) ?_
  first | refine s_on rfl rfl (by first | rfl | assumption) (h_field rfl Try.underlying82 rfl Try.sizeOf75 (by decide)) ?_ | refine s_off rfl rfl (by first | rfl | assumption) ?_
  first | refine s_on rfl rfl (by first | rfl | assumption) (h_field rfl Try.underlying75 rfl Try.sizeOf3 (by decide)) ?_ | refine s_off rfl rfl (by first | rfl | assumption) ?_
  first | refine s_on rfl rfl (by first | rfl | assumption) (by first | exact h_load_ints rfl rfl rfl (by omega) rfl Try.isAgg3 | exact h_load_one rfl rfl rfl Try.isAgg3) ?_ | refine s_off rfl rfl (by first | rfl | assumption) ?_
  first | refine s_on rfl rfl (by first | rfl | assumption) (h_bin rfl rfl (b_eql (decide_eq_false (by decide)))) ?_ | refine s_off rfl rfl (by first | rfl | assumption) ?_
  refine s_p (by first | exact h_pick_t rfl (by first | rfl | assumption) rfl | exact h_pick_f rfl (by first | rfl | assumption) rfl) ?_
  refine s_nil ?_
  refine n_wp ?_
  refine w_cond rfl (fun hc_t12 => ?_) (fun hc_t12 => ?_)
  · exact absurd hc_t12 (by simp)
  refine w_skip ?_
  refine n_wp ?_
  refine w_seq ?_
  refine c_reg (by kernel_rfl) rfl ?_
  refine s_p (by first | exact h_move (v := .s _) rfl | exact h_move (v := .agg _) rfl | exact h_move (v := .tup _) rfl) ?_
  refine s_p (h_nilCheck rfl) ?_
  refine s_p (h_field rfl Try.underlying82 rfl Try.sizeOf80 (by decide)) ?_
  refine s_p (by first | exact h_load_ints rfl rfl rfl (by omega) rfl Try.isAgg80 | exact h_load_one rfl rfl rfl Try.isAgg80) ?_
  refine s_p (h_call callable_65 rfl (WTaken_c _ 1 Cw top taken _ rfl rfl)) ?_
  refine s_p (by first | exact h_assign (v := .s _) rfl | exact h_assign (v := .agg _) rfl | exact h_assign (v := .tup _) rfl) ?_
  refine s_nil ?_
  refine n_wp ?_
  refine w_ret ?_
  exact doneM (by repeat (first | exact trivial | refine ⟨rfl, ?_⟩)) (ret_tmp Try.results42 rfl)
set_option maxRecDepth 100000 in
set_option maxHeartbeats 2000000 in
theorem put_s (H : Heap) (io : Nat) (M C : List Int) (l u : Nat) (ho : H[io]? = some (some ⟨true, [.ints .u8 32 M, .ints .u8 16 C, .one (.int .u32 ((l : Nat) : Int)), .one (.int .i64 1), .one (.int .i64 ((u : Nat) : Int))]⟩)) (hM : M.length = 32) (hC : C.length = 16) (hC8 : U8 C) (hl : l < 4294967296) (hu : u < 64) (id sh len cap : Nat) (B : List Int) (bd : Blk) (hdl : B.length = len) (hdc : len ≤ cap) (hdm : len ≤ 140737488351232) (hd : H[id]? = some (some bd)) (hds : ∀ (i : Nat) (y : SV), atS [.ints .u8 len B] i = some y → atS bd.segs (sh + i) = some y) (h0 : 0 < len) (h2k : len ≤ 2019) (nio : io ≠ id) : AMut Try.prog 39 H [.s (.ptr io (0 + 0) 0), .s (.slice id (0 + sh) 0 len cap)] (.tup [.s (.slice (H.length + 0) (0 + 0) 0 (29 + len) (29 + len)), .s (.int .u64 ((u + 1 : Nat) : Int)), .s (.int .i64 0)]) ((forget [] H).set io (some ⟨true, [.ints .u8 32 M, .ints .u8 16 C, .one (.int .u32 ((l : Nat) : Int)), .one (.int .i64 1), .one (.int .i64 (((u + 1) : Nat) : Int))]⟩) ++ [some ⟨true, [.ints .u8 (29 + len) (sealL M C ((l : Nat) : Int) ((u + 1 : Nat) : Int) B len)]⟩]) := by
  refine amut_gen3 (args0 := [.s (.ptr 0 0 0), .s (.slice 1 0 0 len cap)]) (H0 := [some ⟨true, [.ints .u8 32 M, .ints .u8 16 C, .one (.int .u32 ((l : Nat) : Int)), .one (.int .i64 1), .one (.int .i64 ((u : Nat) : Int))]⟩, some ⟨false, [.ints .u8 len B]⟩]) (Hf := [some ⟨true, [.ints .u8 32 M, .ints .u8 16 C, .one (.int .u32 ((l : Nat) : Int)), .one (.int .i64 1), .one (.int .i64 (((u + 1) : Nat) : Int))]⟩, none, some ⟨true, [.ints .u8 (29 + len) (sealL M C ((l : Nat) : Int) ((u + 1 : Nat) : Int) B len)]⟩]) (v0 := .tup [.s (.slice 2 0 0 (29 + len) (29 + len)), .s (.int .u64 ((u + 1 : Nat) : Int)), .s (.int .i64 0)]) [(io, 0), (id, sh)] [2] 2 (Nat.le_of_ble_eq_true rfl) Try.func39 rfl Try.ntmps39 (by simp) rfl
    (fun k id' sh' b0 h1 h2 => by
      match k, h1, h2 with
      | 0, h1, h2 => simp at h1 h2; obtain ⟨rfl, rfl⟩ := h1; subst h2; exact ⟨rfl, _, ho, fun _ => ⟨rfl, rfl⟩, foot_same rfl⟩
      | 1, h1, h2 => simp at h1 h2; obtain ⟨rfl, rfl⟩ := h1; subst h2; exact ⟨rfl, _, hd, fun e => (by cases e), fun i y hy => by (have h := hds i y hy; obtain ⟨_, rfl⟩ := atS_ints1 hy; exact h)⟩
      | k + 2, h1, _ => simp at h1)
    (fun k k' id' s1 s2 b0 h1 h1' hne h2 => by
      match k, k', h1, h1', h2, hne with
      | 0, 0, _, _, _, hne => exact absurd rfl hne
      | 0, 1, h1, h1', _, _ => simp at h1 h1'; exact absurd (h1.1.trans h1'.1.symm) nio
      | 0, k + 2, _, h1', _, _ => simp at h1'
      | 1, _, _, _, h2, _ => simp at h2; subst h2; rfl
      | k + 2, _, h1, _, _, _ => simp at h1)
    (fun W ρ vals w hH ha k id' sh' hk => by
      match k, hk with
      | 0, hk => simp at hk; obtain ⟨rfl, rfl⟩ := hk; exact live_ptr (i := 0) ha rfl
      | 1, hk => simp at hk; obtain ⟨rfl, rfl⟩ := hk; exact live_slice (i := 1) ha rfl
      | k + 2, hk => simp at hk)
    rfl rfl rfl (by decide) rfl rfl rfl (fun W w' ρ0 hW hdom => ?_)
  refine w_seq ?_
  refine c_reg (by kernel_rfl) rfl ?_
  refine s_p (by first | exact h_assign (v := .s _) rfl | exact h_assign (v := .agg _) rfl | exact h_assign (v := .tup _) rfl) ?_
  refine s_p (by first | exact h_assign (v := .s _) rfl | exact h_assign (v := .agg _) rfl | exact h_assign (v := .tup _) rfl) ?_
  refine s_p (by first | exact h_assign (v := .s _) rfl | exact h_assign (v := .agg _) rfl | exact h_assign (v := .tup _) rfl) ?_
  refine s_nil ?_
  refine n_wp ?_
  refine w_seq ?_
  refine w_block ?_
  refine w_seq ?_
  refine c_reg (by kernel_rfl) rfl ?_
  refine s_p (by first | exact h_move (v := .s _) rfl | exact h_move (v := .agg _) rfl | exact h_move (v := .tup _) rfl) ?_
  refine s_p (h_eqn rfl rfl Try.underlying73) ?_
  refine s_p (by first | exact h_move (v := .s _) rfl | exact h_move (v := .agg _) rfl | exact h_move (v := .tup _) rfl) ?_
  first | refine s_on rfl rfl (by first | rfl | assumption) (by first | exact h_move (v := .s _) rfl | exact h_move (v := .agg _) rfl | exact h_move (v := .tup _) rfl) ?_ | refine s_off rfl rfl (by first | rfl | assumption) ?_
  first | refine s_on rfl rfl (by first | rfl | assumption) (h_nilCheck rfl) ?_ | refine s_off rfl rfl (by first | rfl | assumption) ?_
  first | refine s_on rfl rfl (by first | rfl | assumption) (h_field rfl Try.underlying77 rfl Try.sizeOf75 (by decide)) ?_ | refine s_off rfl rfl (by first | rfl | assumption) ?_
  first | refine s_on rfl rfl (by first | rfl | assumption) (h_field rfl Try.underlying75 rfl Try.sizeOf3 (by decide)) ?_ | refine s_off rfl rfl (by first | rfl | assumption) ?_
  first | refine s_on rfl rfl (by first | rfl | assumption) (by first | exact h_load_ints rfl rfl rfl (by omega) rfl Try.isAgg3 | exact h_load_one rfl rfl rfl Try.isAgg3) ?_ | refine s_off rfl rfl (by first | rfl | assumption) ?_
  first | refine s_on rfl rfl (by first | rfl | assumption) (h_bin rfl rfl (b_eql (decide_eq_false (by decide)))) ?_ | refine s_off rfl rfl (by first | rfl | assumption) ?_
  refine s_p (by first | exact h_pick_t rfl (by first | rfl | assumption) rfl | exact h_pick_f rfl (by first | rfl | assumption) rfl) ?_
  refine s_p (by first | exact h_assign (v := .s _) rfl | exact h_assign (v := .agg _) rfl | exact h_assign (v := .tup _) rfl) ?_
  refine s_nil ?_
  refine n_wp ?_
  refine w_cond rfl (fun hc_t7 => ?_) (fun hc_t7 => ?_)
  · exact absurd hc_t7 (by simp)
  refine w_seq ?_
  refine c_reg (by kernel_rfl) rfl ?_
  refine s_p (by first | exact h_move (v := .s _) rfl | exact h_move (v := .agg _) rfl | exact h_move (v := .tup _) rfl) ?_
  refine s_p (h_nilCheck rfl) ?_
  refine s_p (h_field rfl Try.underlying77 rfl Try.sizeOf3 (by decide)) ?_
  refine s_p (by first | exact h_load_ints rfl rfl rfl (by omega) rfl Try.isAgg3 | exact h_load_one rfl rfl rfl Try.isAgg3) ?_
  refine s_p (h_bin rfl rfl (b_geq (decide_eq_false (by omega)))) ?_
  refine s_p (by first | exact h_assign (v := .s _) rfl | exact h_assign (v := .agg _) rfl | exact h_assign (v := .tup _) rfl) ?_
  refine s_nil ?_
  refine n_wp ?_
  refine w_cond rfl (fun hc_t18 => ?_) (fun hc_t18 => ?_)
  · exact absurd hc_t18 (by simp)
  refine w_skip ?_
  refine n_blo ?_
  refine n_wp ?_
  refine w_seq ?_
  refine c_reg (by kernel_rfl) rfl ?_
  refine s_p (by first | exact h_move (v := .s _) rfl | exact h_move (v := .agg _) rfl | exact h_move (v := .tup _) rfl) ?_
  refine s_p (h_nilCheck rfl) ?_
  refine s_p (h_field rfl Try.underlying77 rfl Try.sizeOf3 (by decide)) ?_
  refine s_p (by first | exact h_load_ints rfl rfl rfl (by omega) rfl Try.isAgg3 | exact h_load_one rfl rfl rfl Try.isAgg3) ?_
  refine s_p (h_conv (r := ((u : Nat) : Int)) rfl Try.underlying3 Try.underlying40 (wrap64 (by omega) (by omega))) ?_
  refine s_p (h_bin rfl rfl (b_add (r := ((u + 1 : Nat) : Int)) (by rw [wrap64 (by omega) (by omega)]; omega))) ?_
  refine s_p (by first | exact h_assign (v := .s _) rfl | exact h_assign (v := .agg _) rfl | exact h_assign (v := .tup _) rfl) ?_
  refine s_nil ?_
  refine n_wp ?_
  refine w_seq ?_
  refine w_seq ?_
  refine c_any 17 mix (by kernel_rfl) (by kernel_rfl) rfl rfl rfl ?_
  refine t_p (by first | exact h_move (v := .s _) rfl | exact h_move (v := .agg _) rfl | exact h_move (v := .tup _) rfl) ?_
  refine t_p (h_nilCheck rfl) ?_
  refine t_p (h_field rfl Try.underlying77 rfl Try.sizeOf75 (by decide)) ?_
  refine t_p (h_field rfl Try.underlying75 rfl Try.sizeOf56 (by decide)) ?_
  refine t_p (h_load_agg rfl rfl (.two (m := 32) (n := 16) rfl rfl (.seg rfl rfl)) Try.isAgg56 Try.sizeOf56) ?_
  refine t_p (by first | exact h_move (v := .s _) rfl | exact h_move (v := .agg _) rfl | exact h_move (v := .tup _) rfl) ?_
  refine t_p (h_nilCheck rfl) ?_
  refine t_p (h_field rfl Try.underlying77 rfl Try.sizeOf75 (by decide)) ?_
  refine t_p (h_field rfl Try.underlying75 rfl Try.sizeOf61 (by decide)) ?_
  refine t_p (by first | exact h_load_ints rfl rfl rfl (by omega) rfl Try.isAgg61 | exact h_load_one rfl rfl rfl Try.isAgg61) ?_
  refine t_p (by first | exact h_move (v := .s _) rfl | exact h_move (v := .agg _) rfl | exact h_move (v := .tup _) rfl) ?_
  refine t_p (by first | exact h_move (v := .s _) rfl | exact h_move (v := .agg _) rfl | exact h_move (v := .tup _) rfl) ?_
  refine t_a (h_call callable_35 rfl (seal_s _ M C l (u + 1) hM hC hC8 hl 1 0 len cap B _ hdl hdc hdm rfl (fun i y hy => by rw [Nat.zero_add i]; exact hy) h0 h2k)) rfl ?_
  refine t_p (by first | exact h_move (v := .s _) rfl | exact h_move (v := .agg _) rfl | exact h_move (v := .tup _) rfl) ?_
  refine t_p (h_extract rfl rfl (by simp)) ?_
  refine t_p (h_extract rfl rfl (by simp)) ?_
  refine t_p (by first | exact h_assign (v := .s _) rfl | exact h_assign (v := .agg _) rfl | exact h_assign (v := .tup _) rfl) ?_
  refine t_nil ?_
  refine s_p (by first | exact h_assign (v := .s _) rfl | exact h_assign (v := .agg _) rfl | exact h_assign (v := .tup _) rfl) ?_
  refine s_nil ?_
  refine n_wp ?_
  refine w_seq ?_
  refine c_reg (by kernel_rfl) rfl ?_
  refine s_p (by first | exact h_move (v := .s _) rfl | exact h_move (v := .agg _) rfl | exact h_move (v := .tup _) rfl) ?_
  refine s_p (h_bin rfl rfl (b_neq (decide_eq_false (fun h => h rfl)))) ?_
  refine s_nil ?_
  refine n_wp ?_
  refine w_cond rfl (fun hc_t47 => ?_) (fun hc_t47 => ?_)
  · exact absurd hc_t47 (by simp)
  refine w_skip ?_
  refine n_wp ?_
  refine w_seq ?_
  refine c_reg (by kernel_rfl) rfl ?_
  refine s_p (by first | exact h_move (v := .s _) rfl | exact h_move (v := .agg _) rfl | exact h_move (v := .tup _) rfl) ?_
  refine s_p (h_nilCheck rfl) ?_
  refine s_p (h_field rfl Try.underlying77 rfl Try.sizeOf3 (by decide)) ?_
  refine s_p (by first | exact h_load_ints rfl rfl rfl (by omega) rfl Try.isAgg3 | exact h_load_one rfl rfl rfl Try.isAgg3) ?_
  refine s_p (h_bin rfl rfl (b_add (r := ((u + 1 : Nat) : Int)) (wr_n (by omega) (by omega)))) ?_
  refine s_p (h_nilCheck rfl) ?_
  refine s_p (h_field rfl Try.underlying77 rfl Try.sizeOf3 (by decide)) ?_
  refine s_st (by first | exact m_store_int rfl rfl rfl rfl (by omega) (by (exact z_len _)) Try.sizeOf3 rfl | exact m_store_one rfl rfl (by simp) rfl rfl Try.sizeOf3 rfl) ?_
  refine s_nil ?_
  refine n_wp ?_
  refine w_seq ?_
  refine c_reg (by kernel_rfl) rfl ?_
  refine s_p (by first | exact h_move (v := .s _) rfl | exact h_move (v := .agg _) rfl | exact h_move (v := .tup _) rfl) ?_
  refine s_p (by first | exact h_move (v := .s _) rfl | exact h_move (v := .agg _) rfl | exact h_move (v := .tup _) rfl) ?_
  refine s_p (by first | exact h_assign (v := .s _) rfl | exact h_assign (v := .agg _) rfl | exact h_assign (v := .tup _) rfl) ?_
  refine s_p (by first | exact h_assign (v := .s _) rfl | exact h_assign (v := .agg _) rfl | exact h_assign (v := .tup _) rfl) ?_
  refine s_p (by first | exact h_assign (v := .s _) rfl | exact h_assign (v := .agg _) rfl | exact h_assign (v := .tup _) rfl) ?_
  refine s_nil ?_
  refine n_wp ?_
  refine w_ret ?_
  exact doneM (by repeat (first | exact trivial | refine ⟨rfl, ?_⟩)) (ret_tmps3 Try.results39 rfl rfl rfl)
set_option maxRecDepth 100000 in
set_option maxHeartbeats 2000000 in
theorem put_v (H : Heap) (io : Nat) (M C : List Int) (l u : Nat) (ho : H[io]? = some (some ⟨true, [.ints .u8 32 M, .ints .u8 16 C, .one (.int .u32 ((l : Nat) : Int)), .one (.int .i64 1), .one (.int .i64 ((u : Nat) : Int))]⟩)) (hM : M.length = 32) (hC : C.length = 16) (hC8 : U8 C) (hl : l < 4294967296) (hu : u < 64) (a : Option Addr) (c : Nat) : AMut Try.prog 39 H [.s (.ptr io (0 + 0) 0), .s (.val (.slice a 0 c))] (.tup [.s (.slice (H.length + 0) (0 + 0) 0 (29 + 0) (29 + 0)), .s (.int .u64 ((u + 1 : Nat) : Int)), .s (.int .i64 0)]) ((forget [] H).set io (some ⟨true, [.ints .u8 32 M, .ints .u8 16 C, .one (.int .u32 ((l : Nat) : Int)), .one (.int .i64 1), .one (.int .i64 (((u + 1) : Nat) : Int))]⟩) ++ [some ⟨true, [.ints .u8 (29 + 0) (sealL M C ((l : Nat) : Int) ((u + 1 : Nat) : Int) [] 0)]⟩]) := by
  refine amut_gen3 (args0 := [.s (.ptr 0 0 0), .s (.val (.slice a 0 c))]) (H0 := [some ⟨true, [.ints .u8 32 M, .ints .u8 16 C, .one (.int .u32 ((l : Nat) : Int)), .one (.int .i64 1), .one (.int .i64 ((u : Nat) : Int))]⟩]) (Hf := [some ⟨true, [.ints .u8 32 M, .ints .u8 16 C, .one (.int .u32 ((l : Nat) : Int)), .one (.int .i64 1), .one (.int .i64 (((u + 1) : Nat) : Int))]⟩, some ⟨true, [.ints .u8 (29 + 0) (sealL M C ((l : Nat) : Int) ((u + 1 : Nat) : Int) [] 0)]⟩]) (v0 := .tup [.s (.slice 1 0 0 (29 + 0) (29 + 0)), .s (.int .u64 ((u + 1 : Nat) : Int)), .s (.int .i64 0)]) [(io, 0)] [1] 1 (Nat.le_of_ble_eq_true rfl) Try.func39 rfl Try.ntmps39 (by simp) rfl
    (fun k id' sh' b0 h1 h2 => by
      match k, h1, h2 with
      | 0, h1, h2 => simp at h1 h2; obtain ⟨rfl, rfl⟩ := h1; subst h2; exact ⟨rfl, _, ho, fun _ => ⟨rfl, rfl⟩, foot_same rfl⟩
      | k + 1, h1, _ => simp at h1)
    (fun k k' id' s1 s2 b0 h1 h1' hne h2 => by
      match k, k', h1, h1', h2, hne with
      | 0, 0, _, _, _, hne => exact absurd rfl hne
      | 0, k + 1, _, h1', _, _ => simp at h1'
      | k + 1, _, h1, _, _, _ => simp at h1)
    (fun W ρ vals w hH ha k id' sh' hk => by
      match k, hk with
      | 0, hk => simp at hk; obtain ⟨rfl, rfl⟩ := hk; exact live_ptr (i := 0) ha rfl
      | k + 1, hk => simp at hk)
    rfl rfl rfl (by decide) rfl rfl rfl (fun W w' ρ0 hW hdom => ?_)
  refine w_seq ?_
  refine c_reg (by kernel_rfl) rfl ?_
  refine s_p (by first | exact h_assign (v := .s _) rfl | exact h_assign (v := .agg _) rfl | exact h_assign (v := .tup _) rfl) ?_
  refine s_p (by first | exact h_assign (v := .s _) rfl | exact h_assign (v := .agg _) rfl | exact h_assign (v := .tup _) rfl) ?_
  refine s_p (by first | exact h_assign (v := .s _) rfl | exact h_assign (v := .agg _) rfl | exact h_assign (v := .tup _) rfl) ?_
  refine s_nil ?_
  refine n_wp ?_
  refine w_seq ?_
  refine w_block ?_
  refine w_seq ?_
  refine c_reg (by kernel_rfl) rfl ?_
  refine s_p (by first | exact h_move (v := .s _) rfl | exact h_move (v := .agg _) rfl | exact h_move (v := .tup _) rfl) ?_
  refine s_p (h_eqn rfl rfl Try.underlying73) ?_
  refine s_p (by first | exact h_move (v := .s _) rfl | exact h_move (v := .agg _) rfl | exact h_move (v := .tup _) rfl) ?_
  first | refine s_on rfl rfl (by first | rfl | assumption) (by first | exact h_move (v := .s _) rfl | exact h_move (v := .agg _) rfl | exact h_move (v := .tup _) rfl) ?_ | refine s_off rfl rfl (by first | rfl | assumption) ?_
  first | refine s_on rfl rfl (by first | rfl | assumption) (h_nilCheck rfl) ?_ | refine s_off rfl rfl (by first | rfl | assumption) ?_
  first | refine s_on rfl rfl (by first | rfl | assumption) (h_field rfl Try.underlying77 rfl Try.sizeOf75 (by decide)) ?_ | refine s_off rfl rfl (by first | rfl | assumption) ?_
  first | refine s_on rfl rfl (by first | rfl | assumption) (h_field rfl Try.underlying75 rfl Try.sizeOf3 (by decide)) ?_ | refine s_off rfl rfl (by first | rfl | assumption) ?_
  first | refine s_on rfl rfl (by first | rfl | assumption) (by first | exact h_load_ints rfl rfl rfl (by omega) rfl Try.isAgg3 | exact h_load_one rfl rfl rfl Try.isAgg3) ?_ | refine s_off rfl rfl (by first | rfl | assumption) ?_
  first | refine s_on rfl rfl (by first | rfl | assumption) (h_bin rfl rfl (b_eql (decide_eq_false (by decide)))) ?_ | refine s_off rfl rfl (by first | rfl | assumption) ?_
  refine s_p (by first | exact h_pick_t rfl (by first | rfl | assumption) rfl | exact h_pick_f rfl (by first | rfl | assumption) rfl) ?_
  refine s_p (by first | exact h_assign (v := .s _) rfl | exact h_assign (v := .agg _) rfl | exact h_assign (v := .tup _) rfl) ?_
  refine s_nil ?_
  refine n_wp ?_
  refine w_cond rfl (fun hc_t7 => ?_) (fun hc_t7 => ?_)
  · exact absurd hc_t7 (by simp)
  refine w_seq ?_
  refine c_reg (by kernel_rfl) rfl ?_
  refine s_p (by first | exact h_move (v := .s _) rfl | exact h_move (v := .agg _) rfl | exact h_move (v := .tup _) rfl) ?_
  refine s_p (h_nilCheck rfl) ?_
  refine s_p (h_field rfl Try.underlying77 rfl Try.sizeOf3 (by decide)) ?_
  refine s_p (by first | exact h_load_ints rfl rfl rfl (by omega) rfl Try.isAgg3 | exact h_load_one rfl rfl rfl Try.isAgg3) ?_
  refine s_p (h_bin rfl rfl (b_geq (decide_eq_false (by omega)))) ?_
  refine s_p (by first | exact h_assign (v := .s _) rfl | exact h_assign (v := .agg _) rfl | exact h_assign (v := .tup _) rfl) ?_
  refine s_nil ?_
  refine n_wp ?_
  refine w_cond rfl (fun hc_t18 => ?_) (fun hc_t18 => ?_)
  · exact absurd hc_t18 (by simp)
  refine w_skip ?_
  refine n_blo ?_
  refine n_wp ?_
  refine w_seq ?_
  refine c_reg (by kernel_rfl) rfl ?_
  refine s_p (by first | exact h_move (v := .s _) rfl | exact h_move (v := .agg _) rfl | exact h_move (v := .tup _) rfl) ?_
  refine s_p (h_nilCheck rfl) ?_
  refine s_p (h_field rfl Try.underlying77 rfl Try.sizeOf3 (by decide)) ?_
  refine s_p (by first | exact h_load_ints rfl rfl rfl (by omega) rfl Try.isAgg3 | exact h_load_one rfl rfl rfl Try.isAgg3) ?_
  refine s_p (h_conv (r := ((u : Nat) : Int)) rfl Try.underlying3 Try.underlying40 (wrap64 (by omega) (by omega))) ?_
  refine s_p (h_bin rfl rfl (b_add (r := ((u + 1 : Nat) : Int)) (by rw [wrap64 (by omega) (by omega)]; omega))) ?_
  refine s_p (by first | exact h_assign (v := .s _) rfl | exact h_assign (v := .agg _) rfl | exact h_assign (v := .tup _) rfl) ?_
  refine s_nil ?_
  refine n_wp ?_
  refine w_seq ?_
  refine w_seq ?_
  refine c_any 17 mix (by kernel_rfl) (by kernel_rfl) rfl rfl rfl ?_
  refine t_p (by first | exact h_move (v := .s _) rfl | exact h_move (v := .agg _) rfl | exact h_move (v := .tup _) rfl) ?_
  refine t_p (h_nilCheck rfl) ?_
  refine t_p (h_field rfl Try.underlying77 rfl Try.sizeOf75 (by decide)) ?_
  refine t_p (h_field rfl Try.underlying75 rfl Try.sizeOf56 (by decide)) ?_
  refine t_p (h_load_agg rfl rfl (.two (m := 32) (n := 16) rfl rfl (.seg rfl rfl)) Try.isAgg56 Try.sizeOf56) ?_
  refine t_p (by first | exact h_move (v := .s _) rfl | exact h_move (v := .agg _) rfl | exact h_move (v := .tup _) rfl) ?_
  refine t_p (h_nilCheck rfl) ?_
  refine t_p (h_field rfl Try.underlying77 rfl Try.sizeOf75 (by decide)) ?_
  refine t_p (h_field rfl Try.underlying75 rfl Try.sizeOf61 (by decide)) ?_
  refine t_p (by first | exact h_load_ints rfl rfl rfl (by omega) rfl Try.isAgg61 | exact h_load_one rfl rfl rfl Try.isAgg61) ?_
  refine t_p (by first | exact h_move (v := .s _) rfl | exact h_move (v := .agg _) rfl | exact h_move (v := .tup _) rfl) ?_
  refine t_p (by first | exact h_move (v := .s _) rfl | exact h_move (v := .agg _) rfl | exact h_move (v := .tup _) rfl) ?_
  refine t_a (h_call callable_35 rfl (seal_v _ M C l (u + 1) hM hC hC8 hl a c)) rfl ?_
  refine t_p (by first | exact h_move (v := .s _) rfl | exact h_move (v := .agg _) rfl | exact h_move (v := .tup _) rfl) ?_
  refine t_p (h_extract rfl rfl (by simp)) ?_
  refine t_p (h_extract rfl rfl (by simp)) ?_
  refine t_p (by first | exact h_assign (v := .s _) rfl | exact h_assign (v := .agg _) rfl | exact h_assign (v := .tup _) rfl) ?_
  refine t_nil ?_
  refine s_p (by first | exact h_assign (v := .s _) rfl | exact h_assign (v := .agg _) rfl | exact h_assign (v := .tup _) rfl) ?_
  refine s_nil ?_
  refine n_wp ?_
  refine w_seq ?_
  refine c_reg (by kernel_rfl) rfl ?_
  refine s_p (by first | exact h_move (v := .s _) rfl | exact h_move (v := .agg _) rfl | exact h_move (v := .tup _) rfl) ?_
  refine s_p (h_bin rfl rfl (b_neq (decide_eq_false (fun h => h rfl)))) ?_
  refine s_nil ?_
  refine n_wp ?_
  refine w_cond rfl (fun hc_t47 => ?_) (fun hc_t47 => ?_)
  · exact absurd hc_t47 (by simp)
  refine w_skip ?_
  refine n_wp ?_
  refine w_seq ?_
  refine c_reg (by kernel_rfl) rfl ?_
  refine s_p (by first | exact h_move (v := .s _) rfl | exact h_move (v := .agg _) rfl | exact h_move (v := .tup _) rfl) ?_
  refine s_p (h_nilCheck rfl) ?_
  refine s_p (h_field rfl Try.underlying77 rfl Try.sizeOf3 (by decide)) ?_
  refine s_p (by first | exact h_load_ints rfl rfl rfl (by omega) rfl Try.isAgg3 | exact h_load_one rfl rfl rfl Try.isAgg3) ?_
  refine s_p (h_bin rfl rfl (b_add (r := ((u + 1 : Nat) : Int)) (wr_n (by omega) (by omega)))) ?_
  refine s_p (h_nilCheck rfl) ?_
  refine s_p (h_field rfl Try.underlying77 rfl Try.sizeOf3 (by decide)) ?_
  refine s_st (by first | exact m_store_int rfl rfl rfl rfl (by omega) (by (exact z_len _)) Try.sizeOf3 rfl | exact m_store_one rfl rfl (by simp) rfl rfl Try.sizeOf3 rfl) ?_
  refine s_nil ?_
  refine n_wp ?_
  refine w_seq ?_
  refine c_reg (by kernel_rfl) rfl ?_
  refine s_p (by first | exact h_move (v := .s _) rfl | exact h_move (v := .agg _) rfl | exact h_move (v := .tup _) rfl) ?_
  refine s_p (by first | exact h_move (v := .s _) rfl | exact h_move (v := .agg _) rfl | exact h_move (v := .tup _) rfl) ?_
  refine s_p (by first | exact h_assign (v := .s _) rfl | exact h_assign (v := .agg _) rfl | exact h_assign (v := .tup _) rfl) ?_
  refine s_p (by first | exact h_assign (v := .s _) rfl | exact h_assign (v := .agg _) rfl | exact h_assign (v := .tup _) rfl) ?_
  refine s_p (by first | exact h_assign (v := .s _) rfl | exact h_assign (v := .agg _) rfl | exact h_assign (v := .tup _) rfl) ?_
  refine s_nil ?_
  refine n_wp ?_
  refine w_ret ?_
  exact doneM (by repeat (first | exact trivial | refine ⟨rfl, ?_⟩)) (ret_tmps3 Try.results39 rfl rfl rfl)
set_option maxRecDepth 100000 in
set_option maxHeartbeats 2000000 in
theorem put_big (H : Heap) (io : Nat) (M C : List Int) (l u : Nat) (bo : Blk) (ho : H[io]? = some (some bo)) (hos : bo.segs = [.ints .u8 32 M, .ints .u8 16 C, .one (.int .u32 ((l : Nat) : Int)), .one (.int .i64 1), .one (.int .i64 ((u : Nat) : Int))]) (a : Option Addr) (k c : Nat) (hu : u < 64) (hk : 2019 < k) : ACall Try.prog 39 H [.s (.ptr io (0 + 0) 0), .s (.val (.slice a k c))] (.tup [.s (.nils), .s (.int .u64 0), .s (.int .i64 3)]) [] := by
  refine acall_gen2 (args0 := [.s (.ptr 0 0 0), .s (.val (.slice a k c))]) (H0 := [some ⟨false, [.ints .u8 32 M, .ints .u8 16 C, .one (.int .u32 ((l : Nat) : Int)), .one (.int .i64 1), .one (.int .i64 ((u : Nat) : Int))]⟩]) (Hf := []) (v0 := (.tup [.s (.nils), .s (.int .u64 0), .s (.int .i64 3)])) [(io, 0)] [] Try.func39 rfl Try.ntmps39 (by simp) rfl
    (fun k id' sh' b0 h1 h2 => by
      match k, h1, h2 with
      | 0, h1, h2 => simp at h1 h2; obtain ⟨rfl, rfl⟩ := h1; subst h2; exact ⟨rfl, rfl, _, ho, foot_same hos⟩
      | k + 1, h1, _ => simp at h1)
    (fun W ρ vals w hH ha k id' sh' hk => by
      match k, hk with
      | 0, hk => simp at hk; obtain ⟨rfl, rfl⟩ := hk; exact ⟨(List.getElem?_eq_some_iff.1 ho).1, live_ptr (i := 0) ha rfl⟩
      | k + 1, hk => simp at hk)
    rfl rfl rfl (by decide) rfl rfl rfl (fun W w ρ0 hW hdom => ?_)
  refine w_seq ?_
  refine c_reg (by kernel_rfl) rfl ?_
  refine s_p (by first | exact h_assign (v := .s _) rfl | exact h_assign (v := .agg _) rfl | exact h_assign (v := .tup _) rfl) ?_
  refine s_p (by first | exact h_assign (v := .s _) rfl | exact h_assign (v := .agg _) rfl | exact h_assign (v := .tup _) rfl) ?_
  refine s_p (by first | exact h_assign (v := .s _) rfl | exact h_assign (v := .agg _) rfl | exact h_assign (v := .tup _) rfl) ?_
  refine s_nil ?_
  refine n_wp ?_
  refine w_seq ?_
  refine w_block ?_
  refine w_seq ?_
  refine c_reg (by kernel_rfl) rfl ?_
  refine s_p (by first | exact h_move (v := .s _) rfl | exact h_move (v := .agg _) rfl | exact h_move (v := .tup _) rfl) ?_
  refine s_p (h_eqn rfl rfl Try.underlying73) ?_
  refine s_p (by first | exact h_move (v := .s _) rfl | exact h_move (v := .agg _) rfl | exact h_move (v := .tup _) rfl) ?_
  first | refine s_on rfl rfl (by first | rfl | assumption) (by first | exact h_move (v := .s _) rfl | exact h_move (v := .agg _) rfl | exact h_move (v := .tup _) rfl) ?_ | refine s_off rfl rfl (by first | rfl | assumption) ?_
  first | refine s_on rfl rfl (by first | rfl | assumption) (h_nilCheck rfl) ?_ | refine s_off rfl rfl (by first | rfl | assumption) ?_
  first | refine s_on rfl rfl (by first | rfl | assumption) (h_field rfl Try.underlying77 rfl Try.sizeOf75 (by decide)) ?_ | refine s_off rfl rfl (by first | rfl | assumption) ?_
  first | refine s_on rfl rfl (by first | rfl | assumption) (h_field rfl Try.underlying75 rfl Try.sizeOf3 (by decide)) ?_ | refine s_off rfl rfl (by first | rfl | assumption) ?_
  first | refine s_on rfl rfl (by first | rfl | assumption) (by first | exact h_load_ints rfl rfl rfl (by omega) rfl Try.isAgg3 | exact h_load_one rfl rfl rfl Try.isAgg3) ?_ | refine s_off rfl rfl (by first | rfl | assumption) ?_
  first | refine s_on rfl rfl (by first | rfl | assumption) (h_bin rfl rfl (b_eql (decide_eq_false (by decide)))) ?_ | refine s_off rfl rfl (by first | rfl | assumption) ?_
  refine s_p (by first | exact h_pick_t rfl (by first | rfl | assumption) rfl | exact h_pick_f rfl (by first | rfl | assumption) rfl) ?_
  refine s_p (by first | exact h_assign (v := .s _) rfl | exact h_assign (v := .agg _) rfl | exact h_assign (v := .tup _) rfl) ?_
  refine s_nil ?_
  refine n_wp ?_
  refine w_cond rfl (fun hc_t7 => ?_) (fun hc_t7 => ?_)
  · exact absurd hc_t7 (by simp)
  refine w_seq ?_
  refine c_reg (by kernel_rfl) rfl ?_
  refine s_p (by first | exact h_move (v := .s _) rfl | exact h_move (v := .agg _) rfl | exact h_move (v := .tup _) rfl) ?_
  refine s_p (h_nilCheck rfl) ?_
  refine s_p (h_field rfl Try.underlying77 rfl Try.sizeOf3 (by decide)) ?_
  refine s_p (by first | exact h_load_ints rfl rfl rfl (by omega) rfl Try.isAgg3 | exact h_load_one rfl rfl rfl Try.isAgg3) ?_
  refine s_p (h_bin rfl rfl (b_geq (decide_eq_false (by omega)))) ?_
  refine s_p (by first | exact h_assign (v := .s _) rfl | exact h_assign (v := .agg _) rfl | exact h_assign (v := .tup _) rfl) ?_
  refine s_nil ?_
  refine n_wp ?_
  refine w_cond rfl (fun hc_t18 => ?_) (fun hc_t18 => ?_)
  · exact absurd hc_t18 (by simp)
  refine w_skip ?_
  refine n_blo ?_
  refine n_wp ?_
  refine w_seq ?_
  refine c_reg (by kernel_rfl) rfl ?_
  refine s_p (by first | exact h_move (v := .s _) rfl | exact h_move (v := .agg _) rfl | exact h_move (v := .tup _) rfl) ?_
  refine s_p (h_nilCheck rfl) ?_
  refine s_p (h_field rfl Try.underlying77 rfl Try.sizeOf3 (by decide)) ?_
  refine s_p (by first | exact h_load_ints rfl rfl rfl (by omega) rfl Try.isAgg3 | exact h_load_one rfl rfl rfl Try.isAgg3) ?_
  refine s_p (h_conv (r := ((u : Nat) : Int)) rfl Try.underlying3 Try.underlying40 (wrap64 (by omega) (by omega))) ?_
  refine s_p (h_bin rfl rfl (b_add (r := ((u + 1 : Nat) : Int)) (by rw [wrap64 (by omega) (by omega)]; omega))) ?_
  refine s_p (by first | exact h_assign (v := .s _) rfl | exact h_assign (v := .agg _) rfl | exact h_assign (v := .tup _) rfl) ?_
  refine s_nil ?_
  refine n_wp ?_
  refine w_seq ?_
  refine w_seq ?_
  refine c_any 17 mix (by kernel_rfl) (by kernel_rfl) rfl rfl rfl ?_
  refine t_p (by first | exact h_move (v := .s _) rfl | exact h_move (v := .agg _) rfl | exact h_move (v := .tup _) rfl) ?_
  refine t_p (h_nilCheck rfl) ?_
  refine t_p (h_field rfl Try.underlying77 rfl Try.sizeOf75 (by decide)) ?_
  refine t_p (h_field rfl Try.underlying75 rfl Try.sizeOf56 (by decide)) ?_
  refine t_p (h_load_agg rfl rfl (.two (m := 32) (n := 16) rfl rfl (.seg rfl rfl)) Try.isAgg56 Try.sizeOf56) ?_
  refine t_p (by first | exact h_move (v := .s _) rfl | exact h_move (v := .agg _) rfl | exact h_move (v := .tup _) rfl) ?_
  refine t_p (h_nilCheck rfl) ?_
  refine t_p (h_field rfl Try.underlying77 rfl Try.sizeOf75 (by decide)) ?_
  refine t_p (h_field rfl Try.underlying75 rfl Try.sizeOf61 (by decide)) ?_
  refine t_p (by first | exact h_load_ints rfl rfl rfl (by omega) rfl Try.isAgg61 | exact h_load_one rfl rfl rfl Try.isAgg61) ?_
  refine t_p (by first | exact h_move (v := .s _) rfl | exact h_move (v := .agg _) rfl | exact h_move (v := .tup _) rfl) ?_
  refine t_p (by first | exact h_move (v := .s _) rfl | exact h_move (v := .agg _) rfl | exact h_move (v := .tup _) rfl) ?_
  refine t_p (h_call callable_35 rfl (seal_big _ M C ((l : Nat) : Int) ((u + 1 : Nat) : Int) a k c hk)) ?_
  refine t_p (by first | exact h_move (v := .s _) rfl | exact h_move (v := .agg _) rfl | exact h_move (v := .tup _) rfl) ?_
  refine t_p (h_extract rfl rfl (by simp)) ?_
  refine t_p (h_extract rfl rfl (by simp)) ?_
  refine t_p (by first | exact h_assign (v := .s _) rfl | exact h_assign (v := .agg _) rfl | exact h_assign (v := .tup _) rfl) ?_
  refine t_nil ?_
  refine s_p (by first | exact h_assign (v := .s _) rfl | exact h_assign (v := .agg _) rfl | exact h_assign (v := .tup _) rfl) ?_
  refine s_nil ?_
  refine n_wp ?_
  refine w_seq ?_
  refine c_reg (by kernel_rfl) rfl ?_
  refine s_p (by first | exact h_move (v := .s _) rfl | exact h_move (v := .agg _) rfl | exact h_move (v := .tup _) rfl) ?_
  refine s_p (h_bin rfl rfl (b_neq (decide_eq_true (by decide)))) ?_
  refine s_nil ?_
  refine n_wp ?_
  refine w_cond rfl (fun hc_t47 => ?_) (fun hc_t47 => ?_)
  rotate_left
  · exact absurd hc_t47 (by simp)
  refine w_seq ?_
  refine c_reg (by kernel_rfl) rfl ?_
  refine s_p (by first | exact h_move (v := .s _) rfl | exact h_move (v := .agg _) rfl | exact h_move (v := .tup _) rfl) ?_
  refine s_p (by first | exact h_assign (v := .s _) rfl | exact h_assign (v := .agg _) rfl | exact h_assign (v := .tup _) rfl) ?_
  refine s_p (by first | exact h_assign (v := .s _) rfl | exact h_assign (v := .agg _) rfl | exact h_assign (v := .tup _) rfl) ?_
  refine s_p (by first | exact h_assign (v := .s _) rfl | exact h_assign (v := .agg _) rfl | exact h_assign (v := .tup _) rfl) ?_
  refine s_nil ?_
  refine n_wp ?_
  refine w_ret ?_
  refine r_thn ?_
  exact doneM (by repeat (first | exact trivial | refine ⟨rfl, ?_⟩)) (ret_tmps3 Try.results39 rfl rfl rfl)
set_option maxRecDepth 100000 in
set_option maxHeartbeats 2000000 in
theorem put_full_v (H : Heap) (io : Nat) (M C : List Int) (l u : Nat) (bo : Blk) (ho : H[io]? = some (some bo)) (hos : bo.segs = [.ints .u8 32 M, .ints .u8 16 C, .one (.int .u32 ((l : Nat) : Int)), .one (.int .i64 1), .one (.int .i64 ((u : Nat) : Int))]) (a : Option Addr) (k c : Nat) (hu : 64 ≤ u) : ACall Try.prog 39 H [.s (.ptr io (0 + 0) 0), .s (.val (.slice a k c))] (.tup [.s (.nils), .s (.int .u64 0), .s (.int .i64 6)]) [] := by
  refine acall_gen2 (args0 := [.s (.ptr 0 0 0), .s (.val (.slice a k c))]) (H0 := [some ⟨false, [.ints .u8 32 M, .ints .u8 16 C, .one (.int .u32 ((l : Nat) : Int)), .one (.int .i64 1), .one (.int .i64 ((u : Nat) : Int))]⟩]) (Hf := []) (v0 := (.tup [.s (.nils), .s (.int .u64 0), .s (.int .i64 6)])) [(io, 0)] [] Try.func39 rfl Try.ntmps39 (by simp) rfl
    (fun k id' sh' b0 h1 h2 => by
      match k, h1, h2 with
      | 0, h1, h2 => simp at h1 h2; obtain ⟨rfl, rfl⟩ := h1; subst h2; exact ⟨rfl, rfl, _, ho, foot_same hos⟩
      | k + 1, h1, _ => simp at h1)
    (fun W ρ vals w hH ha k id' sh' hk => by
      match k, hk with
      | 0, hk => simp at hk; obtain ⟨rfl, rfl⟩ := hk; exact ⟨(List.getElem?_eq_some_iff.1 ho).1, live_ptr (i := 0) ha rfl⟩
      | k + 1, hk => simp at hk)
    rfl rfl rfl (by decide) rfl rfl rfl (fun W w ρ0 hW hdom => ?_)
  refine w_seq ?_
  refine c_reg (by kernel_rfl) rfl ?_
  refine s_p (by first | exact h_assign (v := .s _) rfl | exact h_assign (v := .agg _) rfl | exact h_assign (v := .tup _) rfl) ?_
  refine s_p (by first | exact h_assign (v := .s _) rfl | exact h_assign (v := .agg _) rfl | exact h_assign (v := .tup _) rfl) ?_
  refine s_p (by first | exact h_assign (v := .s _) rfl | exact h_assign (v := .agg _) rfl | exact h_assign (v := .tup _) rfl) ?_
  refine s_nil ?_
  refine n_wp ?_
  refine w_seq ?_
  refine w_block ?_
  refine w_seq ?_
  refine c_reg (by kernel_rfl) rfl ?_
  refine s_p (by first | exact h_move (v := .s _) rfl | exact h_move (v := .agg _) rfl | exact h_move (v := .tup _) rfl) ?_
  refine s_p (h_eqn rfl rfl Try.underlying73) ?_
  refine s_p (by first | exact h_move (v := .s _) rfl | exact h_move (v := .agg _) rfl | exact h_move (v := .tup _) rfl) ?_
  first | refine s_on rfl rfl (by first | rfl | assumption) (by first | exact h_move (v := .s _) rfl | exact h_move (v := .agg _) rfl | exact h_move (v := .tup _) rfl) ?_ | refine s_off rfl rfl (by first | rfl | assumption) ?_
  first | refine s_on rfl rfl (by first | rfl | assumption) (h_nilCheck rfl) ?_ | refine s_off rfl rfl (by first | rfl | assumption) ?_
  first | refine s_on rfl rfl (by first | rfl | assumption) (h_field rfl Try.underlying77 rfl Try.sizeOf75 (by decide)) ?_ | refine s_off rfl rfl (by first | rfl | assumption) ?_
  first | refine s_on rfl rfl (by first | rfl | assumption) (h_field rfl Try.underlying75 rfl Try.sizeOf3 (by decide)) ?_ | refine s_off rfl rfl (by first | rfl | assumption) ?_
  first | refine s_on rfl rfl (by first | rfl | assumption) (by first | exact h_load_ints rfl rfl rfl (by omega) rfl Try.isAgg3 | exact h_load_one rfl rfl rfl Try.isAgg3) ?_ | refine s_off rfl rfl (by first | rfl | assumption) ?_
  first | refine s_on rfl rfl (by first | rfl | assumption) (h_bin rfl rfl (b_eql (decide_eq_false (by decide)))) ?_ | refine s_off rfl rfl (by first | rfl | assumption) ?_
  refine s_p (by first | exact h_pick_t rfl (by first | rfl | assumption) rfl | exact h_pick_f rfl (by first | rfl | assumption) rfl) ?_
  refine s_p (by first | exact h_assign (v := .s _) rfl | exact h_assign (v := .agg _) rfl | exact h_assign (v := .tup _) rfl) ?_
  refine s_nil ?_
  refine n_wp ?_
  refine w_cond rfl (fun hc_t7 => ?_) (fun hc_t7 => ?_)
  · exact absurd hc_t7 (by simp)
  refine w_seq ?_
  refine c_reg (by kernel_rfl) rfl ?_
  refine s_p (by first | exact h_move (v := .s _) rfl | exact h_move (v := .agg _) rfl | exact h_move (v := .tup _) rfl) ?_
  refine s_p (h_nilCheck rfl) ?_
  refine s_p (h_field rfl Try.underlying77 rfl Try.sizeOf3 (by decide)) ?_
  refine s_p (by first | exact h_load_ints rfl rfl rfl (by omega) rfl Try.isAgg3 | exact h_load_one rfl rfl rfl Try.isAgg3) ?_
  refine s_p (h_bin rfl rfl (b_geq (decide_eq_true (by omega)))) ?_
  refine s_p (by first | exact h_assign (v := .s _) rfl | exact h_assign (v := .agg _) rfl | exact h_assign (v := .tup _) rfl) ?_
  refine s_nil ?_
  refine n_wp ?_
  refine w_cond rfl (fun hc_t18 => ?_) (fun hc_t18 => ?_)
  rotate_left
  · exact absurd hc_t18 (by simp)
  refine w_seq ?_
  refine c_reg (by kernel_rfl) rfl ?_
  refine s_p (by first | exact h_assign (v := .s _) rfl | exact h_assign (v := .agg _) rfl | exact h_assign (v := .tup _) rfl) ?_
  refine s_p (by first | exact h_assign (v := .s _) rfl | exact h_assign (v := .agg _) rfl | exact h_assign (v := .tup _) rfl) ?_
  refine s_p (by first | exact h_assign (v := .s _) rfl | exact h_assign (v := .agg _) rfl | exact h_assign (v := .tup _) rfl) ?_
  refine s_nil ?_
  refine n_wp ?_
  refine w_ret ?_
  refine r_blo ?_
  refine r_thn ?_
  exact doneM (by repeat (first | exact trivial | refine ⟨rfl, ?_⟩)) (ret_tmps3 Try.results39 rfl rfl rfl)
set_option maxRecDepth 100000 in
set_option maxHeartbeats 2000000 in
theorem put_full_s (H : Heap) (io : Nat) (M C : List Int) (l u : Nat) (bo : Blk) (ho : H[io]? = some (some bo)) (hos : bo.segs = [.ints .u8 32 M, .ints .u8 16 C, .one (.int .u32 ((l : Nat) : Int)), .one (.int .i64 1), .one (.int .i64 ((u : Nat) : Int))]) (id base idx len cap : Nat) (hid : id < H.length) (hu : 64 ≤ u) : ACall Try.prog 39 H [.s (.ptr io (0 + 0) 0), .s (.slice id base idx len cap)] (.tup [.s (.nils), .s (.int .u64 0), .s (.int .i64 6)]) [] := by
  refine acall_gen2 (args0 := [.s (.ptr 0 0 0), .s (.slice 1 base idx len cap)]) (H0 := [some ⟨false, [.ints .u8 32 M, .ints .u8 16 C, .one (.int .u32 ((l : Nat) : Int)), .one (.int .i64 1), .one (.int .i64 ((u : Nat) : Int))]⟩, none]) (Hf := []) (v0 := (.tup [.s (.nils), .s (.int .u64 0), .s (.int .i64 6)])) [(io, 0), (id, 0)] [] Try.func39 rfl Try.ntmps39 (by simp) rfl
    (fun k id' sh' b0 h1 h2 => by
      match k, h1, h2 with
      | 0, h1, h2 => simp at h1 h2; obtain ⟨rfl, rfl⟩ := h1; subst h2; exact ⟨rfl, rfl, _, ho, foot_same hos⟩
      | 1, h1, h2 => simp at h2
      | k + 2, h1, _ => simp at h1)
    (fun W ρ vals w hH ha k id' sh' hk => by
      match k, hk with
      | 0, hk => simp at hk; obtain ⟨rfl, rfl⟩ := hk; exact ⟨(List.getElem?_eq_some_iff.1 ho).1, live_ptr (i := 0) ha rfl⟩
      | 1, hk => simp at hk; obtain ⟨rfl, rfl⟩ := hk; exact ⟨(hid), live_slice (i := 1) ha rfl⟩
      | k + 2, hk => simp at hk)
    rfl rfl rfl (by decide) rfl rfl rfl (fun W w ρ0 hW hdom => ?_)
  refine w_seq ?_
  refine c_reg (by kernel_rfl) rfl ?_
  refine s_p (by first | exact h_assign (v := .s _) rfl | exact h_assign (v := .agg _) rfl | exact h_assign (v := .tup _) rfl) ?_
  refine s_p (by first | exact h_assign (v := .s _) rfl | exact h_assign (v := .agg _) rfl | exact h_assign (v := .tup _) rfl) ?_
  refine s_p (by first | exact h_assign (v := .s _) rfl | exact h_assign (v := .agg _) rfl | exact h_assign (v := .tup _) rfl) ?_
  refine s_nil ?_
  refine n_wp ?_
  refine w_seq ?_
  refine w_block ?_
  refine w_seq ?_
  refine c_reg (by kernel_rfl) rfl ?_
  refine s_p (by first | exact h_move (v := .s _) rfl | exact h_move (v := .agg _) rfl | exact h_move (v := .tup _) rfl) ?_
  refine s_p (h_eqn rfl rfl Try.underlying73) ?_
  refine s_p (by first | exact h_move (v := .s _) rfl | exact h_move (v := .agg _) rfl | exact h_move (v := .tup _) rfl) ?_
  first | refine s_on rfl rfl (by first | rfl | assumption) (by first | exact h_move (v := .s _) rfl | exact h_move (v := .agg _) rfl | exact h_move (v := .tup _) rfl) ?_ | refine s_off rfl rfl (by first | rfl | assumption) ?_
  first | refine s_on rfl rfl (by first | rfl | assumption) (h_nilCheck rfl) ?_ | refine s_off rfl rfl (by first | rfl | assumption) ?_
  first | refine s_on rfl rfl (by first | rfl | assumption) (h_field rfl Try.underlying77 rfl Try.sizeOf75 (by decide)) ?_ | refine s_off rfl rfl (by first | rfl | assumption) ?_
  first | refine s_on rfl rfl (by first | rfl | assumption) (h_field rfl Try.underlying75 rfl Try.sizeOf3 (by decide)) ?_ | refine s_off rfl rfl (by first | rfl | assumption) ?_
  first | refine s_on rfl rfl (by first | rfl | assumption) (by first | exact h_load_ints rfl rfl rfl (by omega) rfl Try.isAgg3 | exact h_load_one rfl rfl rfl Try.isAgg3) ?_ | refine s_off rfl rfl (by first | rfl | assumption) ?_
  first | refine s_on rfl rfl (by first | rfl | assumption) (h_bin rfl rfl (b_eql (decide_eq_false (by decide)))) ?_ | refine s_off rfl rfl (by first | rfl | assumption) ?_
  refine s_p (by first | exact h_pick_t rfl (by first | rfl | assumption) rfl | exact h_pick_f rfl (by first | rfl | assumption) rfl) ?_
  refine s_p (by first | exact h_assign (v := .s _) rfl | exact h_assign (v := .agg _) rfl | exact h_assign (v := .tup _) rfl) ?_
  refine s_nil ?_
  refine n_wp ?_
  refine w_cond rfl (fun hc_t7 => ?_) (fun hc_t7 => ?_)
  · exact absurd hc_t7 (by simp)
  refine w_seq ?_
  refine c_reg (by kernel_rfl) rfl ?_
  refine s_p (by first | exact h_move (v := .s _) rfl | exact h_move (v := .agg _) rfl | exact h_move (v := .tup _) rfl) ?_
  refine s_p (h_nilCheck rfl) ?_
  refine s_p (h_field rfl Try.underlying77 rfl Try.sizeOf3 (by decide)) ?_
  refine s_p (by first | exact h_load_ints rfl rfl rfl (by omega) rfl Try.isAgg3 | exact h_load_one rfl rfl rfl Try.isAgg3) ?_
  refine s_p (h_bin rfl rfl (b_geq (decide_eq_true (by omega)))) ?_
  refine s_p (by first | exact h_assign (v := .s _) rfl | exact h_assign (v := .agg _) rfl | exact h_assign (v := .tup _) rfl) ?_
  refine s_nil ?_
  refine n_wp ?_
  refine w_cond rfl (fun hc_t18 => ?_) (fun hc_t18 => ?_)
  rotate_left
  · exact absurd hc_t18 (by simp)
  refine w_seq ?_
  refine c_reg (by kernel_rfl) rfl ?_
  refine s_p (by first | exact h_assign (v := .s _) rfl | exact h_assign (v := .agg _) rfl | exact h_assign (v := .tup _) rfl) ?_
  refine s_p (by first | exact h_assign (v := .s _) rfl | exact h_assign (v := .agg _) rfl | exact h_assign (v := .tup _) rfl) ?_
  refine s_p (by first | exact h_assign (v := .s _) rfl | exact h_assign (v := .agg _) rfl | exact h_assign (v := .tup _) rfl) ?_
  refine s_nil ?_
  refine n_wp ?_
  refine w_ret ?_
  refine r_blo ?_
  refine r_thn ?_
  exact doneM (by repeat (first | exact trivial | refine ⟨rfl, ?_⟩)) (ret_tmps3 Try.results39 rfl rfl rfl)
end Go.Proofs.X
