/- A part of the proofs of this claim: BStr1, BStr2, BNumS, BByteS, BStr3, BBok1, BBok2. No conditions. -/
import Derived.Test.YtokgpammicpahaaGreatDoorA4
import Derived.Test.YtokgpammicpahaaGreatDoorA5
import Derived.Test.YtokgpammicpahaaGreatDoorA3
set_option linter.unusedVariables false
set_option linter.unusedSimpArgs false
section
open Go Go.Bx Go.Proofs
namespace Go.Proofs.X
set_option maxRecDepth 100000
set_option maxHeartbeats 4000000
attribute [local irreducible] SB BK ks
theorem unblock_c (K b : List Int) (hb : b.length = 16) (hu : U8 b) : Con Tryz.prog 111 [.s (.fptr 688 (cellsF [.ints .u8 256 SB, .ints .u8 256 BK, .ints .u8 176 K]) 0 0), .agg [.ints .u8 16 b]] [] (.agg [.ints .u8 16 (backL BK K b)]) [] := by
 refine con_in 49 Tryz.func111 rfl rfl (m := 0) rfl ?_
 intro E hP hn hE
 refine w_seq ?_
 refine g_reg hP hn ?_
 refine s_op k_bx ?_
 refine s_op k_al ?_
 refine s_nil trivial ?_
 refine n_wp ?_
 refine w_seq ?_
 refine w_seq ?_
 refine g_reg hP hn ?_
 refine s_op k_as ?_
 refine s_nil trivial ?_
 refine n_wp ?_
 refine w_block ?_
 refine c_loop (fun m_ T H => ∃ r : Nat, r ≤ 10 ∧ m_ = 10 - r ∧ T = [(0, .s (.fptr 688 (cellsF [.ints .u8 256 SB, .ints .u8 256 BK, .ints .u8 176 K]) 0 0)), (3, .s (.ptr 0 0 0)), (4, .s (.ptr 1 0 0)), (5, .s (.int .i64 (10 - (r : Int))))] ∧ H = [some ⟨true, [.ints .u8 16 (dec BK K b r)]⟩, some ⟨true, [.ints .u8 16 (z 16)]⟩]) (10) ⟨0, by omega, rfl, rfl, rfl⟩ (wk hE []) ?_
 rintro n_ T_ H_ ⟨r, hr, rfl, rfl, rfl⟩
 refine w_seq ?_
 refine w_seq ?_
 refine g_reg hP hn ?_
 refine s_op k_mv ?_
 refine s_op k_geq ?_
 refine s_nil trivial ?_
 refine n_wp ?_
 refine w_if rfl (fun h_t9 => ?_) (fun h_t9 => ?_)
 · skip
   have hlt : r < 10 := by omega
   refine w_skip ?_
   refine n_wp ?_
   refine w_seq ?_
   refine w_block ?_
   refine w_seq ?_
   refine g_any hP hn ?_
   refine s_op k_ld ?_
   refine s_op k_mv ?_
   refine s_op k_mv ?_
   refine s_op k_nc ?_
   refine s_op k_fa ?_
   refine s_op (k_ix (by exact a_ixf (hj := ⟨(by omega : (10 : Int) - (r : Int) = ((10 - r : Nat) : Int))⟩) rfl rfl (by omega))) ?_
   refine s_op (k_ld (by exact a_loadf_aggI rfl rfl (by omega) (by omega))) ?_
   refine s_op (k_call [] (con := against_c _ _ (dec_len _ _ _ hb _))) ?_
   refine s_st k_st ?_
   refine s_nil (by kernel_rfl) ?_
   refine n_wp ?_
   refine w_seq ?_
   refine w_seq ?_
   have hyl : (xor16 (dec BK K b r) ((K.drop ((10 - r) * 16)).take 16)).length = 16 := (xor16_len _ _).trans (dec_len _ _ _ hb _)
   have hyu : U8 (xor16 (dec BK K b r) ((K.drop ((10 - r) * 16)).take 16)) := U8_xor16 (U8_dec U8_BK hu r)
   have hdec : dec BK K b (r + 1) = subBack BK (decX (xor16 (dec BK K b r) ((K.drop ((10 - r) * 16)).take 16)) r) 16 := rfl
   generalize xor16 (dec BK K b r) ((K.drop ((10 - r) * 16)).take 16) = y at *
   refine g_reg hP hn ?_
   refine s_op k_mv ?_
   refine s_op k_lss ?_
   refine s_nil trivial ?_
   refine n_wp ?_
   refine w_cut (fun T H => ∃ x, x = decX y r ∧ T = [(0, .s (.fptr 688 (cellsF [.ints .u8 256 SB, .ints .u8 256 BK, .ints .u8 176 K]) 0 0)), (3, .s (.ptr 0 0 0)), (4, .s (.ptr 1 0 0)), (5, .s (.int .i64 (10 - (r : Int))))] ∧ H = [some ⟨true, [.ints .u8 16 x]⟩, some ⟨true, [.ints .u8 16 (z 16)]⟩]) ?_ ?_
   · skip
     refine w_if rfl (fun h_t21 => ?_) (fun h_t21 => ?_)
     · skip
       have hx : mixI (mixI (mixI y)) = decX y r := by unfold decX; rw [if_pos (by omega)]
       refine g_reg hP hn ?_
       refine s_op k_ld ?_
       refine s_op (k_call [] (con := mixed_c _ hyl)) ?_
       refine s_op (k_call [] (con := mixed_c _ ((mixI_len _).trans hyl))) ?_
       refine s_op (k_call [] (con := mixed_c _ ((mixI_len _).trans ((mixI_len _).trans hyl)))) ?_
       refine s_st k_st ?_
       refine s_nil trivial ?_
       exact n_cut ⟨_, hx, rfl, rfl⟩ (wk hE [])
     · skip
       have hx : y = decX y r := by unfold decX; rw [if_neg (by omega)]
       refine w_skip ?_
       exact n_cut ⟨_, hx, rfl, rfl⟩ (wk hE [])
   rintro T H ⟨x, hx, rfl, rfl⟩
   have hux : U8 x := by rw [hx]; exact U8_decX hyu r
   have hxl : x.length = 16 := by rw [hx]; exact (decX_len y r).trans hyl
   refine w_seq ?_
   refine g_reg hP hn ?_
   refine s_op k_al ?_
   refine s_nil trivial ?_
   refine n_wp ?_
   refine w_seq ?_
   refine w_seq ?_
   refine g_reg hP hn ?_
   refine s_op k_mv ?_
   refine s_nil trivial ?_
   refine n_wp ?_
   refine w_block ?_
   refine c_loop (fun m_ T H => ∃ i : Nat, i ≤ 16 ∧ m_ = 16 - i ∧ T = [(0, .s (.fptr 688 (cellsF [.ints .u8 256 SB, .ints .u8 256 BK, .ints .u8 176 K]) 0 0)), (3, .s (.ptr 0 0 0)), (4, .s (.ptr 1 0 0)), (5, .s (.int .i64 (10 - (r : Int)))), (6, .s (.ptr 2 0 0)), (26, .s (.int .i64 ((i : Nat) : Int)))] ∧ H = [some ⟨true, [.ints .u8 16 x]⟩, some ⟨true, [.ints .u8 16 (z 16)]⟩, some ⟨true, [.ints .u8 16 (subBack BK x i)]⟩]) (16) ⟨0, by omega, rfl, rfl, rfl⟩ (wk hE []) ?_
   rintro n_ T_ H_ ⟨i, hi, rfl, rfl, rfl⟩
   refine w_seq ?_
   refine g_reg hP hn ?_
   refine s_op k_lss ?_
   refine s_nil trivial ?_
   refine n_wp ?_
   refine w_seq ?_
   refine w_if rfl (fun h_t27 => ?_) (fun h_t27 => ?_)
   · skip
     have hsl := subBack_len BK x i
     refine w_skip ?_
     refine n_wp ?_
     refine w_seq ?_
     refine w_block ?_
     refine w_seq ?_
     refine g_reg hP hn ?_
     refine s_op k_mv ?_
     refine s_op k_as ?_
     refine s_nil trivial ?_
     refine n_wp ?_
     have ue := hux i
     refine g_any hP hn ?_
     refine s_op k_mv ?_
     refine s_op (k_call [] (con := place_c _ (by omega))) ?_
     refine s_op k_mv ?_
     refine s_op k_mv ?_
     refine s_op k_ix ?_
     refine s_op k_ld ?_
     refine s_op k_nc ?_
     refine s_op k_fa ?_
     refine s_op (k_ix (by exact a_ixf (hj := ⟨(Int.toNat_of_nonneg ue.1).symm⟩) rfl rfl (by omega))) ?_
     refine s_op k_ld ?_
     refine s_op k_ix ?_
     refine s_st k_st ?_
     refine s_nil (by kernel_rfl) ?_
     refine n_blo ?_
     refine n_wp ?_
     refine g_reg hP hn ?_
     refine s_op k_add ?_
     refine s_op k_mv ?_
     refine s_nil trivial ?_
     exact n_round (16 - (i + 1)) (by omega) ⟨i + 1, by omega, rfl, rfl, rfl⟩ (wk hE [])
   · skip
     obtain rfl : i = 16 := by omega
     rw [← hx] at hdec
     rw [← hdec]
     refine w_exit ?_
     refine x_thn ?_
     refine x_thn ?_
     refine x_eq ?_
     refine n_wp ?_
     refine g_reg hP hn ?_
     refine s_op k_ld ?_
     refine s_st k_st ?_
     refine s_nil trivial ?_
     refine n_blo ?_
     refine n_wp ?_
     refine g_reg hP hn ?_
     refine s_op k_mv ?_
     refine s_op (k_sub (by exact l_bin rfl rfl (b_sub (wrap_i64 (by omega))))) ?_
     refine s_op k_as ?_
     refine s_nil trivial ?_
     rw [show (10 - (r : Int) - 1) = 10 - ((r + 1 : Nat) : Int) by omega]
     exact n_round (10 - (r + 1)) (by omega) ⟨r + 1, by omega, rfl, rfl, rfl⟩ (wk hE [])
 · skip
   obtain rfl : r = 10 := by omega
   unfold backL
   have hql := dec_len BK K b hb 10
   generalize dec BK K b 10 = q at *
   unfold kwas
   refine w_exit ?_
   refine x_thn ?_
   refine x_thn ?_
   refine x_eq ?_
   refine n_wp ?_
   refine w_seq ?_
   refine g_any hP hn ?_
   refine s_op k_ld ?_
   refine s_op k_mv ?_
   refine s_op k_nc ?_
   refine s_op k_fa ?_
   refine s_op k_ix ?_
   refine s_op (k_ld (by exact a_loadf_aggI rfl rfl (by omega) (by omega))) ?_
   refine s_op (k_call [] (con := against_c _ _ hql)) ?_
   refine s_st k_st ?_
   refine s_nil (by kernel_rfl) ?_
   refine n_wp ?_
   refine w_ret ?_
   exact d_ret hP hn hE [] (r_cell Tryz.results111)

theorem Back_c (key b : List Int) (hk8 : U8 key) (hb : b.length = 16) (hb8 : U8 b) : Con Tryz.prog 42 [.agg [.ints .u8 16 key], .agg [.ints .u8 16 b]] [] (.agg [.ints .u8 16 (backI key b)]) [] := by
 refine con_in 9 Tryz.func42 rfl rfl (m := 0) rfl ?_
 intro E hP hn hE
 unfold backI
 refine w_seq ?_
 refine g_reg hP hn ?_
 refine s_op k_bx ?_
 refine s_op k_bx ?_
 refine s_op k_al ?_
 refine s_nil trivial ?_
 refine n_wp ?_
 refine w_seq ?_
 refine g_any hP hn ?_
 refine s_op k_ld ?_
 refine s_op (k_call [] (con := machine_c key hk8)) ?_
 refine s_op k_ld ?_
 refine s_op (k_call [] (con := unblock_c (keysOf key) b hb hb8)) ?_
 refine s_st k_st ?_
 refine s_nil (by kernel_rfl) ?_
 refine n_wp ?_
 refine w_ret ?_
 exact d_ret hP hn hE [] (r_cell Tryz.results42)

theorem Block_c (key b : List Int) (hk8 : U8 key) (hb : b.length = 16) (hb8 : U8 b) : Con Tryz.prog 41 [.agg [.ints .u8 16 key], .agg [.ints .u8 16 b]] [] (.agg [.ints .u8 16 (blockI key b)]) [] := by
 refine con_in 9 Tryz.func41 rfl rfl (m := 0) rfl ?_
 intro E hP hn hE
 refine w_seq ?_
 refine g_reg hP hn ?_
 refine s_op k_bx ?_
 refine s_op k_bx ?_
 refine s_op k_al ?_
 refine s_nil trivial ?_
 refine n_wp ?_
 refine w_seq ?_
 refine g_any hP hn ?_
 refine s_op k_ld ?_
 refine s_op (k_call [] (con := machine_c key hk8)) ?_
 refine s_op k_ld ?_
 refine s_op (k_call [] (con := block_c key b hb hb8)) ?_
 refine s_st k_st ?_
 refine s_nil (by kernel_rfl) ?_
 refine n_wp ?_
 refine w_ret ?_
 exact d_ret hP hn hE [] (r_cell Tryz.results41)

def livA : Nat → List Int
  | 0 => z 16
  | k + 1 => (livA k).set k k
def livB : Nat → List Int
  | 0 => z 16
  | k + 1 => (livB k).set k ((17 * k : Nat) : Int)
theorem livA_len (k : Nat) : (livA k).length = 16 := by
  induction k with
  | zero => exact z_len _
  | succ k ih => simp [livA, ih]
theorem livB_len (k : Nat) : (livB k).length = 16 := by
  induction k with
  | zero => exact z_len _
  | succ k ih => simp [livB, ih]
def LA : List Int := [0, 1, 2, 3, 4, 5, 6, 7, 8, 9, 10, 11, 12, 13, 14, 15]
def LB : List Int := [0, 17, 34, 51, 68, 85, 102, 119, 136, 153, 170, 187, 204, 221, 238, 255]
def LW : List Int := [105, 196, 224, 216, 106, 123, 4, 48, 216, 205, 183, 128, 112, 180, 197, 90]
theorem livA_eq : livA 16 = LA := by decide +kernel
theorem livB_eq : livB 16 = LB := by decide +kernel
theorem U8_LA : U8 LA := u8B_U8 (by decide)
theorem U8_LB : U8 LB := u8B_U8 (by decide)
theorem U8_LW : U8 LW := u8B_U8 (by decide)
theorem live_block : blockI LA LB = LW := by decide +kernel
theorem live_back : backI LA LW = LB := by decide +kernel

theorem Block_l : Con Tryz.prog 41 [.agg [.ints .u8 16 LA], .agg [.ints .u8 16 LB]] [] (.agg [.ints .u8 16 LW]) [] := by
  have h := Block_c LA LB U8_LA rfl U8_LB
  rwa [live_block] at h
theorem Back_l : Con Tryz.prog 42 [.agg [.ints .u8 16 LA], .agg [.ints .u8 16 LW]] [] (.agg [.ints .u8 16 LB]) [] := by
  have h := Back_c LA LW U8_LA rfl U8_LW
  rwa [live_back] at h

theorem lives_c : Con Tryz.prog 7 [] [] (.s (.bool true)) [] := by
 refine con_in 38 Tryz.func7 rfl rfl (m := 0) rfl ?_
 intro E hP hn hE
 refine w_seq ?_
 refine g_reg hP hn ?_
 refine s_op k_as ?_
 refine s_nil trivial ?_
 refine n_wp ?_
 refine w_seq ?_
 refine g_reg hP hn ?_
 refine s_op k_al ?_
 refine s_op k_al ?_
 refine s_nil trivial ?_
 refine n_wp ?_
 refine w_seq ?_
 refine w_seq ?_
 refine g_reg hP hn ?_
 refine s_op k_as ?_
 refine s_nil trivial ?_
 refine n_wp ?_
 refine w_block ?_
 refine c_loop (fun m_ T H => ∃ k, k ≤ 16 ∧ m_ = 16 - k ∧ T = [(1, .s (.ptr 0 0 0)), (2, .s (.ptr 1 0 0)), (3, .s (.int .i64 ((k : Nat) : Int)))] ∧ H = [some ⟨true, [.ints .u8 16 (livA k)]⟩, some ⟨true, [.ints .u8 16 (livB k)]⟩]) (16) ⟨0, by omega, rfl, rfl, rfl⟩ (wk hE []) ?_
 rintro n_ T_ H_ ⟨k, hk, rfl, rfl, rfl⟩
 refine w_seq ?_
 refine w_seq ?_
 refine g_reg hP hn ?_
 refine s_op k_mv ?_
 refine s_op k_lss ?_
 refine s_nil trivial ?_
 refine n_wp ?_
 refine w_if rfl (fun h_t6 => ?_) (fun h_t6 => ?_)
 · skip
   have hla := livA_len k
   have hlb := livB_len k
   refine w_skip ?_
   refine n_wp ?_
   refine w_seq ?_
   refine w_block ?_
   refine w_seq ?_
   refine g_reg hP hn ?_
   refine s_op k_mv ?_
   refine s_op k_mv ?_
   refine s_op k_cv ?_
   refine s_op k_ix ?_
   refine s_st k_st ?_
   refine s_nil trivial ?_
   refine n_wp ?_
   refine g_reg hP hn ?_
   refine s_op k_mv ?_
   refine s_op k_mv ?_
   refine s_op k_mul ?_
   refine s_op k_cv ?_
   refine s_op k_ix ?_
   refine s_st k_st ?_
   refine s_nil trivial ?_
   refine n_blo ?_
   refine n_wp ?_
   refine g_reg hP hn ?_
   refine s_op k_mv ?_
   refine s_op k_add ?_
   refine s_op k_as ?_
   refine s_nil trivial ?_
   exact n_round (16 - (k + 1)) (by omega) ⟨k + 1, by omega, rfl, rfl, rfl⟩ (wk hE [])
 · skip
   obtain rfl : k = 16 := by omega
   rw [livA_eq, livB_eq]
   refine w_exit ?_
   refine x_thn ?_
   refine x_thn ?_
   refine x_eq ?_
   refine n_wp ?_
   refine w_seq ?_
   refine g_reg hP hn ?_
   refine s_op (k_bd (by exact a_buildK LW rfl rfl rfl)) ?_
   refine s_op k_al ?_
   refine s_st k_st ?_
   refine s_nil trivial ?_
   refine n_wp ?_
   refine w_seq ?_
   refine g_any hP hn ?_
   refine s_op k_ld ?_
   refine s_op k_ld ?_
   refine s_op (k_call [] (con := Block_l)) ?_
   refine s_op k_ld ?_
   refine s_op (k_eqAA (n := 16) (k := .u8) (l := LW) (hl := by rfl)) ?_
   refine s_op k_mv ?_
   refine s_on rfl rfl rfl k_ld ?_
   refine s_on rfl rfl rfl k_ld ?_
   refine s_on rfl rfl rfl (k_call [] (con := Back_l)) ?_
   refine s_on rfl rfl rfl k_ld ?_
   refine s_on rfl rfl rfl (k_eqAA (n := 16) (k := .u8) (l := LB) (hl := by rfl)) ?_
   refine s_op k_pk ?_
   refine s_op k_mv ?_
   refine s_on rfl rfl rfl k_ld ?_
   refine s_on rfl rfl rfl k_ld ?_
   refine s_on rfl rfl rfl (k_call [] (con := streamN_c LA LB)) ?_
   refine s_on rfl rfl rfl k_len ?_
   refine s_on rfl rfl rfl k_eql ?_
   refine s_op k_pk ?_
   refine s_op k_as ?_
   refine s_nil (by kernel_rfl) ?_
   refine n_wp ?_
   refine w_ret ?_
   exact d_ret hP hn hE [] (by first | exact r_tmp Tryz.results7 | exact r_tmpa Tryz.results7)

end Go.Proofs.X
end

section
open Go Go.Bx Go.Proofs
namespace Go.Proofs.X
set_option maxRecDepth 100000
set_option maxHeartbeats 4000000
attribute [local irreducible] SB BK ks
theorem streamI_len (key first B : List Int) : (streamI key first B).length = B.length := strN_len _ _ _ _ _
theorem streamI_get (key first B : List Int) (q k : Nat) (hk : k < 16) (h : 16 * q + k < B.length) : (streamI key first B).getD (16 * q + k) 0 = xorK .u8 (B.getD (16 * q + k) 0) ((blockI key (ctr first q)).getD k 0) := by
  rw [streamI, strN_get _ _ _ _ _ _ h (by omega), pad, show (16 * q + k) / 16 = q by omega, show (16 * q + k) % 16 = k by omega]
theorem rst_s (key first B : List Int) (q k : Nat) (hk : k < 16) (h : 16 * q + k < B.length) : ((streamI key first B).take (16 * q + k)).take (16 * q + k) ++ [xorK .u8 (B.getD (16 * q + k) 0) ((blockI key (ctr first q)).getD k 0)] = (streamI key first B).take (16 * q + k + 1) := by
  have hl := streamI_len key first B
  rw [List.take_take, Nat.min_self, List.take_add_one, List.getElem?_eq_getElem (by omega), ← streamI_get key first B q k hk h, List.getD_eq_getElem?_getD, List.getElem?_eq_getElem (by omega)]
  rfl

theorem rstream_c (key first B : List Int) (hk : key.length = 16) (hk8 : U8 key) (hf : first.length = 16) (hf8 : U8 first) (h0 : 0 < B.length) (hB : B.length ≤ 100000) : Con Tryz.prog 12 [.agg [.ints .u8 16 key], .agg [.ints .u8 16 first], .s (.fzi .u8 B)] [] (.s (.fzi .u8 (streamI key first B))) [] := by
 refine con_in 76 Tryz.func12 rfl rfl (m := 0) rfl ?_
 intro E hP hn hE
 refine w_seq ?_
 refine g_reg hP hn ?_
 refine s_op k_bx ?_
 refine s_op k_bx ?_
 refine s_op k_as ?_
 refine s_nil trivial ?_
 refine n_wp ?_
 refine w_seq ?_
 refine w_seq ?_
 refine g_reg hP hn ?_
 refine s_op k_mv ?_
 refine s_op k_len ?_
 refine s_op k_eql ?_
 refine s_nil trivial ?_
 refine n_wp ?_
 refine w_F rfl ?_ (decide_eq_false (by omega))
 refine w_skip ?_
 refine n_wp ?_
 refine w_seq ?_
 refine g_reg hP hn ?_
 refine s_op (k_call [] (con := nbox_c)) ?_
 refine s_op k_as ?_
 refine s_nil trivial ?_
 refine n_wp ?_
 refine w_seq ?_
 refine g_reg hP hn ?_
 refine s_op k_as ?_
 refine s_nil trivial ?_
 refine n_wp ?_
 refine w_seq ?_
 refine w_seq ?_
 refine w_weak (weak_gro 8 1 2 (segs := [.ints .u8 0 []]) rfl rfl rfl) ?_
 refine g_reg hP hn ?_
 refine s_op k_as ?_
 refine s_nil trivial ?_
 refine n_wp ?_
 refine w_block ?_
 refine c_loop (fun m_ T H => ∃ i L f, i ≤ B.length ∧ L = min (16 * ((i + 15) / 16)) B.length ∧ f = ctr first ((i + 15) / 16 - 1) ∧ m_ = B.length - i ∧ T = [(2, .s (.fzi .u8 B)), (3, .s (.ptr 0 0 0)), (4, .s (.ptr 1 0 0)), (7, .s (.fptr 512 (cellsF [.ints .u8 256 SB, .ints .u8 256 BK]) 0 0)), (8, .s (.gro 2 1 (L))), (9, .s (.int .i64 ((i : Nat) : Int)))] ∧ H = [some ⟨true, [.ints .u8 16 key]⟩, some ⟨true, [.ints .u8 16 f]⟩, some ⟨true, [.ints .u8 (L) ((streamI key first B).take (L))]⟩]) (B.length) ⟨0, 0, first, by omega, by omega, rfl, rfl, rfl, rfl⟩ (wk hE [0, 1, 2]) ?_
 rintro n_ T_ H_ ⟨i, L, f, hi, hL, hfe, rfl, rfl, rfl⟩
 refine w_seq ?_
 refine w_seq ?_
 refine g_reg hP hn ?_
 refine s_op k_mv ?_
 refine s_op k_mv ?_
 refine s_op k_len ?_
 refine s_op k_lss ?_
 refine s_nil trivial ?_
 refine n_wp ?_
 refine w_if rfl (fun h_t20 => ?_) (fun h_t20 => ?_)
 · skip
   refine w_skip ?_
   refine n_wp ?_
   refine w_seq ?_
   refine w_block ?_
   refine w_seq ?_
   refine w_seq ?_
   refine g_reg hP hn ?_
   refine s_op k_mv ?_
   refine s_op k_gtr ?_
   refine s_op k_mv ?_
   refine s_opt rfl rfl (fun hB => by rw [hB]; (try simp only [Bool.or_eq_true, Bool.or_eq_false_iff, Bool.and_eq_true, Bool.not_eq_true', Bool.not_eq_false', decide_eq_true_eq, decide_eq_false_iff_not] at hB); exact k_mv) ?_
   refine s_opt rfl rfl (fun hB => by rw [hB]; (try simp only [Bool.or_eq_true, Bool.or_eq_false_iff, Bool.and_eq_true, Bool.not_eq_true', Bool.not_eq_false', decide_eq_true_eq, decide_eq_false_iff_not] at hB); exact k_rem) ?_
   refine s_opt rfl rfl (fun hB => by rw [hB]; (try simp only [Bool.or_eq_true, Bool.or_eq_false_iff, Bool.and_eq_true, Bool.not_eq_true', Bool.not_eq_false', decide_eq_true_eq, decide_eq_false_iff_not] at hB); exact k_eql) ?_
   refine s_op k_pk ?_
   refine s_nil trivial ?_
   refine n_wp ?_
   refine w_cut (fun T H => ∃ f, f = ctr first (i / 16) ∧ T = [(2, .s (.fzi .u8 B)), (3, .s (.ptr 0 0 0)), (4, .s (.ptr 1 0 0)), (7, .s (.fptr 512 (cellsF [.ints .u8 256 SB, .ints .u8 256 BK]) 0 0)), (8, .s (.gro 2 1 (L))), (9, .s (.int .i64 ((i : Nat) : Int)))] ∧ H = [some ⟨true, [.ints .u8 16 key]⟩, some ⟨true, [.ints .u8 16 f]⟩, some ⟨true, [.ints .u8 (L) ((streamI key first B).take (L))]⟩]) ?_ ?_
   · skip
     refine w_cond rfl (fun h_t29 => ?_) (fun h_t29 => ?_)
     · skip
       simp only [Bool.and_eq_true, decide_eq_true_eq] at h_t29
       obtain ⟨q, rfl⟩ : ∃ q, i = 16 * (q + 1) := ⟨i / 16 - 1, by omega⟩
       obtain rfl : f = ctr first q := by rw [hfe]; congr 1; omega
       have hcn : incF (ctr first q) 16 = ctr first (q + 1) := rfl
       have hcl := (ctr_len first q).trans hf
       refine w_seq ?_
       refine g_reg hP hn ?_
       refine s_op k_as ?_
       refine s_nil trivial ?_
       refine n_wp ?_
       refine w_block ?_
       refine c_loop (fun m_ T H => ∃ (t : Nat) (l : List Int) (z : Int), t ≤ 16 ∧ m_ = t ∧ l.length = 16 ∧ incF l t = ctr first (q + 1) ∧ z = (t : Int) - 1 ∧ T = [(2, .s (.fzi .u8 B)), (3, .s (.ptr 0 0 0)), (4, .s (.ptr 1 0 0)), (7, .s (.fptr 512 (cellsF [.ints .u8 256 SB, .ints .u8 256 BK]) 0 0)), (8, .s (.gro 2 1 (L))), (9, .s (.int .i64 ((16 * (q + 1) : Nat) : Int))), (10, .s (.int .i64 z))] ∧ H = [some ⟨true, [.ints .u8 16 key]⟩, some ⟨true, [.ints .u8 16 l]⟩, some ⟨true, [.ints .u8 (L) ((streamI key first B).take (L))]⟩]) (16) ⟨16, ctr first q, 15, by omega, rfl, hcl, hcn, by omega, rfl, rfl⟩ (wk hE []) ?_
       rintro n_ T_ H_ ⟨t, l, z, ht, hmt, hll, hinc, hz, rfl, rfl⟩
       refine w_seq ?_
       refine w_seq ?_
       refine g_reg hP hn ?_
       refine s_op k_mv ?_
       refine s_op k_geq ?_
       refine s_nil trivial ?_
       refine n_wp ?_
       refine w_if rfl (fun h_t31 => ?_) (fun h_t31 => ?_)
       · skip
         obtain ⟨w, rfl⟩ : ∃ w, t = w + 1 := ⟨t - 1, by omega⟩
         have hzi : z = ((w : Nat) : Int) := by omega
         subst hzi
         refine w_skip ?_
         refine n_wp ?_
         refine w_seq ?_
         refine w_block ?_
         refine w_seq ?_
         refine g_reg hP hn ?_
         refine s_op k_mv ?_
         refine s_op (k_ix (by exact a_ixp (hj := ⟨rfl⟩) rfl rfl (by omega))) ?_
         refine s_op k_ld ?_
         refine s_op k_add ?_
         refine s_op (k_ix (by exact a_ixp (hj := ⟨rfl⟩) rfl rfl (by omega))) ?_
         refine s_st k_st ?_
         refine s_nil trivial ?_
         refine n_wp ?_
         refine w_seq ?_
         refine g_reg hP hn ?_
         refine s_op k_mv ?_
         refine s_op (k_ix (by exact a_ixp (hj := ⟨rfl⟩) rfl rfl (by omega))) ?_
         refine s_op k_ld ?_
         refine s_op k_neq ?_
         refine s_nil trivial ?_
         refine n_wp ?_
         refine w_if rfl (fun h_t42 => ?_) (fun h_t42 => ?_)
         · skip
           have hf2 : l.set w (IntKind.u8.wrap (l.getD w 0 + 1)) = ctr first (16 * (q + 1) / 16) := by rw [show 16 * (q + 1) / 16 = q + 1 by omega, ← hinc, incF, if_neg h_t42]
           refine w_exit ?_
           refine x_ne rfl ?_
           refine x_thn ?_
           refine x_thn ?_
           refine x_eq ?_
           exact n_cut ⟨_, hf2, rfl, rfl⟩ (wk hE [])
         · skip
           have hinc2 : incF (l.set w (IntKind.u8.wrap (l.getD w 0 + 1))) w = ctr first (q + 1) := by rw [← hinc, incF, if_pos (Decidable.not_not.1 h_t42)]
           refine w_skip ?_
           refine n_blo ?_
           refine n_wp ?_
           refine g_reg hP hn ?_
           refine s_op k_mv ?_
           refine s_op (k_sub (by exact l_bin rfl rfl (b_sub (wrap_i64 (by omega))))) ?_
           refine s_op k_as ?_
           refine s_nil trivial ?_
           exact n_round w (by omega) ⟨w, _, (w : Int) - 1, by omega, rfl, (by simp [hll] : (l.set w (IntKind.u8.wrap (l.getD w 0 + 1))).length = 16), hinc2, rfl, rfl, rfl⟩ (wk hE [])
       · skip
         have ht0 : t = 0 := by omega
         subst ht0
         have hf2 : l = ctr first (16 * (q + 1) / 16) := by rw [show 16 * (q + 1) / 16 = q + 1 by omega]; exact hinc
         refine w_exit ?_
         refine x_thn ?_
         refine x_thn ?_
         refine x_eq ?_
         exact n_cut ⟨_, hf2, rfl, rfl⟩ (wk hE [])
     · skip
       have hf2 : f = ctr first (i / 16) := by
         rw [hfe]; congr 1
         simp only [Bool.and_eq_false_iff, decide_eq_false_iff_not] at h_t29
         omega
       refine w_skip ?_
       exact n_cut ⟨_, hf2, rfl, rfl⟩ (wk hE [])
   rintro T H ⟨f, hf2, rfl, rfl⟩
   refine w_seq ?_
   refine g_reg hP hn ?_
   refine s_op k_mv ?_
   refine s_op k_rem ?_
   refine s_op k_eql ?_
   refine s_nil trivial ?_
   refine n_wp ?_
   refine w_if rfl (fun h_t45 => ?_) (fun h_t45 => ?_)
   · skip
     obtain ⟨q, rfl⟩ : ∃ q, i = 16 * q := ⟨i / 16, by omega⟩
     obtain rfl : f = ctr first q := by rw [hf2]; congr 1; omega
     obtain rfl : L = 16 * q + 0 := by omega
     have hcl := (ctr_len first q).trans hf
     have hc8 := U8_ctr hf8 q
     have hbl := blockI_len key (ctr first q)
     refine w_seq ?_
     refine g_reg hP hn ?_
     refine s_op k_mv ?_
     refine s_op k_ld ?_
     refine s_op k_ld ?_
     refine s_op (k_call [] (con := rBlock_c key (ctr first q) hk hk8 hcl hc8)) ?_
     refine s_op k_al ?_
     refine s_st k_st ?_
     refine s_nil trivial ?_
     refine n_wp ?_
     refine w_seq ?_
     refine g_reg hP hn ?_
     refine s_op k_as ?_
     refine s_nil trivial ?_
     refine n_wp ?_
     refine w_block ?_
     refine c_loop (fun m_ T H => ∃ k, k ≤ min 16 (B.length - 16 * q) ∧ m_ = min 16 (B.length - 16 * q) - k ∧ T = [(2, .s (.fzi .u8 B)), (3, .s (.ptr 0 0 0)), (4, .s (.ptr 1 0 0)), (7, .s (.fptr 512 (cellsF [.ints .u8 256 SB, .ints .u8 256 BK]) 0 0)), (8, .s (.gro 2 1 (16 * q + k))), (9, .s (.int .i64 ((16 * q : Nat) : Int))), (11, .s (.ptr 3 0 0)), (12, .s (.int .i64 ((k : Nat) : Int)))] ∧ H = [some ⟨true, [.ints .u8 16 key]⟩, some ⟨true, [.ints .u8 16 (ctr first q)]⟩, some ⟨true, [.ints .u8 (16 * q + k) ((streamI key first B).take (16 * q + k))]⟩, some ⟨true, [.ints .u8 16 (blockI key (ctr first q))]⟩]) (min 16 (B.length - 16 * q)) ⟨0, by omega, rfl, rfl, rfl⟩ (wk hE [0, 1, 2, 3]) ?_
     rintro n_ T_ H_ ⟨k, hk_, rfl, rfl, rfl⟩
     refine w_seq ?_
     refine w_seq ?_
     refine g_reg hP hn ?_
     refine s_op k_mv ?_
     refine s_op k_lss ?_
     refine s_op k_mv ?_
     refine s_opt rfl rfl (fun hB => by rw [hB]; (try simp only [Bool.or_eq_true, Bool.or_eq_false_iff, Bool.and_eq_true, Bool.not_eq_true', Bool.not_eq_false', decide_eq_true_eq, decide_eq_false_iff_not] at hB); exact k_mv) ?_
     refine s_opt rfl rfl (fun hB => by rw [hB]; (try simp only [Bool.or_eq_true, Bool.or_eq_false_iff, Bool.and_eq_true, Bool.not_eq_true', Bool.not_eq_false', decide_eq_true_eq, decide_eq_false_iff_not] at hB); exact k_mv) ?_
     refine s_opt rfl rfl (fun hB => by rw [hB]; (try simp only [Bool.or_eq_true, Bool.or_eq_false_iff, Bool.and_eq_true, Bool.not_eq_true', Bool.not_eq_false', decide_eq_true_eq, decide_eq_false_iff_not] at hB); exact k_add) ?_
     refine s_opt rfl rfl (fun hB => by rw [hB]; (try simp only [Bool.or_eq_true, Bool.or_eq_false_iff, Bool.and_eq_true, Bool.not_eq_true', Bool.not_eq_false', decide_eq_true_eq, decide_eq_false_iff_not] at hB); exact k_mv) ?_
     refine s_opt rfl rfl (fun hB => by rw [hB]; (try simp only [Bool.or_eq_true, Bool.or_eq_false_iff, Bool.and_eq_true, Bool.not_eq_true', Bool.not_eq_false', decide_eq_true_eq, decide_eq_false_iff_not] at hB); exact k_len) ?_
     refine s_opt rfl rfl (fun hB => by rw [hB]; (try simp only [Bool.or_eq_true, Bool.or_eq_false_iff, Bool.and_eq_true, Bool.not_eq_true', Bool.not_eq_false', decide_eq_true_eq, decide_eq_false_iff_not] at hB); exact k_lss) ?_
     refine s_op k_pk ?_
     refine s_nil trivial ?_
     refine n_wp ?_
     refine w_cond rfl (fun h_t59 => ?_) (fun h_t59 => ?_)
     · skip
       simp only [Bool.and_eq_true, decide_eq_true_eq] at h_t59
       have hk16 : k < 16 := by omega
       have hkB : 16 * q + k < B.length := by omega
       refine w_skip ?_
       refine n_wp ?_
       refine w_seq ?_
       refine w_block ?_
       refine g_any hP hn ?_
       refine s_op k_mv ?_
       refine s_op k_mv ?_
       refine s_op k_mv ?_
       refine s_op k_mv ?_
       refine s_op k_add ?_
       refine s_op k_ix ?_
       refine s_op k_ld ?_
       refine s_op k_mv ?_
       refine s_op k_ix ?_
       refine s_op k_ld ?_
       refine s_op k_xor ?_
       refine s_op k_bsf ?_
       refine s_op (k_apg (c := 16 * q + (k + 1)) (l' := (streamI key first B).take (16 * q + (k + 1))) (hc := by rfl) (hl' := by exact rst_s key first B q k (by omega) (by omega)) (hl := by rw [List.length_take, streamI_len]; omega) (hbig := by show 16 * q + k + 1 ≤ 1000000; omega)) ?_
       refine s_op k_as ?_
       refine s_nil (by kernel_rfl) ?_
       refine n_blo ?_
       refine n_wp ?_
       refine g_reg hP hn ?_
       refine s_op k_mv ?_
       refine s_op k_add ?_
       refine s_op k_as ?_
       refine s_nil trivial ?_
       exact n_round (min 16 (B.length - 16 * q) - (k + 1)) (by omega) ⟨k + 1, by omega, rfl, rfl, rfl⟩ (wk hE [0, 1, 5, 3])
     · skip
       simp only [Bool.and_eq_false_iff, decide_eq_false_iff_not] at h_t59
       have hke : k = min 16 (B.length - 16 * q) := by omega
       refine w_exit ?_
       refine x_thn ?_
       refine x_thn ?_
       refine x_eq ?_
       refine n_blo ?_
       refine n_wp ?_
       refine g_reg hP hn ?_
       refine s_op k_mv ?_
       refine s_op k_add ?_
       refine s_op k_as ?_
       refine s_nil trivial ?_
       exact n_round (B.length - (16 * q + 1)) (by omega) ⟨16 * q + 1, 16 * q + k, ctr first q, by omega, by omega, by congr 1; omega, rfl, rfl, rfl⟩ (wk hE [0, 1, 2])
   · skip
     refine w_skip ?_
     refine n_blo ?_
     refine n_wp ?_
     refine g_reg hP hn ?_
     refine s_op k_mv ?_
     refine s_op k_add ?_
     refine s_op k_as ?_
     refine s_nil trivial ?_
     exact n_round (B.length - (i + 1)) (by omega) ⟨i + 1, L, f, by omega, by omega, by rw [hf2]; congr 1; omega, rfl, rfl, rfl⟩ (wk hE [0, 1, 2])
 · skip
   obtain rfl : i = B.length := by omega
   obtain rfl : L = B.length := by omega
   rw [show (streamI key first B).take B.length = streamI key first B from List.take_of_length_le (by rw [streamI_len]; exact Nat.le_refl _)]
   have hSl := streamI_len key first B
   generalize streamI key first B = SI at *
   refine w_exit ?_
   refine x_thn ?_
   refine x_thn ?_
   refine x_eq ?_
   refine n_wp ?_
   refine w_seq ?_
   refine g_reg hP hn ?_
   refine s_op k_mv ?_
   refine s_op k_as ?_
   refine s_nil trivial ?_
   refine n_wp ?_
   refine w_ret ?_
   exact d_retw hP hn (r_tmp Tryz.results12) ((frz_gro 0 (l' := SI) (hn := Nat.le_refl _) (hl := hSl) (hl' := List.take_of_length_le (by rw [hSl]; exact Nat.le_refl _))).trans (wk hE []))

theorem rstream0_c (key first : List Int) : Con Tryz.prog 12 [.agg [.ints .u8 16 key], .agg [.ints .u8 16 first], .s (.fzi .u8 [])] [] (.s (.fzi .u8 [])) [] := by
 refine con_in 76 Tryz.func12 rfl rfl (m := 0) rfl ?_
 intro E hP hn hE
 refine w_seq ?_
 refine g_reg hP hn ?_
 refine s_op k_bx ?_
 refine s_op k_bx ?_
 refine s_op k_as ?_
 refine s_nil trivial ?_
 refine n_wp ?_
 refine w_seq ?_
 refine w_seq ?_
 refine g_reg hP hn ?_
 refine s_op k_mv ?_
 refine s_op k_len ?_
 refine s_op k_eql ?_
 refine s_nil trivial ?_
 refine n_wp ?_
 refine w_T rfl ?_ 
 refine w_seq ?_
 refine g_reg hP hn ?_
 refine s_op k_as ?_
 refine s_nil trivial ?_
 refine n_wp ?_
 refine w_ret ?_
 refine r_thn ?_
 exact d_retw hP hn (r_tmp Tryz.results12) ((weak_conv 0 rfl conv_nil).trans (wk hE []))

end Go.Proofs.X
end

section
/- Numbers of 256 bits, told by what they are: words, halves, sums, differences, products. No program. -/
open Go Go.Bx
namespace Go.Proofs.X
def pf2 (f g : Nat → Nat) (m i : Nat) : List Nat := (List.range m).map fun j => if j < i then f j else g j
def dg (B n i : Nat) : Nat := n / B ^ i % B
def wd (n : Nat) : List Nat := (List.range 4).map (dg 18446744073709551616 n)
def hv (n : Nat) : List Nat := (List.range 8).map (dg 4294967296 n)
def hw (n : Nat) : List Nat := (List.range 16).map (dg 4294967296 n)
def val (l : List Nat) : Nat := l.getD 0 0 + 18446744073709551616 * (l.getD 1 0 + 18446744073709551616 * (l.getD 2 0 + 18446744073709551616 * l.getD 3 0))
def B64 (x : List Nat) : Prop := ∀ i, x.getD i 0 < 18446744073709551616
def cmpI (a b : Nat) : Int := if a = b then 0 else if a < b then -1 else 1
def cy (B a b c i : Nat) : Nat := (a % B ^ i + b % B ^ i + c) / B ^ i
def my (B v n at_ p : Nat) : Nat := (v % B ^ p + n * B ^ at_) / B ^ p
end Go.Proofs.X
end

section
/- Numbers as bytes, the highest first: what is put, what is read. No program. -/
open Go Go.Bx
namespace Go.Proofs.X
theorem eqI {l k : List Int} (hl : l.length = k.length) (h : ∀ i, i < l.length → l.getD i 0 = k.getD i 0) : l = k := by
  apply List.ext_getElem hl
  intro i h1 h2
  have := h i h1
  simpa [List.getD_eq_getElem?_getD, h1, h2] using this
theorem getD_app (A B : List Int) (i : Nat) : (A ++ B).getD i 0 = if i < A.length then A.getD i 0 else B.getD (i - A.length) 0 := by
  by_cases h : i < A.length
  · simp [List.getD_eq_getElem?_getD, List.getElem?_append_left h, h]
  · simp [List.getD_eq_getElem?_getD, List.getElem?_append_right (Nat.le_of_not_lt h), h]
theorem getD_drop' (l : List Int) (n i : Nat) : (l.drop n).getD i 0 = l.getD (n + i) 0 := by
  simp [List.getD_eq_getElem?_getD, List.getElem?_drop]
theorem eqI_n {l k : List Int} (n : Nat) (hl : l.length = n) (hk : k.length = n) (h : ∀ i, i < n → l.getD i 0 = k.getD i 0) : l = k := eqI (hl.trans hk.symm) fun i hi => h i (hl ▸ hi)
theorem spl_app (A Y Z : List Int) (a n m : Nat) (ha : A.length = a) (hn : Y.length = n) (hm : a + n ≤ m) (hz : A.length + Z.length = m) : spl (A ++ Z) Y a n m = A ++ Y ++ Z.drop n := by
  refine eqI_n m (Bx.spl_len _ _ _ _ _) (by simp; omega) fun i hi => ?_
  rw [spl_getD _ _ _ _ _ _ hi, getD_app, getD_app, getD_app, getD_drop', List.length_append]
  by_cases h1 : i < a
  · rw [if_neg (by omega), if_pos (by omega), if_pos (by omega), if_pos (by omega)]
  · by_cases h2 : i < a + n
    · rw [if_pos (by omega), if_pos (by omega), if_neg (by omega), ha]
    · rw [if_neg (by omega), if_neg (by omega), if_neg (by omega), ha, hn]
      congr 1; omega
def beN (n v : Nat) : List Nat := (List.range n).map fun i => v / 256 ^ (n - 1 - i) % 256
def be (n v : Nat) : List Int := zs (beN n v)
def U8' (l : List Int) : Prop := ∀ i, 0 ≤ l.getD i 0 ∧ l.getD i 0 < 256
def gN (w : List Int) : Nat → Nat
  | 0 => 0
  | i + 1 => 256 * gN w i + (w.getD i 0).toNat
end Go.Proofs.X
end

section
open Go Go.Bx Go.Proofs
namespace Go.Proofs.X
set_option maxRecDepth 100000
set_option maxHeartbeats 4000000
theorem same_n (A : List Int) (hA : A.length ≤ 1000000) : Con Tryz.prog 11 [.s (.fzi .u8 A), .s (.fzi .u8 A)] [] (.s (.bool true)) [] := by
 refine con_in 26 Tryz.func11 rfl rfl (m := 0) rfl ?_
 intro E hP hn hE
 refine w_seq ?_
 refine g_reg hP hn ?_
 refine s_op k_as ?_
 refine s_nil trivial ?_
 refine n_wp ?_
 refine w_seq ?_
 refine w_seq ?_
 refine g_reg hP hn ?_
 refine s_op k_mv ?_
 refine s_op k_len ?_
 refine s_op k_mv ?_
 refine s_op k_len ?_
 refine s_op (l_bin rfl rfl (b_neq (r := false) (decide_eq_false (fun h => h rfl)))) ?_
 refine s_nil trivial ?_
 refine n_wp ?_
 refine w_F rfl ?_ 
 refine w_skip ?_
 refine n_wp ?_
 refine w_seq ?_
 refine w_seq ?_
 refine g_reg hP hn ?_
 refine s_op k_as ?_
 refine s_nil trivial ?_
 refine n_wp ?_
 refine w_block ?_
 refine c_loop (fun m_ T H => ∃ i, i ≤ A.length ∧ m_ = A.length - i ∧ T = [(0, .s (.fzi .u8 A)), (1, .s (.fzi .u8 A)), (5, .s (.int .i64 ((i : Nat) : Int)))] ∧ H = []) (A.length) ⟨0, by omega, rfl, rfl, rfl⟩ (wk hE []) ?_
 rintro n_ T_ H_ ⟨i, hi, rfl, rfl, rfl⟩
 refine w_seq ?_
 refine w_seq ?_
 refine g_reg hP hn ?_
 refine s_op k_mv ?_
 refine s_op k_mv ?_
 refine s_op k_len ?_
 refine s_op k_lss ?_
 refine s_nil trivial ?_
 refine n_wp ?_
 refine w_if rfl (fun h_t14 => ?_) (fun h_t14 => ?_)
 · skip
   refine w_skip ?_
   refine n_wp ?_
   refine w_seq ?_
   refine w_block ?_
   refine w_seq ?_
   refine g_any hP hn ?_
   refine s_op k_mv ?_
   refine s_op k_mv ?_
   refine s_op k_ix ?_
   refine s_op k_ld ?_
   refine s_op k_mv ?_
   refine s_op k_mv ?_
   refine s_op k_ix ?_
   refine s_op k_ld ?_
   refine s_op (l_bin rfl rfl (b_neq (r := false) (decide_eq_false (fun h => h rfl)))) ?_
   refine s_nil (by kernel_rfl) ?_
   refine n_wp ?_
   refine w_F rfl ?_ 
   refine w_skip ?_
   refine n_blo ?_
   refine n_wp ?_
   refine g_reg hP hn ?_
   refine s_op k_mv ?_
   refine s_op k_add ?_
   refine s_op k_as ?_
   refine s_nil trivial ?_
   exact n_round (A.length - (i + 1)) (by omega) ⟨i + 1, by omega, rfl, rfl, rfl⟩ (wk hE [])
 · skip
   refine w_exit ?_
   refine x_thn ?_
   refine x_thn ?_
   refine x_eq ?_
   refine n_wp ?_
   refine w_seq ?_
   refine g_reg hP hn ?_
   refine s_op k_as ?_
   refine s_nil trivial ?_
   refine n_wp ?_
   refine w_ret ?_
   exact d_ret hP hn hE [] (by first | exact r_tmp Tryz.results11 | exact r_tmpa Tryz.results11)

theorem left_n (B : List Int) (hB : B.length ≤ 100000) : Con Tryz.prog 13 [.s (.slice 0 0 0 B.length (B.length + 1)), .s (.fzi .u8 B)] [some ⟨true, [.ints .u8 (B.length + 1) (B ++ [77])]⟩] (.s (.bool true)) [some ⟨true, [.ints .u8 (B.length + 1) (B ++ [77])]⟩] := by
 refine con_in 45 Tryz.func13 rfl rfl (m := 1) rfl ?_
 intro E hP hn hE
 refine w_seq ?_
 refine g_reg hP hn ?_
 refine s_op k_as ?_
 refine s_nil trivial ?_
 refine n_wp ?_
 refine w_seq ?_
 refine w_seq ?_
 refine g_reg hP hn ?_
 refine s_op k_mv ?_
 refine s_op k_len ?_
 refine s_op k_mv ?_
 refine s_op k_len ?_
 refine s_op (l_bin rfl rfl (b_neq (r := false) (decide_eq_false (fun h => h rfl)))) ?_
 refine s_op k_mv ?_
 refine s_on rfl rfl rfl k_mv ?_
 refine s_on rfl rfl rfl k_cap ?_
 refine s_on rfl rfl rfl k_mv ?_
 refine s_on rfl rfl rfl k_len ?_
 refine s_on rfl rfl rfl (l_bin rfl rfl (b_leq (r := false) (decide_eq_false (by omega)))) ?_
 refine s_op k_pk ?_
 refine s_nil trivial ?_
 refine n_wp ?_
 refine w_F rfl ?_ 
 refine w_skip ?_
 refine n_wp ?_
 refine w_seq ?_
 refine w_seq ?_
 refine g_reg hP hn ?_
 refine s_op k_as ?_
 refine s_nil trivial ?_
 refine n_wp ?_
 refine w_block ?_
 refine c_loop (fun m_ T H => ∃ i, i ≤ B.length ∧ m_ = B.length - i ∧ T = [(0, .s (.slice 0 0 0 B.length (B.length + 1))), (1, .s (.fzi .u8 B)), (5, .s (.int .i64 ((i : Nat) : Int)))] ∧ H = [some ⟨true, [.ints .u8 (B.length + 1) (B ++ [77])]⟩]) (B.length) ⟨0, by omega, rfl, rfl, rfl⟩ (wk hE [0]) ?_
 rintro n_ T_ H_ ⟨i, hi, rfl, rfl, rfl⟩
 refine w_seq ?_
 refine w_seq ?_
 refine g_reg hP hn ?_
 refine s_op k_mv ?_
 refine s_op k_mv ?_
 refine s_op k_len ?_
 refine s_op k_lss ?_
 refine s_nil trivial ?_
 refine n_wp ?_
 refine w_if rfl (fun h_t22 => ?_) (fun h_t22 => ?_)
 · skip
   refine w_skip ?_
   refine n_wp ?_
   refine w_seq ?_
   refine w_block ?_
   refine w_seq ?_
   have hget : (B ++ [77]).getD i 0 = B.getD i 0 := by rw [List.getD_eq_getElem?_getD, List.getD_eq_getElem?_getD, List.getElem?_append_left (by omega)]
   refine g_any hP hn ?_
   refine s_op k_mv ?_
   refine s_op k_mv ?_
   refine s_op k_ix ?_
   refine s_op k_ld ?_
   refine s_op k_mv ?_
   refine s_op k_mv ?_
   refine s_op k_ix ?_
   refine s_op k_ld ?_
   refine s_op (l_bin rfl rfl (b_neq (r := false) (decide_eq_false (fun h => h hget)))) ?_
   refine s_nil (by kernel_rfl) ?_
   refine n_wp ?_
   refine w_F rfl ?_ 
   refine w_skip ?_
   refine n_blo ?_
   refine n_wp ?_
   refine g_reg hP hn ?_
   refine s_op k_mv ?_
   refine s_op k_add ?_
   refine s_op k_as ?_
   refine s_nil trivial ?_
   exact n_round (B.length - (i + 1)) (by omega) ⟨i + 1, by omega, rfl, rfl, rfl⟩ (wk hE [0])
 · skip
   obtain rfl : i = B.length := by omega
   refine w_exit ?_
   refine x_thn ?_
   refine x_thn ?_
   refine x_eq ?_
   refine n_wp ?_
   refine w_seq ?_
   have hlast : (B ++ [77]).getD B.length 0 = 77 := by simp [List.getD_eq_getElem?_getD]
   refine g_reg hP hn ?_
   refine s_op k_mv ?_
   refine s_op k_mv ?_
   refine s_op k_len ?_
   refine s_op k_add ?_
   refine s_op k_sl ?_
   refine s_op k_mv ?_
   refine s_op k_len ?_
   refine s_op k_ix ?_
   refine s_op k_ld ?_
   refine s_op k_as ?_
   refine s_nil trivial ?_
   refine n_wp ?_
   refine w_seq ?_
   refine g_reg hP hn ?_
   refine s_op k_mv ?_
   refine s_op (l_bin rfl rfl (b_eql (r := true) (decide_eq_true hlast))) ?_
   refine s_op k_as ?_
   refine s_nil trivial ?_
   refine n_wp ?_
   refine w_ret ?_
   exact d_ret hP hn hE [0] (by first | exact r_tmp Tryz.results13 | exact r_tmpa Tryz.results13)

end Go.Proofs.X
end

section
open Go Go.Bx Go.Proofs
namespace Go.Proofs.X
set_option maxRecDepth 100000
set_option maxHeartbeats 4000000
def twT (B : List Int) (i : Nat) : List Int := B.take i ++ List.replicate (B.length + 1 - i) 0
theorem twT_len (B : List Int) (i : Nat) (h : i ≤ B.length) : (twT B i).length = B.length + 1 := by
  rw [twT, List.length_append, List.length_take, List.length_replicate]; omega
theorem twT_s (B : List Int) (i : Nat) (h : i < B.length) : spl (twT B i) [B.getD i 0] i 1 (B.length + 1) = twT B (i + 1) := by
  have ht : (B.take i).length = i := by rw [List.length_take]; omega
  have e := spl_app (B.take i) [B.getD i 0] (List.replicate (B.length + 1 - i) 0) i 1 (B.length + 1) ht rfl (by omega) (by rw [ht, List.length_replicate]; omega)
  have h2 : B.take (i + 1) = B.take i ++ [B.getD i 0] := by rw [List.take_add_one, List.getD_eq_getElem?_getD, List.getElem?_eq_getElem h]; rfl
  rw [twT, e, twT, h2, List.drop_replicate]
  congr 2
theorem twT_e (B : List Int) : spl (twT B B.length) [77] B.length 1 (B.length + 1) = B ++ [77] := by
  have e := spl_app B [77] (List.replicate 1 0) B.length 1 (B.length + 1) rfl rfl (by omega) (by rw [List.length_replicate])
  rw [twT, List.take_length, show B.length + 1 - B.length = 1 by omega, e]
  simp

theorem twin_c (B : List Int) (hB : B.length ≤ 100000) : Con Tryz.prog 8 [.s (.fzi .u8 B)] [] (.s (.slice 0 0 0 B.length (B.length + 1))) [some ⟨true, [.ints .u8 (B.length + 1) (B ++ [77])]⟩] := by
 refine con_in 28 Tryz.func8 rfl rfl (m := 0) rfl ?_
 intro E hP hn hE
 refine w_seq ?_
 refine g_reg hP hn ?_
 refine s_op k_as ?_
 refine s_nil trivial ?_
 refine n_wp ?_
 refine w_seq ?_
 refine g_reg hP hn ?_
 refine s_op k_mv ?_
 refine s_op k_len ?_
 refine s_op k_add ?_
 refine s_op k_mk ?_
 refine s_op k_as ?_
 refine s_nil trivial ?_
 refine n_wp ?_
 refine w_seq ?_
 refine w_seq ?_
 refine g_reg hP hn ?_
 refine s_op k_as ?_
 refine s_nil trivial ?_
 refine n_wp ?_
 refine w_block ?_
 refine c_loop (fun m_ T H => ∃ i, i ≤ B.length ∧ m_ = B.length - i ∧ T = [(0, .s (.fzi .u8 B)), (3, .s (.slice 0 0 0 i (B.length + 1))), (4, .s (.int .i64 ((i : Nat) : Int)))] ∧ H = [some ⟨true, [.ints .u8 (B.length + 1) (twT B i)]⟩]) (B.length) ⟨0, by omega, rfl, rfl, rfl⟩ (wk hE [0]) ?_
 rintro n_ T_ H_ ⟨i, hi, rfl, rfl, rfl⟩
 have htl := twT_len B i hi
 refine w_seq ?_
 refine w_seq ?_
 refine g_reg hP hn ?_
 refine s_op k_mv ?_
 refine s_op k_mv ?_
 refine s_op k_len ?_
 refine s_op k_lss ?_
 refine s_nil trivial ?_
 refine n_wp ?_
 refine w_if rfl (fun h_t12 => ?_) (fun h_t12 => ?_)
 · skip
   refine w_skip ?_
   refine n_wp ?_
   refine w_seq ?_
   refine w_block ?_
   refine g_reg hP hn ?_
   refine s_op k_mv ?_
   refine s_op k_mv ?_
   refine s_op k_mv ?_
   refine s_op k_ix ?_
   refine s_op k_ld ?_
   refine s_op k_bsf ?_
   refine s_op (k_apj (twT B (i + 1)) (hl' := twT_s B i h_t12)) ?_
   refine s_op k_as ?_
   refine s_nil trivial ?_
   refine n_blo ?_
   refine n_wp ?_
   refine g_reg hP hn ?_
   refine s_op k_mv ?_
   refine s_op k_add ?_
   refine s_op k_as ?_
   refine s_nil trivial ?_
   exact n_round (B.length - (i + 1)) (by omega) ⟨i + 1, by omega, rfl, rfl, rfl⟩ (wk hE [0])
 · skip
   obtain rfl : i = B.length := by omega
   refine w_exit ?_
   refine x_thn ?_
   refine x_thn ?_
   refine x_eq ?_
   refine n_wp ?_
   refine w_seq ?_
   refine g_reg hP hn ?_
   refine s_op k_mv ?_
   refine s_op k_bsf ?_
   refine s_op (k_apj (B ++ [77]) (hl' := twT_e B)) ?_
   refine s_op k_mv ?_
   refine s_op k_len ?_
   refine s_op k_sl ?_
   refine s_op k_as ?_
   refine s_nil trivial ?_
   refine n_wp ?_
   refine w_ret ?_
   exact d_ret hP hn hE [0] (by first | exact r_tmp Tryz.results8 | exact r_tmpa Tryz.results8)

theorem fillInt_0 : Con Tryz.prog 49 [.s (.fptr 16 (fun k => if k = 2 then SV.nils else SV.junk) 0 0)] [] (.tup []) [] := by
 refine con_in 35 Tryz.func49 rfl rfl (m := 0) rfl ?_
 intro E hP hn hE
 refine w_seq ?_
 refine g_reg hP hn ?_
 refine s_op k_as ?_
 refine s_nil trivial ?_
 refine n_wp ?_
 refine w_block ?_
 refine c_loop (fun m_ T H => T = [(0, .s (.fptr 16 (fun k => if k = 2 then SV.nils else SV.junk) 0 0)), (2, .s (.int .i64 ((0 : Nat) : Int)))] ∧ H = []) (0) ⟨rfl, rfl⟩ (wk hE []) ?_
 rintro n_ T_ H_ ⟨rfl, rfl⟩
 refine w_seq ?_
 refine w_seq ?_
 refine g_reg hP hn ?_
 refine s_op k_mv ?_
 refine s_op k_mv ?_
 refine s_op k_nc ?_
 refine s_op k_fa ?_
 refine s_op (k_ld (by exact a_loadf (v := .nils) rfl (by decide) rfl)) ?_
 refine s_op k_len ?_
 refine s_op k_lss ?_
 refine s_nil trivial ?_
 refine n_wp ?_
 refine w_F rfl ?_ 
 refine w_exit ?_
 refine x_thn ?_
 refine x_thn ?_
 refine x_eq ?_
 exact d_ret hP hn hE [] (ret_none Tryz.results49)

theorem growInt_0 : Con Tryz.prog 64 [.s (.fptr 16 (fun k => if k = 2 then SV.nils else SV.junk) 0 0)] [] (.tup []) [] := by
 refine con_in 42 Tryz.func64 rfl rfl (m := 0) rfl ?_
 intro E hP hn hE
 refine w_seq ?_
 refine g_reg hP hn ?_
 refine s_op k_as ?_
 refine s_nil trivial ?_
 refine n_wp ?_
 refine w_block ?_
 refine c_loop (fun m_ T H => T = [(0, .s (.fptr 16 (fun k => if k = 2 then SV.nils else SV.junk) 0 0)), (2, .s (.int .i64 ((0 : Nat) : Int)))] ∧ H = []) (0) ⟨rfl, rfl⟩ (wk hE []) ?_
 rintro n_ T_ H_ ⟨rfl, rfl⟩
 refine w_seq ?_
 refine w_seq ?_
 refine g_reg hP hn ?_
 refine s_op k_mv ?_
 refine s_op k_mv ?_
 refine s_op k_nc ?_
 refine s_op k_fa ?_
 refine s_op (k_ld (by exact a_loadf (v := .nils) rfl (by decide) rfl)) ?_
 refine s_op k_len ?_
 refine s_op k_lss ?_
 refine s_nil trivial ?_
 refine n_wp ?_
 refine w_F rfl ?_ 
 refine w_exit ?_
 refine x_thn ?_
 refine x_thn ?_
 refine x_eq ?_
 exact d_ret hP hn hE [] (ret_none Tryz.results64)

theorem lookInt_0 : Con Tryz.prog 79 [.s (.fptr 16 (fun k => if k = 2 then SV.nils else SV.junk) 0 0)] [] (.s (.bool true)) [] := by
 refine con_in 64 Tryz.func79 rfl rfl (m := 0) rfl ?_
 intro E hP hn hE
 refine w_seq ?_
 refine g_reg hP hn ?_
 refine s_op k_as ?_
 refine s_nil trivial ?_
 refine n_wp ?_
 refine w_seq ?_
 refine w_seq ?_
 refine g_reg hP hn ?_
 refine s_op k_as ?_
 refine s_nil trivial ?_
 refine n_wp ?_
 refine w_block ?_
 refine c_loop (fun m_ T H => T = [(0, .s (.fptr 16 (fun k => if k = 2 then SV.nils else SV.junk) 0 0)), (3, .s (.int .i64 ((0 : Nat) : Int)))] ∧ H = []) (0) ⟨rfl, rfl⟩ (wk hE []) ?_
 rintro n_ T_ H_ ⟨rfl, rfl⟩
 refine w_seq ?_
 refine w_seq ?_
 refine g_reg hP hn ?_
 refine s_op k_mv ?_
 refine s_op k_mv ?_
 refine s_op k_nc ?_
 refine s_op k_fa ?_
 refine s_op (k_ld (by exact a_loadf (v := .nils) rfl (by decide) rfl)) ?_
 refine s_op k_len ?_
 refine s_op k_lss ?_
 refine s_nil trivial ?_
 refine n_wp ?_
 refine w_F rfl ?_ 
 refine w_exit ?_
 refine x_thn ?_
 refine x_thn ?_
 refine x_eq ?_
 refine n_wp ?_
 refine w_seq ?_
 refine g_reg hP hn ?_
 refine s_op k_as ?_
 refine s_nil trivial ?_
 refine n_wp ?_
 refine w_ret ?_
 exact d_ret hP hn hE [] (by first | exact r_tmp Tryz.results79 | exact r_tmpa Tryz.results79)

theorem fillText_0 : Con Tryz.prog 50 [.s (.fptr 16 (fun k => if k = 3 then SV.nils else SV.junk) 0 0)] [] (.tup []) [] := by
 refine con_in 35 Tryz.func50 rfl rfl (m := 0) rfl ?_
 intro E hP hn hE
 refine w_seq ?_
 refine g_reg hP hn ?_
 refine s_op k_as ?_
 refine s_nil trivial ?_
 refine n_wp ?_
 refine w_block ?_
 refine c_loop (fun m_ T H => T = [(0, .s (.fptr 16 (fun k => if k = 3 then SV.nils else SV.junk) 0 0)), (2, .s (.int .i64 ((0 : Nat) : Int)))] ∧ H = []) (0) ⟨rfl, rfl⟩ (wk hE []) ?_
 rintro n_ T_ H_ ⟨rfl, rfl⟩
 refine w_seq ?_
 refine w_seq ?_
 refine g_reg hP hn ?_
 refine s_op k_mv ?_
 refine s_op k_mv ?_
 refine s_op k_nc ?_
 refine s_op k_fa ?_
 refine s_op (k_ld (by exact a_loadf (v := .nils) rfl (by decide) rfl)) ?_
 refine s_op k_len ?_
 refine s_op k_lss ?_
 refine s_nil trivial ?_
 refine n_wp ?_
 refine w_F rfl ?_ 
 refine w_exit ?_
 refine x_thn ?_
 refine x_thn ?_
 refine x_eq ?_
 exact d_ret hP hn hE [] (ret_none Tryz.results50)

theorem growText_0 : Con Tryz.prog 65 [.s (.fptr 16 (fun k => if k = 3 then SV.nils else SV.junk) 0 0)] [] (.tup []) [] := by
 refine con_in 42 Tryz.func65 rfl rfl (m := 0) rfl ?_
 intro E hP hn hE
 refine w_seq ?_
 refine g_reg hP hn ?_
 refine s_op k_as ?_
 refine s_nil trivial ?_
 refine n_wp ?_
 refine w_block ?_
 refine c_loop (fun m_ T H => T = [(0, .s (.fptr 16 (fun k => if k = 3 then SV.nils else SV.junk) 0 0)), (2, .s (.int .i64 ((0 : Nat) : Int)))] ∧ H = []) (0) ⟨rfl, rfl⟩ (wk hE []) ?_
 rintro n_ T_ H_ ⟨rfl, rfl⟩
 refine w_seq ?_
 refine w_seq ?_
 refine g_reg hP hn ?_
 refine s_op k_mv ?_
 refine s_op k_mv ?_
 refine s_op k_nc ?_
 refine s_op k_fa ?_
 refine s_op (k_ld (by exact a_loadf (v := .nils) rfl (by decide) rfl)) ?_
 refine s_op k_len ?_
 refine s_op k_lss ?_
 refine s_nil trivial ?_
 refine n_wp ?_
 refine w_F rfl ?_ 
 refine w_exit ?_
 refine x_thn ?_
 refine x_thn ?_
 refine x_eq ?_
 exact d_ret hP hn hE [] (ret_none Tryz.results65)

theorem lookText_0 : Con Tryz.prog 80 [.s (.fptr 16 (fun k => if k = 3 then SV.nils else SV.junk) 0 0)] [] (.s (.bool true)) [] := by
 refine con_in 64 Tryz.func80 rfl rfl (m := 0) rfl ?_
 intro E hP hn hE
 refine w_seq ?_
 refine g_reg hP hn ?_
 refine s_op k_as ?_
 refine s_nil trivial ?_
 refine n_wp ?_
 refine w_seq ?_
 refine w_seq ?_
 refine g_reg hP hn ?_
 refine s_op k_as ?_
 refine s_nil trivial ?_
 refine n_wp ?_
 refine w_block ?_
 refine c_loop (fun m_ T H => T = [(0, .s (.fptr 16 (fun k => if k = 3 then SV.nils else SV.junk) 0 0)), (3, .s (.int .i64 ((0 : Nat) : Int)))] ∧ H = []) (0) ⟨rfl, rfl⟩ (wk hE []) ?_
 rintro n_ T_ H_ ⟨rfl, rfl⟩
 refine w_seq ?_
 refine w_seq ?_
 refine g_reg hP hn ?_
 refine s_op k_mv ?_
 refine s_op k_mv ?_
 refine s_op k_nc ?_
 refine s_op k_fa ?_
 refine s_op (k_ld (by exact a_loadf (v := .nils) rfl (by decide) rfl)) ?_
 refine s_op k_len ?_
 refine s_op k_lss ?_
 refine s_nil trivial ?_
 refine n_wp ?_
 refine w_F rfl ?_ 
 refine w_exit ?_
 refine x_thn ?_
 refine x_thn ?_
 refine x_eq ?_
 refine n_wp ?_
 refine w_seq ?_
 refine g_reg hP hn ?_
 refine s_op k_as ?_
 refine s_nil trivial ?_
 refine n_wp ?_
 refine w_ret ?_
 exact d_ret hP hn hE [] (by first | exact r_tmp Tryz.results80 | exact r_tmpa Tryz.results80)

theorem fillNum_0 : Con Tryz.prog 51 [.s (.fptr 16 (fun k => if k = 4 then SV.nils else SV.junk) 0 0)] [] (.tup []) [] := by
 refine con_in 35 Tryz.func51 rfl rfl (m := 0) rfl ?_
 intro E hP hn hE
 refine w_seq ?_
 refine g_reg hP hn ?_
 refine s_op k_as ?_
 refine s_nil trivial ?_
 refine n_wp ?_
 refine w_block ?_
 refine c_loop (fun m_ T H => T = [(0, .s (.fptr 16 (fun k => if k = 4 then SV.nils else SV.junk) 0 0)), (2, .s (.int .i64 ((0 : Nat) : Int)))] ∧ H = []) (0) ⟨rfl, rfl⟩ (wk hE []) ?_
 rintro n_ T_ H_ ⟨rfl, rfl⟩
 refine w_seq ?_
 refine w_seq ?_
 refine g_reg hP hn ?_
 refine s_op k_mv ?_
 refine s_op k_mv ?_
 refine s_op k_nc ?_
 refine s_op k_fa ?_
 refine s_op (k_ld (by exact a_loadf (v := .nils) rfl (by decide) rfl)) ?_
 refine s_op k_len ?_
 refine s_op k_lss ?_
 refine s_nil trivial ?_
 refine n_wp ?_
 refine w_F rfl ?_ 
 refine w_exit ?_
 refine x_thn ?_
 refine x_thn ?_
 refine x_eq ?_
 exact d_ret hP hn hE [] (ret_none Tryz.results51)

theorem growNum_0 : Con Tryz.prog 66 [.s (.fptr 16 (fun k => if k = 4 then SV.nils else SV.junk) 0 0)] [] (.tup []) [] := by
 refine con_in 42 Tryz.func66 rfl rfl (m := 0) rfl ?_
 intro E hP hn hE
 refine w_seq ?_
 refine g_reg hP hn ?_
 refine s_op k_as ?_
 refine s_nil trivial ?_
 refine n_wp ?_
 refine w_block ?_
 refine c_loop (fun m_ T H => T = [(0, .s (.fptr 16 (fun k => if k = 4 then SV.nils else SV.junk) 0 0)), (2, .s (.int .i64 ((0 : Nat) : Int)))] ∧ H = []) (0) ⟨rfl, rfl⟩ (wk hE []) ?_
 rintro n_ T_ H_ ⟨rfl, rfl⟩
 refine w_seq ?_
 refine w_seq ?_
 refine g_reg hP hn ?_
 refine s_op k_mv ?_
 refine s_op k_mv ?_
 refine s_op k_nc ?_
 refine s_op k_fa ?_
 refine s_op (k_ld (by exact a_loadf (v := .nils) rfl (by decide) rfl)) ?_
 refine s_op k_len ?_
 refine s_op k_lss ?_
 refine s_nil trivial ?_
 refine n_wp ?_
 refine w_F rfl ?_ 
 refine w_exit ?_
 refine x_thn ?_
 refine x_thn ?_
 refine x_eq ?_
 exact d_ret hP hn hE [] (ret_none Tryz.results66)

theorem lookNum_0 : Con Tryz.prog 81 [.s (.fptr 16 (fun k => if k = 4 then SV.nils else SV.junk) 0 0)] [] (.s (.bool true)) [] := by
 refine con_in 64 Tryz.func81 rfl rfl (m := 0) rfl ?_
 intro E hP hn hE
 refine w_seq ?_
 refine g_reg hP hn ?_
 refine s_op k_as ?_
 refine s_nil trivial ?_
 refine n_wp ?_
 refine w_seq ?_
 refine w_seq ?_
 refine g_reg hP hn ?_
 refine s_op k_as ?_
 refine s_nil trivial ?_
 refine n_wp ?_
 refine w_block ?_
 refine c_loop (fun m_ T H => T = [(0, .s (.fptr 16 (fun k => if k = 4 then SV.nils else SV.junk) 0 0)), (3, .s (.int .i64 ((0 : Nat) : Int)))] ∧ H = []) (0) ⟨rfl, rfl⟩ (wk hE []) ?_
 rintro n_ T_ H_ ⟨rfl, rfl⟩
 refine w_seq ?_
 refine w_seq ?_
 refine g_reg hP hn ?_
 refine s_op k_mv ?_
 refine s_op k_mv ?_
 refine s_op k_nc ?_
 refine s_op k_fa ?_
 refine s_op (k_ld (by exact a_loadf (v := .nils) rfl (by decide) rfl)) ?_
 refine s_op k_len ?_
 refine s_op k_lss ?_
 refine s_nil trivial ?_
 refine n_wp ?_
 refine w_F rfl ?_ 
 refine w_exit ?_
 refine x_thn ?_
 refine x_thn ?_
 refine x_eq ?_
 refine n_wp ?_
 refine w_seq ?_
 refine g_reg hP hn ?_
 refine s_op k_as ?_
 refine s_nil trivial ?_
 refine n_wp ?_
 refine w_ret ?_
 exact d_ret hP hn hE [] (by first | exact r_tmp Tryz.results81 | exact r_tmpa Tryz.results81)

theorem fillSum_0 : Con Tryz.prog 52 [.s (.fptr 16 (fun k => if k = 5 then SV.nils else SV.junk) 0 0)] [] (.tup []) [] := by
 refine con_in 35 Tryz.func52 rfl rfl (m := 0) rfl ?_
 intro E hP hn hE
 refine w_seq ?_
 refine g_reg hP hn ?_
 refine s_op k_as ?_
 refine s_nil trivial ?_
 refine n_wp ?_
 refine w_block ?_
 refine c_loop (fun m_ T H => T = [(0, .s (.fptr 16 (fun k => if k = 5 then SV.nils else SV.junk) 0 0)), (2, .s (.int .i64 ((0 : Nat) : Int)))] ∧ H = []) (0) ⟨rfl, rfl⟩ (wk hE []) ?_
 rintro n_ T_ H_ ⟨rfl, rfl⟩
 refine w_seq ?_
 refine w_seq ?_
 refine g_reg hP hn ?_
 refine s_op k_mv ?_
 refine s_op k_mv ?_
 refine s_op k_nc ?_
 refine s_op k_fa ?_
 refine s_op (k_ld (by exact a_loadf (v := .nils) rfl (by decide) rfl)) ?_
 refine s_op k_len ?_
 refine s_op k_lss ?_
 refine s_nil trivial ?_
 refine n_wp ?_
 refine w_F rfl ?_ 
 refine w_exit ?_
 refine x_thn ?_
 refine x_thn ?_
 refine x_eq ?_
 exact d_ret hP hn hE [] (ret_none Tryz.results52)

theorem growSum_0 : Con Tryz.prog 67 [.s (.fptr 16 (fun k => if k = 5 then SV.nils else SV.junk) 0 0)] [] (.tup []) [] := by
 refine con_in 42 Tryz.func67 rfl rfl (m := 0) rfl ?_
 intro E hP hn hE
 refine w_seq ?_
 refine g_reg hP hn ?_
 refine s_op k_as ?_
 refine s_nil trivial ?_
 refine n_wp ?_
 refine w_block ?_
 refine c_loop (fun m_ T H => T = [(0, .s (.fptr 16 (fun k => if k = 5 then SV.nils else SV.junk) 0 0)), (2, .s (.int .i64 ((0 : Nat) : Int)))] ∧ H = []) (0) ⟨rfl, rfl⟩ (wk hE []) ?_
 rintro n_ T_ H_ ⟨rfl, rfl⟩
 refine w_seq ?_
 refine w_seq ?_
 refine g_reg hP hn ?_
 refine s_op k_mv ?_
 refine s_op k_mv ?_
 refine s_op k_nc ?_
 refine s_op k_fa ?_
 refine s_op (k_ld (by exact a_loadf (v := .nils) rfl (by decide) rfl)) ?_
 refine s_op k_len ?_
 refine s_op k_lss ?_
 refine s_nil trivial ?_
 refine n_wp ?_
 refine w_F rfl ?_ 
 refine w_exit ?_
 refine x_thn ?_
 refine x_thn ?_
 refine x_eq ?_
 exact d_ret hP hn hE [] (ret_none Tryz.results67)

theorem lookSum_0 : Con Tryz.prog 82 [.s (.fptr 16 (fun k => if k = 5 then SV.nils else SV.junk) 0 0)] [] (.s (.bool true)) [] := by
 refine con_in 64 Tryz.func82 rfl rfl (m := 0) rfl ?_
 intro E hP hn hE
 refine w_seq ?_
 refine g_reg hP hn ?_
 refine s_op k_as ?_
 refine s_nil trivial ?_
 refine n_wp ?_
 refine w_seq ?_
 refine w_seq ?_
 refine g_reg hP hn ?_
 refine s_op k_as ?_
 refine s_nil trivial ?_
 refine n_wp ?_
 refine w_block ?_
 refine c_loop (fun m_ T H => T = [(0, .s (.fptr 16 (fun k => if k = 5 then SV.nils else SV.junk) 0 0)), (3, .s (.int .i64 ((0 : Nat) : Int)))] ∧ H = []) (0) ⟨rfl, rfl⟩ (wk hE []) ?_
 rintro n_ T_ H_ ⟨rfl, rfl⟩
 refine w_seq ?_
 refine w_seq ?_
 refine g_reg hP hn ?_
 refine s_op k_mv ?_
 refine s_op k_mv ?_
 refine s_op k_nc ?_
 refine s_op k_fa ?_
 refine s_op (k_ld (by exact a_loadf (v := .nils) rfl (by decide) rfl)) ?_
 refine s_op k_len ?_
 refine s_op k_lss ?_
 refine s_nil trivial ?_
 refine n_wp ?_
 refine w_F rfl ?_ 
 refine w_exit ?_
 refine x_thn ?_
 refine x_thn ?_
 refine x_eq ?_
 refine n_wp ?_
 refine w_seq ?_
 refine g_reg hP hn ?_
 refine s_op k_as ?_
 refine s_nil trivial ?_
 refine n_wp ?_
 refine w_ret ?_
 exact d_ret hP hn hE [] (by first | exact r_tmp Tryz.results82 | exact r_tmpa Tryz.results82)

theorem fillTag_0 : Con Tryz.prog 53 [.s (.fptr 16 (fun k => if k = 6 then SV.nils else SV.junk) 0 0)] [] (.tup []) [] := by
 refine con_in 35 Tryz.func53 rfl rfl (m := 0) rfl ?_
 intro E hP hn hE
 refine w_seq ?_
 refine g_reg hP hn ?_
 refine s_op k_as ?_
 refine s_nil trivial ?_
 refine n_wp ?_
 refine w_block ?_
 refine c_loop (fun m_ T H => T = [(0, .s (.fptr 16 (fun k => if k = 6 then SV.nils else SV.junk) 0 0)), (2, .s (.int .i64 ((0 : Nat) : Int)))] ∧ H = []) (0) ⟨rfl, rfl⟩ (wk hE []) ?_
 rintro n_ T_ H_ ⟨rfl, rfl⟩
 refine w_seq ?_
 refine w_seq ?_
 refine g_reg hP hn ?_
 refine s_op k_mv ?_
 refine s_op k_mv ?_
 refine s_op k_nc ?_
 refine s_op k_fa ?_
 refine s_op (k_ld (by exact a_loadf (v := .nils) rfl (by decide) rfl)) ?_
 refine s_op k_len ?_
 refine s_op k_lss ?_
 refine s_nil trivial ?_
 refine n_wp ?_
 refine w_F rfl ?_ 
 refine w_exit ?_
 refine x_thn ?_
 refine x_thn ?_
 refine x_eq ?_
 exact d_ret hP hn hE [] (ret_none Tryz.results53)

theorem growTag_0 : Con Tryz.prog 68 [.s (.fptr 16 (fun k => if k = 6 then SV.nils else SV.junk) 0 0)] [] (.tup []) [] := by
 refine con_in 42 Tryz.func68 rfl rfl (m := 0) rfl ?_
 intro E hP hn hE
 refine w_seq ?_
 refine g_reg hP hn ?_
 refine s_op k_as ?_
 refine s_nil trivial ?_
 refine n_wp ?_
 refine w_block ?_
 refine c_loop (fun m_ T H => T = [(0, .s (.fptr 16 (fun k => if k = 6 then SV.nils else SV.junk) 0 0)), (2, .s (.int .i64 ((0 : Nat) : Int)))] ∧ H = []) (0) ⟨rfl, rfl⟩ (wk hE []) ?_
 rintro n_ T_ H_ ⟨rfl, rfl⟩
 refine w_seq ?_
 refine w_seq ?_
 refine g_reg hP hn ?_
 refine s_op k_mv ?_
 refine s_op k_mv ?_
 refine s_op k_nc ?_
 refine s_op k_fa ?_
 refine s_op (k_ld (by exact a_loadf (v := .nils) rfl (by decide) rfl)) ?_
 refine s_op k_len ?_
 refine s_op k_lss ?_
 refine s_nil trivial ?_
 refine n_wp ?_
 refine w_F rfl ?_ 
 refine w_exit ?_
 refine x_thn ?_
 refine x_thn ?_
 refine x_eq ?_
 exact d_ret hP hn hE [] (ret_none Tryz.results68)

theorem lookTag_0 : Con Tryz.prog 83 [.s (.fptr 16 (fun k => if k = 6 then SV.nils else SV.junk) 0 0)] [] (.s (.bool true)) [] := by
 refine con_in 64 Tryz.func83 rfl rfl (m := 0) rfl ?_
 intro E hP hn hE
 refine w_seq ?_
 refine g_reg hP hn ?_
 refine s_op k_as ?_
 refine s_nil trivial ?_
 refine n_wp ?_
 refine w_seq ?_
 refine w_seq ?_
 refine g_reg hP hn ?_
 refine s_op k_as ?_
 refine s_nil trivial ?_
 refine n_wp ?_
 refine w_block ?_
 refine c_loop (fun m_ T H => T = [(0, .s (.fptr 16 (fun k => if k = 6 then SV.nils else SV.junk) 0 0)), (3, .s (.int .i64 ((0 : Nat) : Int)))] ∧ H = []) (0) ⟨rfl, rfl⟩ (wk hE []) ?_
 rintro n_ T_ H_ ⟨rfl, rfl⟩
 refine w_seq ?_
 refine w_seq ?_
 refine g_reg hP hn ?_
 refine s_op k_mv ?_
 refine s_op k_mv ?_
 refine s_op k_nc ?_
 refine s_op k_fa ?_
 refine s_op (k_ld (by exact a_loadf (v := .nils) rfl (by decide) rfl)) ?_
 refine s_op k_len ?_
 refine s_op k_lss ?_
 refine s_nil trivial ?_
 refine n_wp ?_
 refine w_F rfl ?_ 
 refine w_exit ?_
 refine x_thn ?_
 refine x_thn ?_
 refine x_eq ?_
 refine n_wp ?_
 refine w_seq ?_
 refine g_reg hP hn ?_
 refine s_op k_as ?_
 refine s_nil trivial ?_
 refine n_wp ?_
 refine w_ret ?_
 exact d_ret hP hn hE [] (by first | exact r_tmp Tryz.results83 | exact r_tmpa Tryz.results83)

theorem fillSpot_0 : Con Tryz.prog 54 [.s (.fptr 16 (fun k => if k = 7 then SV.nils else SV.junk) 0 0)] [] (.tup []) [] := by
 refine con_in 35 Tryz.func54 rfl rfl (m := 0) rfl ?_
 intro E hP hn hE
 refine w_seq ?_
 refine g_reg hP hn ?_
 refine s_op k_as ?_
 refine s_nil trivial ?_
 refine n_wp ?_
 refine w_block ?_
 refine c_loop (fun m_ T H => T = [(0, .s (.fptr 16 (fun k => if k = 7 then SV.nils else SV.junk) 0 0)), (2, .s (.int .i64 ((0 : Nat) : Int)))] ∧ H = []) (0) ⟨rfl, rfl⟩ (wk hE []) ?_
 rintro n_ T_ H_ ⟨rfl, rfl⟩
 refine w_seq ?_
 refine w_seq ?_
 refine g_reg hP hn ?_
 refine s_op k_mv ?_
 refine s_op k_mv ?_
 refine s_op k_nc ?_
 refine s_op k_fa ?_
 refine s_op (k_ld (by exact a_loadf (v := .nils) rfl (by decide) rfl)) ?_
 refine s_op k_len ?_
 refine s_op k_lss ?_
 refine s_nil trivial ?_
 refine n_wp ?_
 refine w_F rfl ?_ 
 refine w_exit ?_
 refine x_thn ?_
 refine x_thn ?_
 refine x_eq ?_
 exact d_ret hP hn hE [] (ret_none Tryz.results54)

theorem growSpot_0 : Con Tryz.prog 69 [.s (.fptr 16 (fun k => if k = 7 then SV.nils else SV.junk) 0 0)] [] (.tup []) [] := by
 refine con_in 42 Tryz.func69 rfl rfl (m := 0) rfl ?_
 intro E hP hn hE
 refine w_seq ?_
 refine g_reg hP hn ?_
 refine s_op k_as ?_
 refine s_nil trivial ?_
 refine n_wp ?_
 refine w_block ?_
 refine c_loop (fun m_ T H => T = [(0, .s (.fptr 16 (fun k => if k = 7 then SV.nils else SV.junk) 0 0)), (2, .s (.int .i64 ((0 : Nat) : Int)))] ∧ H = []) (0) ⟨rfl, rfl⟩ (wk hE []) ?_
 rintro n_ T_ H_ ⟨rfl, rfl⟩
 refine w_seq ?_
 refine w_seq ?_
 refine g_reg hP hn ?_
 refine s_op k_mv ?_
 refine s_op k_mv ?_
 refine s_op k_nc ?_
 refine s_op k_fa ?_
 refine s_op (k_ld (by exact a_loadf (v := .nils) rfl (by decide) rfl)) ?_
 refine s_op k_len ?_
 refine s_op k_lss ?_
 refine s_nil trivial ?_
 refine n_wp ?_
 refine w_F rfl ?_ 
 refine w_exit ?_
 refine x_thn ?_
 refine x_thn ?_
 refine x_eq ?_
 exact d_ret hP hn hE [] (ret_none Tryz.results69)

theorem lookSpot_0 : Con Tryz.prog 84 [.s (.fptr 16 (fun k => if k = 7 then SV.nils else SV.junk) 0 0)] [] (.s (.bool true)) [] := by
 refine con_in 64 Tryz.func84 rfl rfl (m := 0) rfl ?_
 intro E hP hn hE
 refine w_seq ?_
 refine g_reg hP hn ?_
 refine s_op k_as ?_
 refine s_nil trivial ?_
 refine n_wp ?_
 refine w_seq ?_
 refine w_seq ?_
 refine g_reg hP hn ?_
 refine s_op k_as ?_
 refine s_nil trivial ?_
 refine n_wp ?_
 refine w_block ?_
 refine c_loop (fun m_ T H => T = [(0, .s (.fptr 16 (fun k => if k = 7 then SV.nils else SV.junk) 0 0)), (3, .s (.int .i64 ((0 : Nat) : Int)))] ∧ H = []) (0) ⟨rfl, rfl⟩ (wk hE []) ?_
 rintro n_ T_ H_ ⟨rfl, rfl⟩
 refine w_seq ?_
 refine w_seq ?_
 refine g_reg hP hn ?_
 refine s_op k_mv ?_
 refine s_op k_mv ?_
 refine s_op k_nc ?_
 refine s_op k_fa ?_
 refine s_op (k_ld (by exact a_loadf (v := .nils) rfl (by decide) rfl)) ?_
 refine s_op k_len ?_
 refine s_op k_lss ?_
 refine s_nil trivial ?_
 refine n_wp ?_
 refine w_F rfl ?_ 
 refine w_exit ?_
 refine x_thn ?_
 refine x_thn ?_
 refine x_eq ?_
 refine n_wp ?_
 refine w_seq ?_
 refine g_reg hP hn ?_
 refine s_op k_as ?_
 refine s_nil trivial ?_
 refine n_wp ?_
 refine w_ret ?_
 exact d_ret hP hn hE [] (by first | exact r_tmp Tryz.results84 | exact r_tmpa Tryz.results84)

theorem fillGen_0 : Con Tryz.prog 55 [.s (.fptr 16 (fun k => if k = 8 then SV.nils else SV.junk) 0 0)] [] (.tup []) [] := by
 refine con_in 35 Tryz.func55 rfl rfl (m := 0) rfl ?_
 intro E hP hn hE
 refine w_seq ?_
 refine g_reg hP hn ?_
 refine s_op k_as ?_
 refine s_nil trivial ?_
 refine n_wp ?_
 refine w_block ?_
 refine c_loop (fun m_ T H => T = [(0, .s (.fptr 16 (fun k => if k = 8 then SV.nils else SV.junk) 0 0)), (2, .s (.int .i64 ((0 : Nat) : Int)))] ∧ H = []) (0) ⟨rfl, rfl⟩ (wk hE []) ?_
 rintro n_ T_ H_ ⟨rfl, rfl⟩
 refine w_seq ?_
 refine w_seq ?_
 refine g_reg hP hn ?_
 refine s_op k_mv ?_
 refine s_op k_mv ?_
 refine s_op k_nc ?_
 refine s_op k_fa ?_
 refine s_op (k_ld (by exact a_loadf (v := .nils) rfl (by decide) rfl)) ?_
 refine s_op k_len ?_
 refine s_op k_lss ?_
 refine s_nil trivial ?_
 refine n_wp ?_
 refine w_F rfl ?_ 
 refine w_exit ?_
 refine x_thn ?_
 refine x_thn ?_
 refine x_eq ?_
 exact d_ret hP hn hE [] (ret_none Tryz.results55)

theorem growGen_0 : Con Tryz.prog 70 [.s (.fptr 16 (fun k => if k = 8 then SV.nils else SV.junk) 0 0)] [] (.tup []) [] := by
 refine con_in 42 Tryz.func70 rfl rfl (m := 0) rfl ?_
 intro E hP hn hE
 refine w_seq ?_
 refine g_reg hP hn ?_
 refine s_op k_as ?_
 refine s_nil trivial ?_
 refine n_wp ?_
 refine w_block ?_
 refine c_loop (fun m_ T H => T = [(0, .s (.fptr 16 (fun k => if k = 8 then SV.nils else SV.junk) 0 0)), (2, .s (.int .i64 ((0 : Nat) : Int)))] ∧ H = []) (0) ⟨rfl, rfl⟩ (wk hE []) ?_
 rintro n_ T_ H_ ⟨rfl, rfl⟩
 refine w_seq ?_
 refine w_seq ?_
 refine g_reg hP hn ?_
 refine s_op k_mv ?_
 refine s_op k_mv ?_
 refine s_op k_nc ?_
 refine s_op k_fa ?_
 refine s_op (k_ld (by exact a_loadf (v := .nils) rfl (by decide) rfl)) ?_
 refine s_op k_len ?_
 refine s_op k_lss ?_
 refine s_nil trivial ?_
 refine n_wp ?_
 refine w_F rfl ?_ 
 refine w_exit ?_
 refine x_thn ?_
 refine x_thn ?_
 refine x_eq ?_
 exact d_ret hP hn hE [] (ret_none Tryz.results70)

theorem lookGen_0 : Con Tryz.prog 85 [.s (.fptr 16 (fun k => if k = 8 then SV.nils else SV.junk) 0 0)] [] (.s (.bool true)) [] := by
 refine con_in 64 Tryz.func85 rfl rfl (m := 0) rfl ?_
 intro E hP hn hE
 refine w_seq ?_
 refine g_reg hP hn ?_
 refine s_op k_as ?_
 refine s_nil trivial ?_
 refine n_wp ?_
 refine w_seq ?_
 refine w_seq ?_
 refine g_reg hP hn ?_
 refine s_op k_as ?_
 refine s_nil trivial ?_
 refine n_wp ?_
 refine w_block ?_
 refine c_loop (fun m_ T H => T = [(0, .s (.fptr 16 (fun k => if k = 8 then SV.nils else SV.junk) 0 0)), (3, .s (.int .i64 ((0 : Nat) : Int)))] ∧ H = []) (0) ⟨rfl, rfl⟩ (wk hE []) ?_
 rintro n_ T_ H_ ⟨rfl, rfl⟩
 refine w_seq ?_
 refine w_seq ?_
 refine g_reg hP hn ?_
 refine s_op k_mv ?_
 refine s_op k_mv ?_
 refine s_op k_nc ?_
 refine s_op k_fa ?_
 refine s_op (k_ld (by exact a_loadf (v := .nils) rfl (by decide) rfl)) ?_
 refine s_op k_len ?_
 refine s_op k_lss ?_
 refine s_nil trivial ?_
 refine n_wp ?_
 refine w_F rfl ?_ 
 refine w_exit ?_
 refine x_thn ?_
 refine x_thn ?_
 refine x_eq ?_
 refine n_wp ?_
 refine w_seq ?_
 refine g_reg hP hn ?_
 refine s_op k_as ?_
 refine s_nil trivial ?_
 refine n_wp ?_
 refine w_ret ?_
 exact d_ret hP hn hE [] (by first | exact r_tmp Tryz.results85 | exact r_tmpa Tryz.results85)

theorem fillLane_0 : Con Tryz.prog 56 [.s (.fptr 16 (fun k => if k = 9 then SV.nils else SV.junk) 0 0)] [] (.tup []) [] := by
 refine con_in 35 Tryz.func56 rfl rfl (m := 0) rfl ?_
 intro E hP hn hE
 refine w_seq ?_
 refine g_reg hP hn ?_
 refine s_op k_as ?_
 refine s_nil trivial ?_
 refine n_wp ?_
 refine w_block ?_
 refine c_loop (fun m_ T H => T = [(0, .s (.fptr 16 (fun k => if k = 9 then SV.nils else SV.junk) 0 0)), (2, .s (.int .i64 ((0 : Nat) : Int)))] ∧ H = []) (0) ⟨rfl, rfl⟩ (wk hE []) ?_
 rintro n_ T_ H_ ⟨rfl, rfl⟩
 refine w_seq ?_
 refine w_seq ?_
 refine g_reg hP hn ?_
 refine s_op k_mv ?_
 refine s_op k_mv ?_
 refine s_op k_nc ?_
 refine s_op k_fa ?_
 refine s_op (k_ld (by exact a_loadf (v := .nils) rfl (by decide) rfl)) ?_
 refine s_op k_len ?_
 refine s_op k_lss ?_
 refine s_nil trivial ?_
 refine n_wp ?_
 refine w_F rfl ?_ 
 refine w_exit ?_
 refine x_thn ?_
 refine x_thn ?_
 refine x_eq ?_
 exact d_ret hP hn hE [] (ret_none Tryz.results56)

theorem growLane_0 : Con Tryz.prog 71 [.s (.fptr 16 (fun k => if k = 9 then SV.nils else SV.junk) 0 0)] [] (.tup []) [] := by
 refine con_in 42 Tryz.func71 rfl rfl (m := 0) rfl ?_
 intro E hP hn hE
 refine w_seq ?_
 refine g_reg hP hn ?_
 refine s_op k_as ?_
 refine s_nil trivial ?_
 refine n_wp ?_
 refine w_block ?_
 refine c_loop (fun m_ T H => T = [(0, .s (.fptr 16 (fun k => if k = 9 then SV.nils else SV.junk) 0 0)), (2, .s (.int .i64 ((0 : Nat) : Int)))] ∧ H = []) (0) ⟨rfl, rfl⟩ (wk hE []) ?_
 rintro n_ T_ H_ ⟨rfl, rfl⟩
 refine w_seq ?_
 refine w_seq ?_
 refine g_reg hP hn ?_
 refine s_op k_mv ?_
 refine s_op k_mv ?_
 refine s_op k_nc ?_
 refine s_op k_fa ?_
 refine s_op (k_ld (by exact a_loadf (v := .nils) rfl (by decide) rfl)) ?_
 refine s_op k_len ?_
 refine s_op k_lss ?_
 refine s_nil trivial ?_
 refine n_wp ?_
 refine w_F rfl ?_ 
 refine w_exit ?_
 refine x_thn ?_
 refine x_thn ?_
 refine x_eq ?_
 exact d_ret hP hn hE [] (ret_none Tryz.results71)

theorem lookLane_0 : Con Tryz.prog 86 [.s (.fptr 16 (fun k => if k = 9 then SV.nils else SV.junk) 0 0)] [] (.s (.bool true)) [] := by
 refine con_in 64 Tryz.func86 rfl rfl (m := 0) rfl ?_
 intro E hP hn hE
 refine w_seq ?_
 refine g_reg hP hn ?_
 refine s_op k_as ?_
 refine s_nil trivial ?_
 refine n_wp ?_
 refine w_seq ?_
 refine w_seq ?_
 refine g_reg hP hn ?_
 refine s_op k_as ?_
 refine s_nil trivial ?_
 refine n_wp ?_
 refine w_block ?_
 refine c_loop (fun m_ T H => T = [(0, .s (.fptr 16 (fun k => if k = 9 then SV.nils else SV.junk) 0 0)), (3, .s (.int .i64 ((0 : Nat) : Int)))] ∧ H = []) (0) ⟨rfl, rfl⟩ (wk hE []) ?_
 rintro n_ T_ H_ ⟨rfl, rfl⟩
 refine w_seq ?_
 refine w_seq ?_
 refine g_reg hP hn ?_
 refine s_op k_mv ?_
 refine s_op k_mv ?_
 refine s_op k_nc ?_
 refine s_op k_fa ?_
 refine s_op (k_ld (by exact a_loadf (v := .nils) rfl (by decide) rfl)) ?_
 refine s_op k_len ?_
 refine s_op k_lss ?_
 refine s_nil trivial ?_
 refine n_wp ?_
 refine w_F rfl ?_ 
 refine w_exit ?_
 refine x_thn ?_
 refine x_thn ?_
 refine x_eq ?_
 refine n_wp ?_
 refine w_seq ?_
 refine g_reg hP hn ?_
 refine s_op k_as ?_
 refine s_nil trivial ?_
 refine n_wp ?_
 refine w_ret ?_
 exact d_ret hP hn hE [] (by first | exact r_tmp Tryz.results86 | exact r_tmpa Tryz.results86)

theorem fillParam_0 : Con Tryz.prog 57 [.s (.fptr 16 (fun k => if k = 10 then SV.nils else SV.junk) 0 0)] [] (.tup []) [] := by
 refine con_in 35 Tryz.func57 rfl rfl (m := 0) rfl ?_
 intro E hP hn hE
 refine w_seq ?_
 refine g_reg hP hn ?_
 refine s_op k_as ?_
 refine s_nil trivial ?_
 refine n_wp ?_
 refine w_block ?_
 refine c_loop (fun m_ T H => T = [(0, .s (.fptr 16 (fun k => if k = 10 then SV.nils else SV.junk) 0 0)), (2, .s (.int .i64 ((0 : Nat) : Int)))] ∧ H = []) (0) ⟨rfl, rfl⟩ (wk hE []) ?_
 rintro n_ T_ H_ ⟨rfl, rfl⟩
 refine w_seq ?_
 refine w_seq ?_
 refine g_reg hP hn ?_
 refine s_op k_mv ?_
 refine s_op k_mv ?_
 refine s_op k_nc ?_
 refine s_op k_fa ?_
 refine s_op (k_ld (by exact a_loadf (v := .nils) rfl (by decide) rfl)) ?_
 refine s_op k_len ?_
 refine s_op k_lss ?_
 refine s_nil trivial ?_
 refine n_wp ?_
 refine w_F rfl ?_ 
 refine w_exit ?_
 refine x_thn ?_
 refine x_thn ?_
 refine x_eq ?_
 exact d_ret hP hn hE [] (ret_none Tryz.results57)

theorem growParam_0 : Con Tryz.prog 72 [.s (.fptr 16 (fun k => if k = 10 then SV.nils else SV.junk) 0 0)] [] (.tup []) [] := by
 refine con_in 42 Tryz.func72 rfl rfl (m := 0) rfl ?_
 intro E hP hn hE
 refine w_seq ?_
 refine g_reg hP hn ?_
 refine s_op k_as ?_
 refine s_nil trivial ?_
 refine n_wp ?_
 refine w_block ?_
 refine c_loop (fun m_ T H => T = [(0, .s (.fptr 16 (fun k => if k = 10 then SV.nils else SV.junk) 0 0)), (2, .s (.int .i64 ((0 : Nat) : Int)))] ∧ H = []) (0) ⟨rfl, rfl⟩ (wk hE []) ?_
 rintro n_ T_ H_ ⟨rfl, rfl⟩
 refine w_seq ?_
 refine w_seq ?_
 refine g_reg hP hn ?_
 refine s_op k_mv ?_
 refine s_op k_mv ?_
 refine s_op k_nc ?_
 refine s_op k_fa ?_
 refine s_op (k_ld (by exact a_loadf (v := .nils) rfl (by decide) rfl)) ?_
 refine s_op k_len ?_
 refine s_op k_lss ?_
 refine s_nil trivial ?_
 refine n_wp ?_
 refine w_F rfl ?_ 
 refine w_exit ?_
 refine x_thn ?_
 refine x_thn ?_
 refine x_eq ?_
 exact d_ret hP hn hE [] (ret_none Tryz.results72)

theorem lookParam_0 : Con Tryz.prog 87 [.s (.fptr 16 (fun k => if k = 10 then SV.nils else SV.junk) 0 0)] [] (.s (.bool true)) [] := by
 refine con_in 64 Tryz.func87 rfl rfl (m := 0) rfl ?_
 intro E hP hn hE
 refine w_seq ?_
 refine g_reg hP hn ?_
 refine s_op k_as ?_
 refine s_nil trivial ?_
 refine n_wp ?_
 refine w_seq ?_
 refine w_seq ?_
 refine g_reg hP hn ?_
 refine s_op k_as ?_
 refine s_nil trivial ?_
 refine n_wp ?_
 refine w_block ?_
 refine c_loop (fun m_ T H => T = [(0, .s (.fptr 16 (fun k => if k = 10 then SV.nils else SV.junk) 0 0)), (3, .s (.int .i64 ((0 : Nat) : Int)))] ∧ H = []) (0) ⟨rfl, rfl⟩ (wk hE []) ?_
 rintro n_ T_ H_ ⟨rfl, rfl⟩
 refine w_seq ?_
 refine w_seq ?_
 refine g_reg hP hn ?_
 refine s_op k_mv ?_
 refine s_op k_mv ?_
 refine s_op k_nc ?_
 refine s_op k_fa ?_
 refine s_op (k_ld (by exact a_loadf (v := .nils) rfl (by decide) rfl)) ?_
 refine s_op k_len ?_
 refine s_op k_lss ?_
 refine s_nil trivial ?_
 refine n_wp ?_
 refine w_F rfl ?_ 
 refine w_exit ?_
 refine x_thn ?_
 refine x_thn ?_
 refine x_eq ?_
 refine n_wp ?_
 refine w_seq ?_
 refine g_reg hP hn ?_
 refine s_op k_as ?_
 refine s_nil trivial ?_
 refine n_wp ?_
 refine w_ret ?_
 exact d_ret hP hn hE [] (by first | exact r_tmp Tryz.results87 | exact r_tmpa Tryz.results87)

theorem fillPacket_0 : Con Tryz.prog 58 [.s (.fptr 16 (fun k => if k = 11 then SV.nils else SV.junk) 0 0)] [] (.tup []) [] := by
 refine con_in 35 Tryz.func58 rfl rfl (m := 0) rfl ?_
 intro E hP hn hE
 refine w_seq ?_
 refine g_reg hP hn ?_
 refine s_op k_as ?_
 refine s_nil trivial ?_
 refine n_wp ?_
 refine w_block ?_
 refine c_loop (fun m_ T H => T = [(0, .s (.fptr 16 (fun k => if k = 11 then SV.nils else SV.junk) 0 0)), (2, .s (.int .i64 ((0 : Nat) : Int)))] ∧ H = []) (0) ⟨rfl, rfl⟩ (wk hE []) ?_
 rintro n_ T_ H_ ⟨rfl, rfl⟩
 refine w_seq ?_
 refine w_seq ?_
 refine g_reg hP hn ?_
 refine s_op k_mv ?_
 refine s_op k_mv ?_
 refine s_op k_nc ?_
 refine s_op k_fa ?_
 refine s_op (k_ld (by exact a_loadf (v := .nils) rfl (by decide) rfl)) ?_
 refine s_op k_len ?_
 refine s_op k_lss ?_
 refine s_nil trivial ?_
 refine n_wp ?_
 refine w_F rfl ?_ 
 refine w_exit ?_
 refine x_thn ?_
 refine x_thn ?_
 refine x_eq ?_
 exact d_ret hP hn hE [] (ret_none Tryz.results58)

theorem growPacket_0 : Con Tryz.prog 73 [.s (.fptr 16 (fun k => if k = 11 then SV.nils else SV.junk) 0 0)] [] (.tup []) [] := by
 refine con_in 42 Tryz.func73 rfl rfl (m := 0) rfl ?_
 intro E hP hn hE
 refine w_seq ?_
 refine g_reg hP hn ?_
 refine s_op k_as ?_
 refine s_nil trivial ?_
 refine n_wp ?_
 refine w_block ?_
 refine c_loop (fun m_ T H => T = [(0, .s (.fptr 16 (fun k => if k = 11 then SV.nils else SV.junk) 0 0)), (2, .s (.int .i64 ((0 : Nat) : Int)))] ∧ H = []) (0) ⟨rfl, rfl⟩ (wk hE []) ?_
 rintro n_ T_ H_ ⟨rfl, rfl⟩
 refine w_seq ?_
 refine w_seq ?_
 refine g_reg hP hn ?_
 refine s_op k_mv ?_
 refine s_op k_mv ?_
 refine s_op k_nc ?_
 refine s_op k_fa ?_
 refine s_op (k_ld (by exact a_loadf (v := .nils) rfl (by decide) rfl)) ?_
 refine s_op k_len ?_
 refine s_op k_lss ?_
 refine s_nil trivial ?_
 refine n_wp ?_
 refine w_F rfl ?_ 
 refine w_exit ?_
 refine x_thn ?_
 refine x_thn ?_
 refine x_eq ?_
 exact d_ret hP hn hE [] (ret_none Tryz.results73)

theorem lookPacket_0 : Con Tryz.prog 88 [.s (.fptr 16 (fun k => if k = 11 then SV.nils else SV.junk) 0 0)] [] (.s (.bool true)) [] := by
 refine con_in 64 Tryz.func88 rfl rfl (m := 0) rfl ?_
 intro E hP hn hE
 refine w_seq ?_
 refine g_reg hP hn ?_
 refine s_op k_as ?_
 refine s_nil trivial ?_
 refine n_wp ?_
 refine w_seq ?_
 refine w_seq ?_
 refine g_reg hP hn ?_
 refine s_op k_as ?_
 refine s_nil trivial ?_
 refine n_wp ?_
 refine w_block ?_
 refine c_loop (fun m_ T H => T = [(0, .s (.fptr 16 (fun k => if k = 11 then SV.nils else SV.junk) 0 0)), (3, .s (.int .i64 ((0 : Nat) : Int)))] ∧ H = []) (0) ⟨rfl, rfl⟩ (wk hE []) ?_
 rintro n_ T_ H_ ⟨rfl, rfl⟩
 refine w_seq ?_
 refine w_seq ?_
 refine g_reg hP hn ?_
 refine s_op k_mv ?_
 refine s_op k_mv ?_
 refine s_op k_nc ?_
 refine s_op k_fa ?_
 refine s_op (k_ld (by exact a_loadf (v := .nils) rfl (by decide) rfl)) ?_
 refine s_op k_len ?_
 refine s_op k_lss ?_
 refine s_nil trivial ?_
 refine n_wp ?_
 refine w_F rfl ?_ 
 refine w_exit ?_
 refine x_thn ?_
 refine x_thn ?_
 refine x_eq ?_
 refine n_wp ?_
 refine w_seq ?_
 refine g_reg hP hn ?_
 refine s_op k_as ?_
 refine s_nil trivial ?_
 refine n_wp ?_
 refine w_ret ?_
 exact d_ret hP hn hE [] (by first | exact r_tmp Tryz.results88 | exact r_tmpa Tryz.results88)

theorem fillFrame_0 : Con Tryz.prog 59 [.s (.fptr 16 (fun k => if k = 12 then SV.nils else SV.junk) 0 0)] [] (.tup []) [] := by
 refine con_in 35 Tryz.func59 rfl rfl (m := 0) rfl ?_
 intro E hP hn hE
 refine w_seq ?_
 refine g_reg hP hn ?_
 refine s_op k_as ?_
 refine s_nil trivial ?_
 refine n_wp ?_
 refine w_block ?_
 refine c_loop (fun m_ T H => T = [(0, .s (.fptr 16 (fun k => if k = 12 then SV.nils else SV.junk) 0 0)), (2, .s (.int .i64 ((0 : Nat) : Int)))] ∧ H = []) (0) ⟨rfl, rfl⟩ (wk hE []) ?_
 rintro n_ T_ H_ ⟨rfl, rfl⟩
 refine w_seq ?_
 refine w_seq ?_
 refine g_reg hP hn ?_
 refine s_op k_mv ?_
 refine s_op k_mv ?_
 refine s_op k_nc ?_
 refine s_op k_fa ?_
 refine s_op (k_ld (by exact a_loadf (v := .nils) rfl (by decide) rfl)) ?_
 refine s_op k_len ?_
 refine s_op k_lss ?_
 refine s_nil trivial ?_
 refine n_wp ?_
 refine w_F rfl ?_ 
 refine w_exit ?_
 refine x_thn ?_
 refine x_thn ?_
 refine x_eq ?_
 exact d_ret hP hn hE [] (ret_none Tryz.results59)

theorem growFrame_0 : Con Tryz.prog 74 [.s (.fptr 16 (fun k => if k = 12 then SV.nils else SV.junk) 0 0)] [] (.tup []) [] := by
 refine con_in 42 Tryz.func74 rfl rfl (m := 0) rfl ?_
 intro E hP hn hE
 refine w_seq ?_
 refine g_reg hP hn ?_
 refine s_op k_as ?_
 refine s_nil trivial ?_
 refine n_wp ?_
 refine w_block ?_
 refine c_loop (fun m_ T H => T = [(0, .s (.fptr 16 (fun k => if k = 12 then SV.nils else SV.junk) 0 0)), (2, .s (.int .i64 ((0 : Nat) : Int)))] ∧ H = []) (0) ⟨rfl, rfl⟩ (wk hE []) ?_
 rintro n_ T_ H_ ⟨rfl, rfl⟩
 refine w_seq ?_
 refine w_seq ?_
 refine g_reg hP hn ?_
 refine s_op k_mv ?_
 refine s_op k_mv ?_
 refine s_op k_nc ?_
 refine s_op k_fa ?_
 refine s_op (k_ld (by exact a_loadf (v := .nils) rfl (by decide) rfl)) ?_
 refine s_op k_len ?_
 refine s_op k_lss ?_
 refine s_nil trivial ?_
 refine n_wp ?_
 refine w_F rfl ?_ 
 refine w_exit ?_
 refine x_thn ?_
 refine x_thn ?_
 refine x_eq ?_
 exact d_ret hP hn hE [] (ret_none Tryz.results74)

theorem lookFrame_0 : Con Tryz.prog 89 [.s (.fptr 16 (fun k => if k = 12 then SV.nils else SV.junk) 0 0)] [] (.s (.bool true)) [] := by
 refine con_in 64 Tryz.func89 rfl rfl (m := 0) rfl ?_
 intro E hP hn hE
 refine w_seq ?_
 refine g_reg hP hn ?_
 refine s_op k_as ?_
 refine s_nil trivial ?_
 refine n_wp ?_
 refine w_seq ?_
 refine w_seq ?_
 refine g_reg hP hn ?_
 refine s_op k_as ?_
 refine s_nil trivial ?_
 refine n_wp ?_
 refine w_block ?_
 refine c_loop (fun m_ T H => T = [(0, .s (.fptr 16 (fun k => if k = 12 then SV.nils else SV.junk) 0 0)), (3, .s (.int .i64 ((0 : Nat) : Int)))] ∧ H = []) (0) ⟨rfl, rfl⟩ (wk hE []) ?_
 rintro n_ T_ H_ ⟨rfl, rfl⟩
 refine w_seq ?_
 refine w_seq ?_
 refine g_reg hP hn ?_
 refine s_op k_mv ?_
 refine s_op k_mv ?_
 refine s_op k_nc ?_
 refine s_op k_fa ?_
 refine s_op (k_ld (by exact a_loadf (v := .nils) rfl (by decide) rfl)) ?_
 refine s_op k_len ?_
 refine s_op k_lss ?_
 refine s_nil trivial ?_
 refine n_wp ?_
 refine w_F rfl ?_ 
 refine w_exit ?_
 refine x_thn ?_
 refine x_thn ?_
 refine x_eq ?_
 refine n_wp ?_
 refine w_seq ?_
 refine g_reg hP hn ?_
 refine s_op k_as ?_
 refine s_nil trivial ?_
 refine n_wp ?_
 refine w_ret ?_
 exact d_ret hP hn hE [] (by first | exact r_tmp Tryz.results89 | exact r_tmpa Tryz.results89)

theorem fillMail_0 : Con Tryz.prog 60 [.s (.fptr 16 (fun k => if k = 13 then SV.nils else SV.junk) 0 0)] [] (.tup []) [] := by
 refine con_in 35 Tryz.func60 rfl rfl (m := 0) rfl ?_
 intro E hP hn hE
 refine w_seq ?_
 refine g_reg hP hn ?_
 refine s_op k_as ?_
 refine s_nil trivial ?_
 refine n_wp ?_
 refine w_block ?_
 refine c_loop (fun m_ T H => T = [(0, .s (.fptr 16 (fun k => if k = 13 then SV.nils else SV.junk) 0 0)), (2, .s (.int .i64 ((0 : Nat) : Int)))] ∧ H = []) (0) ⟨rfl, rfl⟩ (wk hE []) ?_
 rintro n_ T_ H_ ⟨rfl, rfl⟩
 refine w_seq ?_
 refine w_seq ?_
 refine g_reg hP hn ?_
 refine s_op k_mv ?_
 refine s_op k_mv ?_
 refine s_op k_nc ?_
 refine s_op k_fa ?_
 refine s_op (k_ld (by exact a_loadf (v := .nils) rfl (by decide) rfl)) ?_
 refine s_op k_len ?_
 refine s_op k_lss ?_
 refine s_nil trivial ?_
 refine n_wp ?_
 refine w_F rfl ?_ 
 refine w_exit ?_
 refine x_thn ?_
 refine x_thn ?_
 refine x_eq ?_
 exact d_ret hP hn hE [] (ret_none Tryz.results60)

theorem growMail_0 : Con Tryz.prog 75 [.s (.fptr 16 (fun k => if k = 13 then SV.nils else SV.junk) 0 0)] [] (.tup []) [] := by
 refine con_in 42 Tryz.func75 rfl rfl (m := 0) rfl ?_
 intro E hP hn hE
 refine w_seq ?_
 refine g_reg hP hn ?_
 refine s_op k_as ?_
 refine s_nil trivial ?_
 refine n_wp ?_
 refine w_block ?_
 refine c_loop (fun m_ T H => T = [(0, .s (.fptr 16 (fun k => if k = 13 then SV.nils else SV.junk) 0 0)), (2, .s (.int .i64 ((0 : Nat) : Int)))] ∧ H = []) (0) ⟨rfl, rfl⟩ (wk hE []) ?_
 rintro n_ T_ H_ ⟨rfl, rfl⟩
 refine w_seq ?_
 refine w_seq ?_
 refine g_reg hP hn ?_
 refine s_op k_mv ?_
 refine s_op k_mv ?_
 refine s_op k_nc ?_
 refine s_op k_fa ?_
 refine s_op (k_ld (by exact a_loadf (v := .nils) rfl (by decide) rfl)) ?_
 refine s_op k_len ?_
 refine s_op k_lss ?_
 refine s_nil trivial ?_
 refine n_wp ?_
 refine w_F rfl ?_ 
 refine w_exit ?_
 refine x_thn ?_
 refine x_thn ?_
 refine x_eq ?_
 exact d_ret hP hn hE [] (ret_none Tryz.results75)

theorem lookMail_0 : Con Tryz.prog 90 [.s (.fptr 16 (fun k => if k = 13 then SV.nils else SV.junk) 0 0)] [] (.s (.bool true)) [] := by
 refine con_in 64 Tryz.func90 rfl rfl (m := 0) rfl ?_
 intro E hP hn hE
 refine w_seq ?_
 refine g_reg hP hn ?_
 refine s_op k_as ?_
 refine s_nil trivial ?_
 refine n_wp ?_
 refine w_seq ?_
 refine w_seq ?_
 refine g_reg hP hn ?_
 refine s_op k_as ?_
 refine s_nil trivial ?_
 refine n_wp ?_
 refine w_block ?_
 refine c_loop (fun m_ T H => T = [(0, .s (.fptr 16 (fun k => if k = 13 then SV.nils else SV.junk) 0 0)), (3, .s (.int .i64 ((0 : Nat) : Int)))] ∧ H = []) (0) ⟨rfl, rfl⟩ (wk hE []) ?_
 rintro n_ T_ H_ ⟨rfl, rfl⟩
 refine w_seq ?_
 refine w_seq ?_
 refine g_reg hP hn ?_
 refine s_op k_mv ?_
 refine s_op k_mv ?_
 refine s_op k_nc ?_
 refine s_op k_fa ?_
 refine s_op (k_ld (by exact a_loadf (v := .nils) rfl (by decide) rfl)) ?_
 refine s_op k_len ?_
 refine s_op k_lss ?_
 refine s_nil trivial ?_
 refine n_wp ?_
 refine w_F rfl ?_ 
 refine w_exit ?_
 refine x_thn ?_
 refine x_thn ?_
 refine x_eq ?_
 refine n_wp ?_
 refine w_seq ?_
 refine g_reg hP hn ?_
 refine s_op k_as ?_
 refine s_nil trivial ?_
 refine n_wp ?_
 refine w_ret ?_
 exact d_ret hP hn hE [] (by first | exact r_tmp Tryz.results90 | exact r_tmpa Tryz.results90)

theorem fillSession_0 : Con Tryz.prog 61 [.s (.fptr 16 (fun k => if k = 14 then SV.nils else SV.junk) 0 0)] [] (.tup []) [] := by
 refine con_in 35 Tryz.func61 rfl rfl (m := 0) rfl ?_
 intro E hP hn hE
 refine w_seq ?_
 refine g_reg hP hn ?_
 refine s_op k_as ?_
 refine s_nil trivial ?_
 refine n_wp ?_
 refine w_block ?_
 refine c_loop (fun m_ T H => T = [(0, .s (.fptr 16 (fun k => if k = 14 then SV.nils else SV.junk) 0 0)), (2, .s (.int .i64 ((0 : Nat) : Int)))] ∧ H = []) (0) ⟨rfl, rfl⟩ (wk hE []) ?_
 rintro n_ T_ H_ ⟨rfl, rfl⟩
 refine w_seq ?_
 refine w_seq ?_
 refine g_reg hP hn ?_
 refine s_op k_mv ?_
 refine s_op k_mv ?_
 refine s_op k_nc ?_
 refine s_op k_fa ?_
 refine s_op (k_ld (by exact a_loadf (v := .nils) rfl (by decide) rfl)) ?_
 refine s_op k_len ?_
 refine s_op k_lss ?_
 refine s_nil trivial ?_
 refine n_wp ?_
 refine w_F rfl ?_ 
 refine w_exit ?_
 refine x_thn ?_
 refine x_thn ?_
 refine x_eq ?_
 exact d_ret hP hn hE [] (ret_none Tryz.results61)

theorem growSession_0 : Con Tryz.prog 76 [.s (.fptr 16 (fun k => if k = 14 then SV.nils else SV.junk) 0 0)] [] (.tup []) [] := by
 refine con_in 42 Tryz.func76 rfl rfl (m := 0) rfl ?_
 intro E hP hn hE
 refine w_seq ?_
 refine g_reg hP hn ?_
 refine s_op k_as ?_
 refine s_nil trivial ?_
 refine n_wp ?_
 refine w_block ?_
 refine c_loop (fun m_ T H => T = [(0, .s (.fptr 16 (fun k => if k = 14 then SV.nils else SV.junk) 0 0)), (2, .s (.int .i64 ((0 : Nat) : Int)))] ∧ H = []) (0) ⟨rfl, rfl⟩ (wk hE []) ?_
 rintro n_ T_ H_ ⟨rfl, rfl⟩
 refine w_seq ?_
 refine w_seq ?_
 refine g_reg hP hn ?_
 refine s_op k_mv ?_
 refine s_op k_mv ?_
 refine s_op k_nc ?_
 refine s_op k_fa ?_
 refine s_op (k_ld (by exact a_loadf (v := .nils) rfl (by decide) rfl)) ?_
 refine s_op k_len ?_
 refine s_op k_lss ?_
 refine s_nil trivial ?_
 refine n_wp ?_
 refine w_F rfl ?_ 
 refine w_exit ?_
 refine x_thn ?_
 refine x_thn ?_
 refine x_eq ?_
 exact d_ret hP hn hE [] (ret_none Tryz.results76)

theorem lookSession_0 : Con Tryz.prog 91 [.s (.fptr 16 (fun k => if k = 14 then SV.nils else SV.junk) 0 0)] [] (.s (.bool true)) [] := by
 refine con_in 64 Tryz.func91 rfl rfl (m := 0) rfl ?_
 intro E hP hn hE
 refine w_seq ?_
 refine g_reg hP hn ?_
 refine s_op k_as ?_
 refine s_nil trivial ?_
 refine n_wp ?_
 refine w_seq ?_
 refine w_seq ?_
 refine g_reg hP hn ?_
 refine s_op k_as ?_
 refine s_nil trivial ?_
 refine n_wp ?_
 refine w_block ?_
 refine c_loop (fun m_ T H => T = [(0, .s (.fptr 16 (fun k => if k = 14 then SV.nils else SV.junk) 0 0)), (3, .s (.int .i64 ((0 : Nat) : Int)))] ∧ H = []) (0) ⟨rfl, rfl⟩ (wk hE []) ?_
 rintro n_ T_ H_ ⟨rfl, rfl⟩
 refine w_seq ?_
 refine w_seq ?_
 refine g_reg hP hn ?_
 refine s_op k_mv ?_
 refine s_op k_mv ?_
 refine s_op k_nc ?_
 refine s_op k_fa ?_
 refine s_op (k_ld (by exact a_loadf (v := .nils) rfl (by decide) rfl)) ?_
 refine s_op k_len ?_
 refine s_op k_lss ?_
 refine s_nil trivial ?_
 refine n_wp ?_
 refine w_F rfl ?_ 
 refine w_exit ?_
 refine x_thn ?_
 refine x_thn ?_
 refine x_eq ?_
 refine n_wp ?_
 refine w_seq ?_
 refine g_reg hP hn ?_
 refine s_op k_as ?_
 refine s_nil trivial ?_
 refine n_wp ?_
 refine w_ret ?_
 exact d_ret hP hn hE [] (by first | exact r_tmp Tryz.results91 | exact r_tmpa Tryz.results91)

theorem fillRecord_0 : Con Tryz.prog 62 [.s (.fptr 16 (fun k => if k = 15 then SV.nils else SV.junk) 0 0)] [] (.tup []) [] := by
 refine con_in 35 Tryz.func62 rfl rfl (m := 0) rfl ?_
 intro E hP hn hE
 refine w_seq ?_
 refine g_reg hP hn ?_
 refine s_op k_as ?_
 refine s_nil trivial ?_
 refine n_wp ?_
 refine w_block ?_
 refine c_loop (fun m_ T H => T = [(0, .s (.fptr 16 (fun k => if k = 15 then SV.nils else SV.junk) 0 0)), (2, .s (.int .i64 ((0 : Nat) : Int)))] ∧ H = []) (0) ⟨rfl, rfl⟩ (wk hE []) ?_
 rintro n_ T_ H_ ⟨rfl, rfl⟩
 refine w_seq ?_
 refine w_seq ?_
 refine g_reg hP hn ?_
 refine s_op k_mv ?_
 refine s_op k_mv ?_
 refine s_op k_nc ?_
 refine s_op k_fa ?_
 refine s_op (k_ld (by exact a_loadf (v := .nils) rfl (by decide) rfl)) ?_
 refine s_op k_len ?_
 refine s_op k_lss ?_
 refine s_nil trivial ?_
 refine n_wp ?_
 refine w_F rfl ?_ 
 refine w_exit ?_
 refine x_thn ?_
 refine x_thn ?_
 refine x_eq ?_
 exact d_ret hP hn hE [] (ret_none Tryz.results62)

theorem growRecord_0 : Con Tryz.prog 77 [.s (.fptr 16 (fun k => if k = 15 then SV.nils else SV.junk) 0 0)] [] (.tup []) [] := by
 refine con_in 42 Tryz.func77 rfl rfl (m := 0) rfl ?_
 intro E hP hn hE
 refine w_seq ?_
 refine g_reg hP hn ?_
 refine s_op k_as ?_
 refine s_nil trivial ?_
 refine n_wp ?_
 refine w_block ?_
 refine c_loop (fun m_ T H => T = [(0, .s (.fptr 16 (fun k => if k = 15 then SV.nils else SV.junk) 0 0)), (2, .s (.int .i64 ((0 : Nat) : Int)))] ∧ H = []) (0) ⟨rfl, rfl⟩ (wk hE []) ?_
 rintro n_ T_ H_ ⟨rfl, rfl⟩
 refine w_seq ?_
 refine w_seq ?_
 refine g_reg hP hn ?_
 refine s_op k_mv ?_
 refine s_op k_mv ?_
 refine s_op k_nc ?_
 refine s_op k_fa ?_
 refine s_op (k_ld (by exact a_loadf (v := .nils) rfl (by decide) rfl)) ?_
 refine s_op k_len ?_
 refine s_op k_lss ?_
 refine s_nil trivial ?_
 refine n_wp ?_
 refine w_F rfl ?_ 
 refine w_exit ?_
 refine x_thn ?_
 refine x_thn ?_
 refine x_eq ?_
 exact d_ret hP hn hE [] (ret_none Tryz.results77)

theorem lookRecord_0 : Con Tryz.prog 92 [.s (.fptr 16 (fun k => if k = 15 then SV.nils else SV.junk) 0 0)] [] (.s (.bool true)) [] := by
 refine con_in 64 Tryz.func92 rfl rfl (m := 0) rfl ?_
 intro E hP hn hE
 refine w_seq ?_
 refine g_reg hP hn ?_
 refine s_op k_as ?_
 refine s_nil trivial ?_
 refine n_wp ?_
 refine w_seq ?_
 refine w_seq ?_
 refine g_reg hP hn ?_
 refine s_op k_as ?_
 refine s_nil trivial ?_
 refine n_wp ?_
 refine w_block ?_
 refine c_loop (fun m_ T H => T = [(0, .s (.fptr 16 (fun k => if k = 15 then SV.nils else SV.junk) 0 0)), (3, .s (.int .i64 ((0 : Nat) : Int)))] ∧ H = []) (0) ⟨rfl, rfl⟩ (wk hE []) ?_
 rintro n_ T_ H_ ⟨rfl, rfl⟩
 refine w_seq ?_
 refine w_seq ?_
 refine g_reg hP hn ?_
 refine s_op k_mv ?_
 refine s_op k_mv ?_
 refine s_op k_nc ?_
 refine s_op k_fa ?_
 refine s_op (k_ld (by exact a_loadf (v := .nils) rfl (by decide) rfl)) ?_
 refine s_op k_len ?_
 refine s_op k_lss ?_
 refine s_nil trivial ?_
 refine n_wp ?_
 refine w_F rfl ?_ 
 refine w_exit ?_
 refine x_thn ?_
 refine x_thn ?_
 refine x_eq ?_
 refine n_wp ?_
 refine w_seq ?_
 refine g_reg hP hn ?_
 refine s_op k_as ?_
 refine s_nil trivial ?_
 refine n_wp ?_
 refine w_ret ?_
 exact d_ret hP hn hE [] (by first | exact r_tmp Tryz.results92 | exact r_tmpa Tryz.results92)

end Go.Proofs.X
end

section
open Go Go.Bx Go.Proofs
namespace Go.Proofs.X
set_option maxRecDepth 100000
set_option maxHeartbeats 4000000
def fillT (L : List Int) (m : Int) : Nat → List Int
  | 0 => L
  | k + 1 => (fillT L m k).set k m
theorem fillT_len (L : List Int) (m : Int) (k : Nat) : (fillT L m k).length = L.length := by
  induction k with
  | zero => rfl
  | succ k ih => rw [fillT, List.length_set, ih]
theorem fillT_get (L : List Int) (m : Int) (k i : Nat) (hi : i < L.length) : (fillT L m k).getD i 0 = if i < k then m else L.getD i 0 := by
  induction k with
  | zero => rw [if_neg (by omega)]; rfl
  | succ k ih =>
    simp only [fillT, List.getD_eq_getElem?_getD, List.getElem?_set] at ih ⊢
    by_cases h : k = i
    · subst h; rw [if_pos rfl, if_pos (by rw [fillT_len]; exact hi), if_pos (by omega)]; rfl
    · rw [if_neg h, ih]
      by_cases h2 : i < k
      · rw [if_pos h2, if_pos (by omega)]
      · rw [if_neg h2, if_neg (by omega)]
theorem fillT_all (L : List Int) (m : Int) : fillT L m L.length = List.replicate L.length m := by
  refine eqI (by rw [fillT_len, List.length_replicate]) fun i hi => ?_
  rw [fillT_len] at hi
  rw [fillT_get _ _ _ _ hi, if_pos hi, List.getD_eq_getElem?_getD, List.getElem?_replicate, if_pos hi]; rfl
theorem fillT_app (L : List Int) (m : Int) (k : Nat) (h : k ≤ L.length) : fillT (L ++ [77]) m k = fillT L m k ++ [77] := by
  induction k with
  | zero => rfl
  | succ k ih => rw [fillT, ih (by omega), fillT, List.set_append, if_pos (by rw [fillT_len]; omega)]
theorem fillT_a (L : List Int) (m : Int) : fillT (L ++ [77]) m L.length = List.replicate L.length m ++ [77] := by rw [fillT_app _ _ _ (Nat.le_refl _), fillT_all]
theorem rep_s (n : Nat) (m : Int) : List.replicate n m ++ [m] = List.replicate (n + 1) m := by rw [List.replicate_succ']
theorem rep_t (n : Nat) (m : Int) : (List.replicate n m).take n ++ [m] = List.replicate (n + 1) m := by rw [List.take_of_length_le (by simp), rep_s]
theorem rep_j (n : Nat) (m : Int) : spl (List.replicate n m ++ [77]) [m] n 1 (n + 1) = List.replicate (n + 1) m := by
  have e := spl_app (List.replicate n m) [m] [77] n 1 (n + 1) (by simp) rfl (by omega) (by simp)
  rw [e]; simp [List.replicate_succ']
theorem rep_g (n k : Nat) (m : Int) (h : k < n) : (List.replicate n m).getD k 0 = m := by rw [List.getD_eq_getElem?_getD, List.getElem?_replicate, if_pos h]; rfl

theorem mark_c (n : Nat) (hm : n < 256) : Con Tryz.prog 120 [.s (.int .i64 ((n : Nat) : Int))] [] (.s (.int .u8 ((n : Nat) : Int))) [] := by
 refine con_in 5 Tryz.func120 rfl rfl (m := 0) rfl ?_
 intro E hP hn hE
 refine w_seq ?_
 refine g_reg hP hn ?_
 refine s_op k_as ?_
 refine s_nil trivial ?_
 refine n_wp ?_
 refine w_seq ?_
 refine g_reg hP hn ?_
 refine s_op k_mv ?_
 refine s_op k_cv ?_
 refine s_op k_as ?_
 refine s_nil trivial ?_
 refine n_wp ?_
 refine w_ret ?_
 exact d_ret hP hn hE [] (by first | exact r_tmp Tryz.results120 | exact r_tmpa Tryz.results120)

theorem is_t (n : Nat) (x : Int) (hm : n < 256) (hx : x = (n : Int)) : Con Tryz.prog 135 [.s (.int .u8 x), .s (.int .i64 ((n : Nat) : Int))] [] (.s (.bool true)) [] := by
 refine con_in 9 Tryz.func135 rfl rfl (m := 0) rfl ?_
 intro E hP hn hE
 refine w_seq ?_
 refine g_reg hP hn ?_
 refine s_op k_as ?_
 refine s_nil trivial ?_
 refine n_wp ?_
 refine w_seq ?_
 refine g_reg hP hn ?_
 refine s_op k_mv ?_
 refine s_op k_mv ?_
 refine s_op k_cv ?_
 refine s_op (l_bin rfl rfl (b_eql (r := true) (decide_eq_true hx))) ?_
 refine s_op k_as ?_
 refine s_nil trivial ?_
 refine n_wp ?_
 refine w_ret ?_
 exact d_ret hP hn hE [] (by first | exact r_tmp Tryz.results135 | exact r_tmpa Tryz.results135)

theorem keep_A (X0 : List Int) : Con Tryz.prog 45 [.s (.ptr 0 0 0), .s (.slice 1 0 0 X0.length (X0.length + 1))] [some ⟨true, [.one (.int .i64 ((0 : Nat) : Int)), .one .nils, .one .nils, .one .nils, .one .nils, .one .nils, .one .nils, .one .nils, .one .nils, .one .nils, .one .nils, .one .nils, .one .nils, .one .nils, .one .nils, .one .nils]⟩, some ⟨true, [.ints .u8 (X0.length + 1) (X0 ++ [77])]⟩] (.tup []) [some ⟨true, [.one (.int .i64 ((1 : Nat) : Int)), .one (.gro 2 3 1), .one .nils, .one .nils, .one .nils, .one .nils, .one .nils, .one .nils, .one .nils, .one .nils, .one .nils, .one .nils, .one .nils, .one .nils, .one .nils, .one .nils]⟩, some ⟨true, [.ints .u8 (X0.length + 1) (X0 ++ [77])]⟩, some ⟨true, [.one (.slice 1 0 0 X0.length (X0.length + 1)), .one .nils, .one (.int .i64 ((1 : Nat) : Int))]⟩] := by
 refine con_in 26 Tryz.func45 rfl rfl (m := 2) rfl ?_
 intro E hP hn hE
 refine w_seq ?_
 refine g_reg hP hn ?_
 refine s_op k_mv ?_
 refine s_op k_nc ?_
 refine s_op k_fa ?_
 refine s_op k_ld ?_
 refine s_op k_add ?_
 refine s_op k_nc ?_
 refine s_op k_fa ?_
 refine s_st (k_st (h := by exact a_store_one rfl rfl SV.noConfusion rfl rfl (hset_seg (by repeat (first | apply sset_s _ rfl rfl | exact sset_0)) (by repeat (first | exact hset_0 | apply hset_s))))) ?_
 refine s_nil trivial ?_
 refine n_wp ?_
 refine w_weak (H' := [some ⟨true, [.one (.int .i64 ((1 : Nat) : Int)), .one (.gro 2 3 0), .one .nils, .one .nils, .one .nils, .one .nils, .one .nils, .one .nils, .one .nils, .one .nils, .one .nils, .one .nils, .one .nils, .one .nils, .one .nils, .one .nils]⟩, some ⟨true, [.ints .u8 (X0.length + 1) (X0 ++ [77])]⟩, some ⟨true, []⟩]) ((weak_new (segs := []) rfl).trans (weak_row 0 (segs' := [.one (.int .i64 ((0 + 1 : Nat) : Int)), .one (.gro 2 3 0), .one .nils, .one .nils, .one .nils, .one .nils, .one .nils, .one .nils, .one .nils, .one .nils, .one .nils, .one .nils, .one .nils, .one .nils, .one .nils, .one .nils]) rfl (fun _ _ h => row_groM (pre := [.one (.int .i64 ((0 + 1 : Nat) : Int))]) h) rfl)) ?_
 refine g_any hP hn ?_
 refine s_op k_mv ?_
 refine s_op k_mv ?_
 refine s_op k_nc ?_
 refine s_op k_fa ?_
 refine s_op k_ld ?_
 refine s_op k_mv ?_
 refine s_op k_mv ?_
 refine s_op k_nc ?_
 refine s_op k_fa ?_
 refine s_op k_ld ?_
 refine s_op k_bd ?_
 refine s_op k_bs1 ?_
 refine s_op k_ap1 ?_
 refine s_op k_nc ?_
 refine s_op k_fa ?_
 refine s_st (k_st (h := by exact a_store_one rfl rfl SV.noConfusion rfl rfl (hset_seg (by repeat (first | apply sset_s _ rfl rfl | exact sset_0)) (by repeat (first | exact hset_0 | apply hset_s))))) ?_
 refine s_nil (by kernel_rfl) ?_
 exact d_ret hP hn hE [0, 1, 4] (ret_none Tryz.results45)
theorem bytes_A (X0 : List Int) : Con Tryz.prog 10 [.s (.ptr 0 0 0), .s (.slice 1 0 0 X0.length (X0.length + 1))] [some ⟨true, [.one (.int .i64 ((0 : Nat) : Int)), .one .nils, .one .nils, .one .nils, .one .nils, .one .nils, .one .nils, .one .nils, .one .nils, .one .nils, .one .nils, .one .nils, .one .nils, .one .nils, .one .nils, .one .nils]⟩, some ⟨true, [.ints .u8 (X0.length + 1) (X0 ++ [77])]⟩] (.tup []) [some ⟨true, [.one (.int .i64 ((1 : Nat) : Int)), .one (.gro 2 3 1), .one .nils, .one .nils, .one .nils, .one .nils, .one .nils, .one .nils, .one .nils, .one .nils, .one .nils, .one .nils, .one .nils, .one .nils, .one .nils, .one .nils]⟩, some ⟨true, [.ints .u8 (X0.length + 1) (X0 ++ [77])]⟩, some ⟨true, [.one (.slice 1 0 0 X0.length (X0.length + 1)), .one .nils, .one (.int .i64 ((1 : Nat) : Int))]⟩] := by
 refine con_in 7 Tryz.func10 rfl rfl (m := 2) rfl ?_
 intro E hP hn hE
 refine g_reg hP hn ?_
 refine s_op k_mv ?_
 refine s_op k_mv ?_
 refine s_op (k_call [0, 1] (con := keep_A X0)) ?_
 refine s_nil trivial ?_
 exact d_ret hP hn hE [0, 1, 2] (ret_none Tryz.results10)

theorem keep_AB (X0 : List Int) (X1 : List Int) : Con Tryz.prog 45 [.s (.ptr 0 0 0), .s (.slice 2 0 0 X1.length X1.length)] [some ⟨true, [.one (.int .i64 ((1 : Nat) : Int)), .one (.gro 3 3 1), .one .nils, .one .nils, .one .nils, .one .nils, .one .nils, .one .nils, .one .nils, .one .nils, .one .nils, .one .nils, .one .nils, .one .nils, .one .nils, .one .nils]⟩, some ⟨true, [.ints .u8 (X0.length + 1) (X0 ++ [77])]⟩, some ⟨true, [.ints .u8 X1.length X1]⟩, some ⟨true, [.one (.slice 1 0 0 X0.length (X0.length + 1)), .one .nils, .one (.int .i64 ((1 : Nat) : Int))]⟩] (.tup []) [some ⟨true, [.one (.int .i64 ((2 : Nat) : Int)), .one (.gro 4 3 2), .one .nils, .one .nils, .one .nils, .one .nils, .one .nils, .one .nils, .one .nils, .one .nils, .one .nils, .one .nils, .one .nils, .one .nils, .one .nils, .one .nils]⟩, some ⟨true, [.ints .u8 (X0.length + 1) (X0 ++ [77])]⟩, some ⟨true, [.ints .u8 X1.length X1]⟩, none, some ⟨true, [.one (.slice 1 0 0 X0.length (X0.length + 1)), .one .nils, .one (.int .i64 ((1 : Nat) : Int)), .one (.slice 2 0 0 X1.length X1.length), .one .nils, .one (.int .i64 ((2 : Nat) : Int))]⟩] := by
 refine con_in 26 Tryz.func45 rfl rfl (m := 4) rfl ?_
 intro E hP hn hE
 refine w_seq ?_
 refine g_reg hP hn ?_
 refine s_op k_mv ?_
 refine s_op k_nc ?_
 refine s_op k_fa ?_
 refine s_op k_ld ?_
 refine s_op k_add ?_
 refine s_op k_nc ?_
 refine s_op k_fa ?_
 refine s_st (k_st (h := by exact a_store_one rfl rfl SV.noConfusion rfl rfl (hset_seg (by repeat (first | apply sset_s _ rfl rfl | exact sset_0)) (by repeat (first | exact hset_0 | apply hset_s))))) ?_
 refine s_nil trivial ?_
 refine n_wp ?_
 refine g_any hP hn ?_
 refine s_op k_mv ?_
 refine s_op k_mv ?_
 refine s_op k_nc ?_
 refine s_op k_fa ?_
 refine s_op k_ld ?_
 refine s_op k_mv ?_
 refine s_op k_mv ?_
 refine s_op k_nc ?_
 refine s_op k_fa ?_
 refine s_op k_ld ?_
 refine s_op k_bd ?_
 refine s_op k_bs1 ?_
 refine s_op k_ap1 ?_
 refine s_op k_nc ?_
 refine s_op k_fa ?_
 refine s_st (k_st (h := by exact a_store_one rfl rfl SV.noConfusion rfl rfl (hset_seg (by repeat (first | apply sset_s _ rfl rfl | exact sset_0)) (by repeat (first | exact hset_0 | apply hset_s))))) ?_
 refine s_nil (by kernel_rfl) ?_
 exact d_ret hP hn hE [0, 1, 2, 3, 5] (ret_none Tryz.results45)
theorem bytes_AB (X0 : List Int) (X1 : List Int) : Con Tryz.prog 10 [.s (.ptr 0 0 0), .s (.slice 2 0 0 X1.length X1.length)] [some ⟨true, [.one (.int .i64 ((1 : Nat) : Int)), .one (.gro 3 3 1), .one .nils, .one .nils, .one .nils, .one .nils, .one .nils, .one .nils, .one .nils, .one .nils, .one .nils, .one .nils, .one .nils, .one .nils, .one .nils, .one .nils]⟩, some ⟨true, [.ints .u8 (X0.length + 1) (X0 ++ [77])]⟩, some ⟨true, [.ints .u8 X1.length X1]⟩, some ⟨true, [.one (.slice 1 0 0 X0.length (X0.length + 1)), .one .nils, .one (.int .i64 ((1 : Nat) : Int))]⟩] (.tup []) [some ⟨true, [.one (.int .i64 ((2 : Nat) : Int)), .one (.gro 4 3 2), .one .nils, .one .nils, .one .nils, .one .nils, .one .nils, .one .nils, .one .nils, .one .nils, .one .nils, .one .nils, .one .nils, .one .nils, .one .nils, .one .nils]⟩, some ⟨true, [.ints .u8 (X0.length + 1) (X0 ++ [77])]⟩, some ⟨true, [.ints .u8 X1.length X1]⟩, none, some ⟨true, [.one (.slice 1 0 0 X0.length (X0.length + 1)), .one .nils, .one (.int .i64 ((1 : Nat) : Int)), .one (.slice 2 0 0 X1.length X1.length), .one .nils, .one (.int .i64 ((2 : Nat) : Int))]⟩] := by
 refine con_in 7 Tryz.func10 rfl rfl (m := 4) rfl ?_
 intro E hP hn hE
 refine g_reg hP hn ?_
 refine s_op k_mv ?_
 refine s_op k_mv ?_
 refine s_op (k_call [0, 1, 2, 3] (con := keep_AB X0 X1)) ?_
 refine s_nil trivial ?_
 exact d_ret hP hn hE [0, 1, 2, 3, 4] (ret_none Tryz.results10)

theorem keep_AC (X0 : List Int) : Con Tryz.prog 45 [.s (.ptr 0 0 0), .s .nils] [some ⟨true, [.one (.int .i64 ((1 : Nat) : Int)), .one (.gro 2 3 1), .one .nils, .one .nils, .one .nils, .one .nils, .one .nils, .one .nils, .one .nils, .one .nils, .one .nils, .one .nils, .one .nils, .one .nils, .one .nils, .one .nils]⟩, some ⟨true, [.ints .u8 (X0.length + 1) (X0 ++ [77])]⟩, some ⟨true, [.one (.slice 1 0 0 X0.length (X0.length + 1)), .one .nils, .one (.int .i64 ((1 : Nat) : Int))]⟩] (.tup []) [some ⟨true, [.one (.int .i64 ((2 : Nat) : Int)), .one (.gro 3 3 2), .one .nils, .one .nils, .one .nils, .one .nils, .one .nils, .one .nils, .one .nils, .one .nils, .one .nils, .one .nils, .one .nils, .one .nils, .one .nils, .one .nils]⟩, some ⟨true, [.ints .u8 (X0.length + 1) (X0 ++ [77])]⟩, none, some ⟨true, [.one (.slice 1 0 0 X0.length (X0.length + 1)), .one .nils, .one (.int .i64 ((1 : Nat) : Int)), .one .nils, .one .nils, .one (.int .i64 ((2 : Nat) : Int))]⟩] := by
 refine con_in 26 Tryz.func45 rfl rfl (m := 3) rfl ?_
 intro E hP hn hE
 refine w_seq ?_
 refine g_reg hP hn ?_
 refine s_op k_mv ?_
 refine s_op k_nc ?_
 refine s_op k_fa ?_
 refine s_op k_ld ?_
 refine s_op k_add ?_
 refine s_op k_nc ?_
 refine s_op k_fa ?_
 refine s_st (k_st (h := by exact a_store_one rfl rfl SV.noConfusion rfl rfl (hset_seg (by repeat (first | apply sset_s _ rfl rfl | exact sset_0)) (by repeat (first | exact hset_0 | apply hset_s))))) ?_
 refine s_nil trivial ?_
 refine n_wp ?_
 refine g_any hP hn ?_
 refine s_op k_mv ?_
 refine s_op k_mv ?_
 refine s_op k_nc ?_
 refine s_op k_fa ?_
 refine s_op k_ld ?_
 refine s_op k_mv ?_
 refine s_op k_mv ?_
 refine s_op k_nc ?_
 refine s_op k_fa ?_
 refine s_op k_ld ?_
 refine s_op k_bd ?_
 refine s_op k_bs1 ?_
 refine s_op k_ap1 ?_
 refine s_op k_nc ?_
 refine s_op k_fa ?_
 refine s_st (k_st (h := by exact a_store_one rfl rfl SV.noConfusion rfl rfl (hset_seg (by repeat (first | apply sset_s _ rfl rfl | exact sset_0)) (by repeat (first | exact hset_0 | apply hset_s))))) ?_
 refine s_nil (by kernel_rfl) ?_
 exact d_ret hP hn hE [0, 1, 2, 4] (ret_none Tryz.results45)
theorem bytes_AC (X0 : List Int) : Con Tryz.prog 10 [.s (.ptr 0 0 0), .s .nils] [some ⟨true, [.one (.int .i64 ((1 : Nat) : Int)), .one (.gro 2 3 1), .one .nils, .one .nils, .one .nils, .one .nils, .one .nils, .one .nils, .one .nils, .one .nils, .one .nils, .one .nils, .one .nils, .one .nils, .one .nils, .one .nils]⟩, some ⟨true, [.ints .u8 (X0.length + 1) (X0 ++ [77])]⟩, some ⟨true, [.one (.slice 1 0 0 X0.length (X0.length + 1)), .one .nils, .one (.int .i64 ((1 : Nat) : Int))]⟩] (.tup []) [some ⟨true, [.one (.int .i64 ((2 : Nat) : Int)), .one (.gro 3 3 2), .one .nils, .one .nils, .one .nils, .one .nils, .one .nils, .one .nils, .one .nils, .one .nils, .one .nils, .one .nils, .one .nils, .one .nils, .one .nils, .one .nils]⟩, some ⟨true, [.ints .u8 (X0.length + 1) (X0 ++ [77])]⟩, none, some ⟨true, [.one (.slice 1 0 0 X0.length (X0.length + 1)), .one .nils, .one (.int .i64 ((1 : Nat) : Int)), .one .nils, .one .nils, .one (.int .i64 ((2 : Nat) : Int))]⟩] := by
 refine con_in 7 Tryz.func10 rfl rfl (m := 3) rfl ?_
 intro E hP hn hE
 refine g_reg hP hn ?_
 refine s_op k_mv ?_
 refine s_op k_mv ?_
 refine s_op (k_call [0, 1, 2] (con := keep_AC X0)) ?_
 refine s_nil trivial ?_
 exact d_ret hP hn hE [0, 1, 2, 3] (ret_none Tryz.results10)

end Go.Proofs.X
end
