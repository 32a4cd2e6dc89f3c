/- A part of the proofs of this claim: what else is wanted. No conditions. -/
import Derived.Test.YtcddchknofjbhaaGreatA12
set_option linter.unusedVariables false
set_option linter.unusedSimpArgs false
section
set_option maxRecDepth 100000
set_option maxHeartbeats 4000000
open Go Go.Bx Go.Proofs
namespace Go.Proofs.X
attribute [local irreducible] be gN ckS encL enF up8 chk pk0 pkB mayK wd asB
theorem eqf_n (L : List Pc) (U : List Nat) (hLb : L.length ≤ 1000000) (hUL : L.length = U.length) (j : Nat) (hj : j < L.length) (hne : (L.getD j p0).1 ≠ U.getD j 0) : Con Tryz.prog 63 [.s (PARS L), .s (.fzi .u16 (zs U)), .s (.val (.func (.func 64) #[] #[]))] [] (.s (.bool false)) [] := by
 refine con_in 32 Tryz.func63 rfl rfl (m := 0) rfl ?_
 intro E hP hn hE
 refine qz hP hn ?_
 refine s_op k_as ?_
 refine s_nil trivial (n_wp (w_seq (w_seq ?_)))
 refine w_weak (weak_conv 2 rfl (conv_vf (q := capF []))) ?_
 have hzl : (zs U).length = U.length := zs_len U
 refine g_reg hP hn ?_
 refine o3 ?_
 refine o2 ?_
 refine s_nil trivial (n_wp ?_)
 refine w_F rfl ?_ (by rw [zs_len, decide_eq_true hUL]; rfl)
 refine w_skip (n_wp (w_seq (qz hP hn ?_)))
 refine o3 ?_
 refine s_nil trivial (n_wp (w_block ?_))
 refine c_loop (fun m_ T H => ∃ i, i ≤ L.length ∧ m_ = L.length - i ∧ (∀ k, k < i → (L.getD k p0).1 = U.getD k 0) ∧ T = [(1, .s (.fzi .u16 (zs U))), (2, .s (.noid (.clo 64 0 (capF [])))), (15, .s (PARS L)), (16, .s (.int .i64 ((L.length : Nat) : Int))), (17, .s (.int .i64 ((i : Nat) : Int)))] ∧ H = []) (L.length) ⟨0, by omega, rfl, fun k hk => absurd hk (Nat.not_lt_zero k), rfl, rfl⟩ (wk hE []) ?_
 rintro n_ T_ H_ ⟨i, hi, rfl, hup, rfl, rfl⟩
 refine qz hP hn ?_
 refine s_op k_lss ?_
 refine s_nil trivial (n_wp (w_seq ?_))
 have hij : i ≤ j := Nat.le_of_not_lt fun h => hne (hup j h)
 have h_t18 : i < L.length := by omega
 refine w_T rfl ?_ (decide_eq_true h_t18)
 refine w_skip (n_wp (w_seq (w_block (qz hP hn ?_))))
 refine o2 ?_
 refine s_op k_ldP ?_
 refine o2 ?_
 refine s_st k_st ?_
 refine qx hP hn ?_
 refine o4 ?_
 rw [zs_getD]
 refine s_op k_as ?_
 refine qx hP hn ?_
 refine o3 ?_
 refine s_op (k_callN [] (con := rd2_c (L.getD i p0) (U.getD i 0))) ?_
 refine s_op k_not ?_
 refine s_nil trivial (n_wp ?_)
 refine w_cond rfl (fun h_t30 => ?_) (fun h_t30 => ?_)
 · refine qz hP hn ?_
   refine s_op k_as ?_
   refine s_nil trivial (n_wp (w_ret (r_blo (r_thn (r_thn (r_blo (r_thn ?_)))))))
   exact d_ret hP hn hE [] (by first | exact r_tmp Tryz.results63 | exact r_tmpa Tryz.results63)
 · have hsame : (L.getD i p0).1 = U.getD i 0 := by simpa using h_t30
   refine w_skip (n_blo (n_wp (g_reg hP hn ?_)))
   refine o2 ?_
   refine s_nil trivial ?_
   exact n_round (L.length - (i + 1)) (by omega) ⟨i + 1, by omega, rfl, fun k hk => (Nat.lt_succ_iff_lt_or_eq.1 hk).elim (hup k) (fun e => e ▸ hsame), rfl, rfl⟩ (wk hE [])

end Go.Proofs.X
end

section
set_option maxRecDepth 100000
set_option maxHeartbeats 4000000
open Go Go.Bx Go.Proofs
namespace Go.Proofs.X
attribute [local irreducible] be gN ckS encL enF up8 chk pk0 pkB mayK wd asB tagS
theorem off_err (s : List Int) (e : Int) (he : e ≠ 0) : Off Tryz.prog 62 [.s (.ptr 4 0 0), .s (.ptr 3 0 0)] [none, none, none, some ⟨true, [B32 s]⟩, some ⟨true, [.one (.int .i64 e)]⟩] [none, none, none, some ⟨true, [.ints .u8 32 (zs (List.replicate 32 0))]⟩, some ⟨true, [.one (.int .i64 e)]⟩] := by
 refine off_in 5 Tryz.func62 rfl rfl rfl ?_
 intro E hP hn hE
 refine qz hP hn ?_
 refine s_op k_ld ?_
 refine s_op (l_bin rfl rfl (b_neq (r := true) (decide_eq_true he))) ?_
 refine s_nil trivial (n_wp ?_)
 refine w_T rfl ?_ 
 refine g_reg hP hn ?_
 refine s_op k_bd ?_
 refine s_st k_st ?_
 refine s_nil trivial ?_
 exact ⟨.inr rfl, wk hE [0, 1, 2, 3, 4]⟩

theorem reads_form (p q g a : Nat) (SD ID PE : List Int) (ep : Nat) (OM OC IM IC SA HE TG : List Int) (k : Nat) (A B : List Int) (L : List Pc) (x K : Nat) (U : List Nat) (b : Bool) (heq : Con Tryz.prog 63 [.s (PARS L), .s (.fzi .u16 (zs U)), .s (.val (.func (.func 64) #[] #[]))] [] (.s (.bool b)) []) (hk : k ≠ K) : Con Tryz.prog 37 [.agg [N4 p, N4 q, N4 g, N4 a, B32 SD, B32 ID, B16 PE, .one (.int .u32 ((ep : Nat) : Int)), B32 OM, B16 OC, B32 IM, B16 IC, B32 SA, B32 HE, B16 TG], .agg (PKT k A B L), .agg [N4 x], .s (.int .u8 ((K : Nat) : Int)), .s (.fzi .u16 (zs U))] [] (.tup [.agg [.ints .u8 32 (zs (List.replicate 32 0))], .s (.int .i64 4)]) [] := by
 refine con_off (m := 0) (T1 := [(3, .s (.int .u8 ((K : Nat) : Int))), (4, .s (.fzi .u16 (zs U))), (5, .s (.fptr 273 (cellsF [N4 p, N4 q, N4 g, N4 a, B32 SD, B32 ID, B16 PE, .one (.int .u32 ((ep : Nat) : Int)), B32 OM, B16 OC, B32 IM, B16 IC, B32 SA, B32 HE, B16 TG]) 0 0)), (6, .s (.fptr 34 (cellsF (PKT k A B L)) 0 0)), (7, .s (.fptr 4 (cellsF [N4 x]) 0 0)), (10, .s (.ptr 3 0 0)), (11, .s (.ptr 4 0 0))]) (H1 := [none, none, none, some ⟨true, [.ints .u8 32 (zs (List.replicate 32 0))]⟩, some ⟨true, [.one (.int .i64 0)]⟩]) (F := []) (M := []) 102 Tryz.func37 rfl rfl rfl (by exact Clb.h) ?_ rfl rfl (by kernel_rfl) (k_fn [.ptr 4 0 0, .ptr 3 0 0]) ?_
 · intro E hP hn hE
   refine g_reg hP hn ?_
   refine s_op k_bxf ?_
   refine s_op k_bxf ?_
   refine s_op k_bxf ?_
   refine o2 ?_
   refine s_nil trivial ?_
   exact n_off (wk hE [0, 1, 2, 3, 4])
 · intro E hP hn hE
   refine qz hP hn ?_
   refine o3 ?_
   refine s_op (k_call [] (con := heq)) ?_
   refine s_op k_as ?_
   refine s_nil trivial (n_wp (w_seq (qz hP hn ?_)))
   refine o3 ?_
   refine s_op (l_bin rfl rfl (b_neq (r := true) (decide_eq_true (by omega)))) ?_
   refine s_op k_mv ?_
   refine s_off rfl rfl rfl ?_
   refine s_off rfl rfl rfl ?_
   refine s_off rfl rfl rfl ?_
   refine s_off rfl rfl rfl ?_
   refine s_off rfl rfl rfl ?_
   refine s_off rfl rfl rfl ?_
   refine o2 ?_
   refine s_off rfl rfl rfl ?_
   refine s_off rfl rfl rfl ?_
   refine s_off rfl rfl rfl ?_
   refine s_off rfl rfl rfl ?_
   refine s_off rfl rfl rfl ?_
   refine o2 ?_
   refine s_off rfl rfl rfl ?_
   refine s_off rfl rfl rfl ?_
   refine s_op k_pk ?_
   refine s_nil trivial (n_wp ?_)
   refine w_T rfl ?_ 
   refine qz hP hn ?_
   refine s_op k_ld ?_
   refine s_st k_st ?_
   refine s_st k_st ?_
   refine s_nil trivial (n_wp (w_ret (r_thn ?_)))
   exact d_off hP hn [] (off_err (zs (List.replicate 32 0)) 4 (by decide)) (ret2 Tryz.results37 r_cella r_cells)

end Go.Proofs.X
end

section
set_option maxRecDepth 100000
set_option maxHeartbeats 4000000
open Go Go.Bx Go.Proofs
namespace Go.Proofs.X
attribute [local irreducible] be gN ckS encL enF up8 chk pk0 pkB mayK wd asB tagS
theorem ask_c (p q g a : Nat) (SD ID PE : List Int) (ep : Nat) (OM OC IM IC SA HE : List Int) (x : Nat) (SS : List Int) (L2 : List Pc) (his : Con Tryz.prog 22 [.agg [N4 p, N4 q, N4 g, N4 a, B32 SD], .agg [B32 ID, B16 PE, .one (.int .u32 ((ep : Nat) : Int)), B32 OM, B16 OC, B32 IM, B16 IC, B32 SA, B32 HE]] [] (.tup [.agg [N4 p, N4 q, N4 g, N4 a, B32 SD, B32 ID, B16 PE, .one (.int .u32 ((ep : Nat) : Int)), B32 OM, B16 OC, B32 IM, B16 IC, B32 SA, B32 HE, .ints .u8 16 (tagS x)], .s (.int .i64 0)]) []) (hmk : Con Tryz.prog 24 [.agg [N4 p, N4 q, N4 g, N4 a, B32 SD, B32 ID, B16 PE, .one (.int .u32 ((ep : Nat) : Int)), B32 OM, B16 OC, B32 IM, B16 IC, B32 SA, B32 HE, .ints .u8 16 (tagS x)], .s (.int .u8 ((6 : Nat) : Int)), .s (.int .u16 ((897 : Nat) : Int)), .agg [B32 SS]] [] (.agg (PKT 6 (tagS x) PE L2)) [])  : Con Tryz.prog 16 [.agg [N4 p, N4 q, N4 g, N4 a, B32 SD], .agg [B32 ID, B16 PE, .one (.int .u32 ((ep : Nat) : Int)), B32 OM, B16 OC, B32 IM, B16 IC, B32 SA, B32 HE], .agg [B32 SS]] [] (.tup [.agg (PKT 6 (tagS x) PE L2), .s (.int .i64 0)]) [] := by
 refine con_in 23 Tryz.func16 rfl rfl (m := 0) rfl ?_
 intro E hP hn hE
 refine qz hP hn ?_
 refine s_op k_bxf ?_
 refine s_op k_bxf ?_
 refine s_op k_bxf ?_
 refine o2 ?_
 refine qx hP hn ?_
 refine o2 ?_
 refine s_op (k_call [] (con := his)) ?_
 refine o4 ?_
 refine s_st (k_st (h := by exact a_store_agg rfl rfl rfl (put_w (by kernel_rfl)) (by exact Nat.le_of_ble_eq_true rfl) (by kernel_rfl) (by repeat (first | exact hset_0 | apply hset_s)))) ?_
 refine s_op k_as ?_
 refine s_nil trivial (n_wp (w_seq (qz hP hn ?_)))
 refine s_op k_mv ?_
 refine s_op (l_bin rfl rfl (b_neq (r := false) (decide_eq_false (fun h => h rfl)))) ?_
 refine s_nil trivial (n_wp ?_)
 refine w_F rfl ?_ 
 refine w_skip (n_wp (qz hP hn ?_))
 refine s_op (k_ld (h := by exact a_load_whole rfl rfl (by kernel_rfl))) ?_
 refine s_op k_ld ?_
 refine s_op (k_call [] (con := hmk)) ?_
 refine s_st k_st ?_
 refine s_op k_as ?_
 refine s_nil trivial (n_wp (w_ret ?_))
 exact d_ret hP hn hE [] (ret2 Tryz.results16 r_cella (by first | exact ri_tmp rfl | exact ri_tmpa rfl))

theorem answer_e (p q g a : Nat) (SD ID PE : List Int) (ep : Nat) (OM OC IM IC SA HE : List Int) (x : Nat) (k : Nat) (A B : List Int) (L : List Pc) (y : Nat) (SS : List Int) (L2 : List Pc) (e : Int) (he : e ≠ 0) (his : Con Tryz.prog 22 [.agg [N4 p, N4 q, N4 g, N4 a, B32 SD], .agg [B32 ID, B16 PE, .one (.int .u32 ((ep : Nat) : Int)), B32 OM, B16 OC, B32 IM, B16 IC, B32 SA, B32 HE]] [] (.tup [.agg [N4 p, N4 q, N4 g, N4 a, B32 SD, B32 ID, B16 PE, .one (.int .u32 ((ep : Nat) : Int)), B32 OM, B16 OC, B32 IM, B16 IC, B32 SA, B32 HE, .ints .u8 16 (tagS x)], .s (.int .i64 0)]) []) (hrd : Con Tryz.prog 37 [.agg [N4 p, N4 q, N4 g, N4 a, B32 SD, B32 ID, B16 PE, .one (.int .u32 ((ep : Nat) : Int)), B32 OM, B16 OC, B32 IM, B16 IC, B32 SA, B32 HE, .ints .u8 16 (tagS x)], .agg (PKT k A B L), .agg [N4 y], .s (.int .u8 ((6 : Nat) : Int)), .s (.fzi .u16 (zs [897, 61505, 61697]))] [] (.tup [.agg [B32 SS], .s (.int .i64 e)]) [])  : Con Tryz.prog 11 [.agg [N4 p, N4 q, N4 g, N4 a, B32 SD], .agg [B32 ID, B16 PE, .one (.int .u32 ((ep : Nat) : Int)), B32 OM, B16 OC, B32 IM, B16 IC, B32 SA, B32 HE], .agg [N4 y], .agg (PKT k A B L)] [] (.tup [.agg [.one (.int .u8 0), .ints .u8 16 (zs (List.replicate 16 0)), .ints .u8 16 (zs (List.replicate 16 0)), .one .nils], .s (.int .i64 e)]) [] := by
 refine con_in 38 Tryz.func11 rfl rfl (m := 0) rfl ?_
 intro E hP hn hE
 refine qz hP hn ?_
 refine s_op k_bxf ?_
 refine s_op k_bxf ?_
 refine s_op k_bxf ?_
 refine s_op k_bxf ?_
 refine o2 ?_
 refine qx hP hn ?_
 refine o2 ?_
 refine s_op (k_call [] (con := his)) ?_
 refine o4 ?_
 refine s_st (k_st (h := by exact a_store_agg rfl rfl rfl (put_w (by kernel_rfl)) (by exact Nat.le_of_ble_eq_true rfl) (by kernel_rfl) (by repeat (first | exact hset_0 | apply hset_s)))) ?_
 refine s_op k_as ?_
 refine s_nil trivial (n_wp (w_seq (qz hP hn ?_)))
 refine s_op k_mv ?_
 refine s_op (l_bin rfl rfl (b_neq (r := false) (decide_eq_false (fun h => h rfl)))) ?_
 refine s_nil trivial (n_wp ?_)
 refine w_F rfl ?_ 
 refine w_skip (n_wp (qz hP hn ?_))
 refine s_op (k_ld (h := by exact a_load_whole rfl rfl (by kernel_rfl))) ?_
 refine o2 ?_
 refine s_op k_bsf ?_
 refine s_op (k_call [] (con := hrd)) ?_
 refine o4 ?_
 refine s_st k_st ?_
 refine s_op k_as ?_
 refine s_nil trivial (n_wp (w_seq (qz hP hn ?_)))
 refine s_op k_mv ?_
 refine s_op (l_bin rfl rfl (b_neq (r := true) (decide_eq_true he))) ?_
 refine s_nil trivial (n_wp ?_)
 refine w_T rfl ?_ 
 refine qz hP hn ?_
 refine s_op k_bd ?_
 refine s_op k_mv ?_
 refine s_st k_st ?_
 refine s_op k_as ?_
 refine s_nil trivial (n_wp (w_ret (r_thn ?_)))
 exact d_ret hP hn hE [] (ret2 Tryz.results11 r_cella (by first | exact ri_tmp rfl | exact ri_tmpa rfl))

end Go.Proofs.X
end

section
open Go Go.Bx Go.Proofs
namespace Go.Proofs.X
attribute [local irreducible] be gN ckS up8 chk pk0 pkB mayK wd  mcB kyB koB kmB kM kC cmpT omB ocB imB icB saB heB bitsN expP inP mayP
attribute [local irreducible] tagS plL
section
variable {p q g a : Nat} {SD ID PE : List Int} {ep : Nat} {OM OC IM IC SA HE : List Int}
theorem reads_n {k ty K ty' a' x : Nat} {SS TG A B SZ : List Int} (hk : k ≠ K) (hty : ty ≠ ty') : Con Tryz.prog 37 [.agg [.ints .u64 4 (zs (wd p)), .ints .u64 4 (zs (wd q)), .ints .u64 4 (zs (wd g)), .ints .u64 4 (zs (wd a)), .ints .u8 32 SD, .ints .u8 32 ID, .ints .u8 16 PE, .one (.int .u32 ((ep : Nat) : Int)), .ints .u8 32 OM, .ints .u8 16 OC, .ints .u8 32 IM, .ints .u8 16 IC, .ints .u8 32 SA, .ints .u8 32 HE, .ints .u8 16 TG], .agg (PKT k A B (plL k ty A B SS SZ p q g a')), .agg [.ints .u64 4 (zs (wd x))], .s (.int .u8 ((K : Nat) : Int)), .s (.fzi .u16 (zs [(ty' : Nat), 61505, 61697]))] [] (.tup [.agg [.ints .u8 32 (zs (List.replicate 32 0))], .s (.int .i64 4)]) [] := by
 have e0 : ((plL k ty A B SS SZ p q g a').getD 0 p0) = (ty, SS) := by unfold plL; rfl
 have el : (plL k ty A B SS SZ p q g a').length = 3 := by unfold plL; rfl
 exact reads_form p q g a SD ID PE ep OM OC IM IC SA HE TG k A B _ x K _ false (eqf_n _ _ (by rw [el]; decide) (by rw [el]; rfl) 0 (by rw [el]; decide) (by rw [e0]; exact hty)) hk
theorem ask_k {SS : List Int} (s : HstOk p q g a) (h : SndOk 6 897 (tagS (expP p g a)) PE SS SA) (hne : (tagS (expP p g a)) ≠ PE) : Con Tryz.prog 16 [.agg [.ints .u64 4 (zs (wd p)), .ints .u64 4 (zs (wd q)), .ints .u64 4 (zs (wd g)), .ints .u64 4 (zs (wd a)), .ints .u8 32 SD], .agg [.ints .u8 32 ID, .ints .u8 16 PE, .one (.int .u32 ((ep : Nat) : Int)), .ints .u8 32 OM, .ints .u8 16 OC, .ints .u8 32 IM, .ints .u8 16 IC, .ints .u8 32 SA, .ints .u8 32 HE], .agg [.ints .u8 32 SS]] [] (.tup [.agg (PKT 6 (tagS (expP p g a)) PE (plL 6 897 (tagS (expP p g a)) PE SS SA p q g a)), .s (.int .i64 0)]) [] := ask_c p q g a SD ID PE ep OM OC IM IC SA HE (expP p g a) SS _ (is_k s h.hB hne) (makes_k s h)
theorem ans_n {a' x : Nat} {SS A B SZ : List Int} (s : HstOk p q g a) (hPE : PE.length = 16) (hne : (tagS (expP p g a)) ≠ PE) : Con Tryz.prog 11 [.agg [.ints .u64 4 (zs (wd p)), .ints .u64 4 (zs (wd q)), .ints .u64 4 (zs (wd g)), .ints .u64 4 (zs (wd a)), .ints .u8 32 SD], .agg [.ints .u8 32 ID, .ints .u8 16 PE, .one (.int .u32 ((ep : Nat) : Int)), .ints .u8 32 OM, .ints .u8 16 OC, .ints .u8 32 IM, .ints .u8 16 IC, .ints .u8 32 SA, .ints .u8 32 HE], .agg [.ints .u64 4 (zs (wd x))], .agg (PKT 7 A B (plL 7 961 A B SS SZ p q g a'))] [] (.tup [.agg [.one (.int .u8 0), .ints .u8 16 (zs (List.replicate 16 0)), .ints .u8 16 (zs (List.replicate 16 0)), .one .nils], .s (.int .i64 4)]) [] := answer_e p q g a SD ID PE ep OM OC IM IC SA HE (expP p g a) 7 A B _ x (zs (List.replicate 32 0)) [] 4 (by decide) (is_k s hPE hne) (reads_n (ty := 961) (by decide) (by decide))
end
section
variable {p q g a : Nat} {SD ID PE : List Int} {ep : Nat} {OM OC IM IC SA HE TG : List Int} {y : Nat} {SS : List Int} {sp : Nat} {Bp : List Int} {left tries : Int}
end

end Go.Proofs.X
end
