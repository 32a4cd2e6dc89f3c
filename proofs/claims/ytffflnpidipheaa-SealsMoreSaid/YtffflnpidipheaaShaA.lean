/- A part of the proofs of this claim: ShaA (ShaSpec, ShaW1, ShaW2, ShaW3, ShaSpec2). No conditions. -/
import Derived.Test.YtffflnpidipheaaAesSpec
import Derived.Test.YtffflnpidipheaaAbC
import Derived.Test.YtffflnpidipheaaProg
import Derived.KernelRfl
set_option linter.unusedVariables false
set_option linter.unusedSimpArgs false
section
/- What the program's sums compute, on lists. -/
open Go Go.Ab Go.Proofs
namespace Go.Proofs.X
def rs (k : Int) : Int := andK .u64 (IntKind.u64.wrap k) 31
theorem rs_nonneg (k : Int) : 0 ≤ rs k := wrap_u64_nonneg _
def rotI (x k : Int) : Int := orK .u32 (shlK .u32 x (rs k)) (shrK .u32 x (IntKind.u64.wrap (32 - rs k)))
def dnI (x : Int) (ps : List Int) : Nat → Int
  | 0 => 0
  | i + 1 => xorK .u32 (dnI x ps i) (rotI x (IntKind.i64.wrap (0 - ps.getD i 0)))
def KS : List Int := [1116352408, 1899447441, 3049323471, 3921009573, 961987163, 1508970993, 2453635748, 2870763221, 3624381080, 310598401, 607225278, 1426881987, 1925078388, 2162078206, 2614888103, 3248222580, 3835390401, 4022224774, 264347078, 604807628, 770255983, 1249150122, 1555081692, 1996064986, 2554220882, 2821834349, 2952996808, 3210313671, 3336571891, 3584528711, 113926993, 338241895, 666307205, 773529912, 1294757372, 1396182291, 1695183700, 1986661051, 2177026350, 2456956037, 2730485921, 2820302411, 3259730800, 3345764771, 3516065817, 3600352804, 4094571909, 275423344, 430227734, 506948616, 659060556, 883997877, 958139571, 1322822218, 1537002063, 1747873779, 1955562222, 2024104815, 2227730452, 2361852424, 2428436474, 2756734187, 3204031479, 3329325298]
theorem KS_len : KS.length = 64 := rfl
def gI (w : List Int) : Nat → Int
  | 0 => 0
  | i + 1 => IntKind.u64.wrap (IntKind.u64.wrap (256 * gI w i) + IntKind.u64.wrap (w.getD i 0))
def getI (B : List Int) (m : Nat) : Int := gI (spl (z 8) ((B.drop 0).take m) (0 + (8 - m)) m 8) 8
/-- The next one of a block's numbers: what is kept of them. -/
theorem spl_len (xs ys : List Int) (i n m : Nat) : (spl xs ys i n m).length = m := by simp [spl]
def wn1 (w : List Int) (t : Nat) : List Int := w.set (t % 16) (IntKind.u32.wrap (w.getD (t % 16) 0 + xorK .u32 (dnI (w.getD ((t + 1) % 16) 0) [7, 18] 2) (shrK .u32 (w.getD ((t + 1) % 16) 0) 3)))
def wn2 (w : List Int) (zz : Int) (t : Nat) : List Int := w.set (t % 16) (IntKind.u32.wrap (w.getD (t % 16) 0 + xorK .u32 (dnI zz [17, 19] 2) (shrK .u32 zz 10)))
def wn3 (w : List Int) (t : Nat) : List Int := w.set (t % 16) (IntKind.u32.wrap (w.getD (t % 16) 0 + w.getD ((t + 9) % 16) 0))
def wn (b w : List Int) (t : Nat) : List Int :=
  if t < 16 then w.set (t % 16) (IntKind.u32.wrap (getI ((b.drop (0 + 4 * t)).take (64 - 4 * t)) 4))
  else wn3 (wn2 (wn1 w t) (w.getD ((t + 14) % 16) 0) t) t
theorem wn_len (b w : List Int) (t : Nat) : (wn b w t).length = w.length := by
  unfold wn wn1 wn2 wn3; split <;> simp
theorem wn_lt (b w : List Int) {t : Nat} (h : t < 16) : wn b w t = w.set (t % 16) (IntKind.u32.wrap (getI ((b.drop (0 + 4 * t)).take (64 - 4 * t)) 4)) := if_pos h
theorem wn_ge (b w : List Int) {t : Nat} (h : ¬ t < 16) : wn b w t = wn3 (wn2 (wn1 w t) (w.getD ((t + 14) % 16) 0) t) t := if_neg h
def ws (b : List Int) : Nat → List Int
  | 0 => z 16
  | i + 1 => wn b (ws b i) i
theorem ws_len (b : List Int) (i : Nat) : (ws b i).length = 16 := by
  induction i with
  | zero => exact z_len _
  | succ i ih => rw [ws, wn_len, ih]
def comK (k : IntKind) (m : Int) : Int := xorK k (if k.signed then -1 else k.max) m
def rP (l : List Int) (k x : Int) : Int := IntKind.u32.wrap (IntKind.u32.wrap (IntKind.u32.wrap (IntKind.u32.wrap (l.getD 7 0 + dnI (l.getD 4 0) [6, 11, 25] 3) + orK .u32 (andK .u32 (l.getD 4 0) (l.getD 5 0)) (andK .u32 (comK .u32 (l.getD 4 0)) (l.getD 6 0))) + k) + x)
def rQ (l : List Int) : Int := IntKind.u32.wrap (dnI (l.getD 0 0) [2, 13, 22] 3 + xorK .u32 (andK .u32 (l.getD 0 0) (xorK .u32 (l.getD 1 0) (l.getD 2 0))) (andK .u32 (l.getD 1 0) (l.getD 2 0)))
def rS (l : List Int) : List Int := spl l ((l.drop 0).take 7) (0 + 1) 7 8
def rnd (l : List Int) (k x : Int) : List Int := ((rS l).set 4 (IntKind.u32.wrap ((rS l).getD 4 0 + rP l k x))).set 0 (IntKind.u32.wrap (rP l k x + rQ l))
theorem rnd_len (l : List Int) (k x : Int) : (rnd l k x).length = 8 := by simp [rnd, rS, spl]
def ls (s b : List Int) : Nat → List Int
  | 0 => s
  | i + 1 => rnd (ls s b i) (KS.getD i 0) ((ws b (i + 1)).getD (i % 16) 0)
theorem ls_len (s b : List Int) (h : s.length = 8) (i : Nat) : (ls s b i).length = 8 := by
  cases i with
  | zero => exact h
  | succ i => exact rnd_len _ _ _
def fin (s l : List Int) : Nat → List Int
  | 0 => l
  | i + 1 => (fin s l i).set i (IntKind.u32.wrap ((fin s l i).getD i 0 + s.getD i 0))
theorem fin_len (s l : List Int) (i : Nat) : (fin s l i).length = l.length := by
  induction i with
  | zero => rfl
  | succ i ih => simp [fin, ih]
def aft (s b : List Int) : List Int := fin s (ls s b 64) 8
theorem aft_len (s b : List Int) (h : s.length = 8) : (aft s b).length = 8 := (fin_len _ _ _).trans (ls_len _ _ h _)
theorem ls_s (s b : List Int) (i : Nat) : ls s b (i + 1) = rnd (ls s b i) (KS.getD i 0) ((wn b (ws b i) i).getD (i % 16) 0) := rfl
theorem ws_s (b : List Int) (i : Nat) : ws b (i + 1) = wn b (ws b i) i := rfl
theorem ws_0 (b : List Int) : ws b 0 = z 16 := rfl
theorem ls_0 (s b : List Int) : ls s b 0 = s := rfl
theorem dnI_0 (x : Int) (ps : List Int) : dnI x ps 0 = 0 := rfl
theorem dnI_s (x : Int) (ps : List Int) (i : Nat) : dnI x ps (i + 1) = xorK .u32 (dnI x ps i) (rotI x (IntKind.i64.wrap (0 - ps.getD i 0))) := rfl
theorem gI_0 (w : List Int) : gI w 0 = 0 := rfl
theorem gI_s (w : List Int) (i : Nat) : gI w (i + 1) = IntKind.u64.wrap (IntKind.u64.wrap (256 * gI w i) + IntKind.u64.wrap (w.getD i 0)) := rfl
attribute [irreducible] ws ls dnI gI
end Go.Proofs.X
end

section
open Go Go.Ab Go.Proofs
namespace Go.Proofs.X
theorem mix : Try.prog.follows .mixedOrders = true := by kernel_rfl
theorem callable_84 : Callable Try.prog 84 := ⟨_, Try.func84, by kernel_rfl, rfl⟩
theorem callable_82 : Callable Try.prog 82 := ⟨_, Try.func82, by kernel_rfl, rfl⟩
theorem callable_81 : Callable Try.prog 81 := ⟨_, Try.func81, by kernel_rfl, rfl⟩
theorem callable_63 : Callable Try.prog 63 := ⟨_, Try.func63, by kernel_rfl, rfl⟩
theorem callable_80 : Callable Try.prog 80 := ⟨_, Try.func80, by kernel_rfl, rfl⟩
theorem callable_83 : Callable Try.prog 83 := ⟨_, Try.func83, by kernel_rfl, rfl⟩
theorem callable_78 : Callable Try.prog 78 := ⟨_, Try.func78, by kernel_rfl, rfl⟩
set_option maxRecDepth 100000 in
set_option maxHeartbeats 2000000 in
theorem rot_c (x k : Int) (H : Heap) : ACall Try.prog 84 H [.s (.int .u32 x), .s (.int .i64 k)] (.s (.int .u32 (rotI x k))) [] := by
  refine acall_free Try.func84 rfl Try.ntmps84 (by simp) rfl rfl (fun W w hW => ?_) H
  refine w_seq ?_
  refine c_reg (by kernel_rfl) rfl ?_
  refine s_p (by first | exact h_assign (v := .s _) rfl | exact h_assign (v := .agg _) rfl | exact h_assign (v := .tup _) rfl) ?_
  refine s_nil ?_
  refine n_wp ?_
  refine w_seq ?_
  refine c_reg (by kernel_rfl) rfl ?_
  refine s_p (by first | exact h_move (v := .s _) rfl | exact h_move (v := .agg _) rfl | exact h_move (v := .tup _) rfl) ?_
  refine s_p (by first | exact h_conv rfl Try.underlying3 Try.underlying71 (Go.IntWalk.i64_in _ (by omega)) | exact h_conv rfl Try.underlying3 Try.underlying71 (wrap_u8 (by omega) (by omega)) | exact h_conv rfl Try.underlying3 Try.underlying71 rfl) ?_
  refine s_p (h_bin rfl rfl (b_and rfl)) ?_
  refine s_p (by first | exact h_assign (v := .s _) rfl | exact h_assign (v := .agg _) rfl | exact h_assign (v := .tup _) rfl) ?_
  refine s_nil ?_
  refine n_wp ?_
  refine w_seq ?_
  refine c_reg (by kernel_rfl) rfl ?_
  refine s_p (by first | exact h_move (v := .s _) rfl | exact h_move (v := .agg _) rfl | exact h_move (v := .tup _) rfl) ?_
  refine s_p (by first | exact h_move (v := .s _) rfl | exact h_move (v := .agg _) rfl | exact h_move (v := .tup _) rfl) ?_
  refine s_p (h_bin rfl rfl (b_shl (rs_nonneg k) rfl)) ?_
  refine s_p (by first | exact h_move (v := .s _) rfl | exact h_move (v := .agg _) rfl | exact h_move (v := .tup _) rfl) ?_
  refine s_p (by first | exact h_move (v := .s _) rfl | exact h_move (v := .agg _) rfl | exact h_move (v := .tup _) rfl) ?_
  refine s_p (h_bin rfl rfl (b_sub rfl)) ?_
  refine s_p (h_bin rfl rfl (b_shr (wrap_u64_nonneg _) rfl)) ?_
  refine s_p (h_bin rfl rfl (b_or rfl)) ?_
  refine s_p (by first | exact h_assign (v := .s _) rfl | exact h_assign (v := .agg _) rfl | exact h_assign (v := .tup _) rfl) ?_
  refine s_nil ?_
  refine n_wp ?_
  refine w_ret ?_
  exact ⟨.inl rfl, ret_tmp Try.results84 rfl⟩


def I82 (x : Int) (B : List Int) (len cap : Nat) (n : Nat) (T : Tm) (H : Heap) : Prop := ∃ i : Nat, i ≤ len ∧ n = len - i ∧
  T = [(0, .s (.int .u32 x)), (5, .s (.int .u32 (dnI x B i))), (8, .s (.slice 0 0 0 len cap)), (9, .s (.int .i64 len)), (10, .s (.int .i64 i))] ∧ H = [some ⟨false, [.ints .i64 len B]⟩]
set_option maxRecDepth 100000 in
set_option maxHeartbeats 2000000 in
theorem down_c (x : Int) (B : List Int) (len cap : Nat) (H : Heap) (id base idx n : Nat) (bk : Blk) (l0 : List Int) (hid : H[id]? = some (some bk)) (hs0 : segAt bk.segs base = some (.ints .i64 n l0)) (hn0 : idx + len ≤ n) (hB : B = (l0.drop idx).take len) (hm : len ≤ 140737488351232)  : ACall Try.prog 82 H [.s (.int .u32 x), .s (.slice id base idx len cap)] (.s (.int .u32 (dnI x B len))) [] := by
  refine acall_gen (args0 := [.s (.int .u32 x), .s (.slice 0 0 0 len cap)]) (H0 := [some ⟨false, [.ints .i64 len B]⟩]) (vf := (fun _ => .s (.int .u32 (dnI x B len)))) [(id, base + idx)] Try.func82 rfl Try.ntmps82 (by simp) rfl (foot1 rfl hid (fun i x h => by subst hB; exact win_ints hs0 hn0 i x h) rfl) rfl (fun i x0 x h0 h1 ρ u hr => by match i, h0, h1 with | 0, h0, h1 => (simp at h0 h1; subst h0; subst h1; exact arg_free rfl hr) | 1, h0, h1 => (simp at h0 h1; subst h0; subst h1; exact arg_slice (by rfl) hr) | i + 2, h0, _ => simp at h0) rfl (ren_free rfl) (fun W w ρ0 hW hdom => ?_)
  refine w_seq ?_
  refine c_reg (by kernel_rfl) rfl ?_
  refine s_p (by first | exact h_assign (v := .s _) rfl | exact h_assign (v := .agg _) rfl | exact h_assign (v := .tup _) rfl) ?_
  refine s_nil ?_
  refine n_wp ?_
  refine w_seq ?_
  refine c_reg (by kernel_rfl) rfl ?_
  refine s_p (by first | exact h_assign (v := .s _) rfl | exact h_assign (v := .agg _) rfl | exact h_assign (v := .tup _) rfl) ?_
  refine s_nil ?_
  refine n_wp ?_
  refine w_seq ?_
  refine w_seq ?_
  refine c_reg (by kernel_rfl) rfl ?_
  refine s_p (by first | exact h_move (v := .s _) rfl | exact h_move (v := .agg _) rfl | exact h_move (v := .tup _) rfl) ?_
  refine s_p (by first | exact h_len rfl Try.underlying162 | exact h_len_nil rfl Try.underlying162 | exact h_len_val rfl Try.underlying162) ?_
  refine s_p (by first | exact h_move (v := .s _) rfl | exact h_move (v := .agg _) rfl | exact h_move (v := .tup _) rfl) ?_
  refine s_nil ?_
  refine n_wp ?_
  refine w_block ?_
  refine c_loop (I82 x B len cap) len ⟨0, by omega, rfl, by rw [dnI_0], rfl⟩ (weak' (by repeat (first | exact trivial | refine ⟨rfl, ?_⟩)) rfl rfl (Nat.le_of_ble_eq_true rfl)) ?_
  rintro n T H ⟨i, hi, rfl, rfl, rfl⟩
  refine w_seq ?_
  refine c_reg (by kernel_rfl) rfl ?_
  refine s_p (h_bin rfl rfl (b_lss rfl)) ?_
  refine s_nil ?_
  refine n_wp ?_
  refine w_seq ?_
  refine w_cond rfl (fun hc_t11 => ?_) (fun hc_t11 => ?_)
  · skip
    have hlt : i < len := by have := of_decide_eq_true hc_t11; omega
    refine w_skip ?_
    refine n_wp ?_
    refine w_seq ?_
    refine w_block ?_
    refine w_seq ?_
    refine c_reg (by kernel_rfl) rfl ?_
    refine s_p (by first | exact h_ixs0 rfl rfl Try.underlying162 Try.sizeOf3 (by omega) | exact h_ixs rfl rfl Try.underlying162 Try.sizeOf3 (by omega) | exact h_ixsx rfl rfl Try.underlying162 Try.sizeOf3 (by omega)) ?_
    refine s_p (by first | exact h_load_ints rfl rfl rfl (by omega) rfl Try.isAgg3 | exact h_load_one rfl rfl rfl Try.isAgg3) ?_
    refine s_p (by first | exact h_assign (v := .s _) rfl | exact h_assign (v := .agg _) rfl | exact h_assign (v := .tup _) rfl) ?_
    refine s_nil ?_
    refine n_wp ?_
    refine c_reg (by kernel_rfl) rfl ?_
    refine s_p (by first | exact h_move (v := .s _) rfl | exact h_move (v := .agg _) rfl | exact h_move (v := .tup _) rfl) ?_
    refine s_p (by first | exact h_move (v := .s _) rfl | exact h_move (v := .agg _) rfl | exact h_move (v := .tup _) rfl) ?_
    refine s_p (by first | exact h_move (v := .s _) rfl | exact h_move (v := .agg _) rfl | exact h_move (v := .tup _) rfl) ?_
    refine s_p (h_neg rfl rfl) ?_
    refine s_p (h_call callable_84 rfl (rot_c _ _ _)) ?_
    refine s_p (h_bin rfl rfl (b_xor rfl)) ?_
    refine s_p (by first | exact h_assign (v := .s _) rfl | exact h_assign (v := .agg _) rfl | exact h_assign (v := .tup _) rfl) ?_
    refine s_nil ?_
    refine n_blo ?_
    refine n_wp ?_
    refine c_reg (by kernel_rfl) rfl ?_
    refine s_p (by first | exact h_bin rfl rfl (b_add (Go.IntWalk.i64_in _ (by omega))) | exact h_bin rfl rfl (b_add rfl)) ?_
    refine s_p (by first | exact h_move (v := .s _) rfl | exact h_move (v := .agg _) rfl | exact h_move (v := .tup _) rfl) ?_
    refine s_nil ?_
    exact n_round (len - (i + 1)) (by omega) ⟨i + 1, by omega, rfl, by rw [dnI_s], rfl⟩ (weak' (by repeat (first | exact trivial | refine ⟨rfl, ?_⟩)) rfl rfl (Nat.le_of_ble_eq_true rfl))
  · skip
    obtain rfl : i = len := by have := of_decide_eq_false hc_t11; omega
    refine w_exit ?_
    refine x_thn ?_
    refine x_thn ?_
    refine x_eq ?_
    refine n_wp ?_
    refine w_seq ?_
    refine c_reg (by kernel_rfl) rfl ?_
    refine s_p (by first | exact h_move (v := .s _) rfl | exact h_move (v := .agg _) rfl | exact h_move (v := .tup _) rfl) ?_
    refine s_p (by first | exact h_assign (v := .s _) rfl | exact h_assign (v := .agg _) rfl | exact h_assign (v := .tup _) rfl) ?_
    refine s_nil ?_
    refine n_wp ?_
    refine w_ret ?_
    refine done0 ?_
    exact ret_tmp Try.results82 rfl

set_option maxRecDepth 100000 in
set_option maxHeartbeats 2000000 in
theorem adds_c (H : Heap) : ACall Try.prog 81 H [] (.agg [.ints .u32 64 KS]) [] := by
  refine acall_free Try.func81 rfl Try.ntmps81 (by simp) rfl rfl (fun W w hW => ?_) H
  refine w_seq ?_
  refine c_reg (by kernel_rfl) rfl ?_
  refine s_a (h_alloc (segs := [.ints .u32 64 (z 64)]) Try.zeroValue156 (by kernel_rfl) rfl) rfl ?_
  refine s_nil ?_
  refine n_wp ?_
  refine w_seq ?_
  refine c_reg (by kernel_rfl) rfl ?_
  refine s_p (h_build_ints (n := 64) (l := [(0, 1116352408), (1, 1899447441), (2, 3049323471), (3, 3921009573), (4, 961987163), (5, 1508970993), (6, 2453635748), (7, 2870763221), (8, 3624381080), (9, 310598401), (10, 607225278), (11, 1426881987), (12, 1925078388), (13, 2162078206), (14, 2614888103), (15, 3248222580), (16, 3835390401), (17, 4022224774), (18, 264347078), (19, 604807628), (20, 770255983), (21, 1249150122), (22, 1555081692), (23, 1996064986), (24, 2554220882), (25, 2821834349), (26, 2952996808), (27, 3210313671), (28, 3336571891), (29, 3584528711), (30, 113926993), (31, 338241895), (32, 666307205), (33, 773529912), (34, 1294757372), (35, 1396182291), (36, 1695183700), (37, 1986661051), (38, 2177026350), (39, 2456956037), (40, 2730485921), (41, 2820302411), (42, 3259730800), (43, 3345764771), (44, 3516065817), (45, 3600352804), (46, 4094571909), (47, 275423344), (48, 430227734), (49, 506948616), (50, 659060556), (51, 883997877), (52, 958139571), (53, 1322822218), (54, 1537002063), (55, 1747873779), (56, 1955562222), (57, 2024104815), (58, 2227730452), (59, 2361852424), (60, 2428436474), (61, 2756734187), (62, 3204031479), (63, 3329325298)]) (xs := KS) rfl (fun w => by kernel_rfl) KS_len) ?_
  refine s_st (by first | exact m_store_agg rfl rfl rfl (.whole (Nat.le_of_ble_eq_true rfl) rfl rfl) Try.sizeOf156 rfl | exact m_store_agg rfl rfl rfl (.seg (Nat.le_of_ble_eq_true rfl) rfl rfl rfl) Try.sizeOf156 rfl | exact m_store_agg rfl rfl rfl (.ints (Nat.le_of_ble_eq_true rfl) rfl (by omega)) Try.sizeOf156 rfl) ?_
  refine s_nil ?_
  refine n_wp ?_
  refine w_ret ?_
  exact ⟨.inl rfl, ret_cell_agg Try.results81 rfl rfl (.whole rfl) Try.isAgg156 Try.sizeOf156⟩

def I63 (B v : List Int) (len : Nat) (n : Nat) (T : Tm) (H : Heap) : Prop := ∃ i : Nat, i ≤ 8 ∧ n = 8 - i ∧
  T = [(4, .s (.int .u64 (gI v i))), (6, .s (.ptr 1 0 0)), (23, .s (.int .i64 i))] ∧ H = [some ⟨false, [.ints .u8 len B]⟩, some ⟨true, [.ints .u8 8 v]⟩]
set_option maxRecDepth 100000 in
set_option maxHeartbeats 2000000 in
theorem get_c (B : List Int) (m : Nat) (hm0 : 0 < m) (hm8 : m ≤ 8) (len cap : Nat) (H : Heap) (id base idx n : Nat) (bk : Blk) (l0 : List Int) (hid : H[id]? = some (some bk)) (hs0 : segAt bk.segs base = some (.ints .u8 n l0)) (hn0 : idx + len ≤ n) (hB : B = (l0.drop idx).take len) (hml : m ≤ len) (hm : len ≤ 140737488351232) (hl0 : l0.length = n) : ACall Try.prog 63 H [.s (.slice id base idx len cap), .s (.int .i64 m)] (.tup [.s (.int .u64 (getI B m)), .s (.int .i64 0)]) [] := by
  have hBl : B.length = len := by rw [hB]; simp; omega
  refine acall_gen (args0 := [.s (.slice 0 0 0 len cap), .s (.int .i64 m)]) (H0 := [some ⟨false, [.ints .u8 len B]⟩]) (vf := (fun _ => .tup [.s (.int .u64 (getI B m)), .s (.int .i64 0)])) [(id, base + idx)] Try.func63 rfl Try.ntmps63 (by simp) rfl (foot1 rfl hid (fun i x h => by subst hB; exact win_ints hs0 hn0 i x h) rfl) rfl (fun i x0 x h0 h1 ρ u hr => by match i, h0, h1 with | 0, h0, h1 => (simp at h0 h1; subst h0; subst h1; exact arg_slice (by rfl) hr) | 1, h0, h1 => (simp at h0 h1; subst h0; subst h1; exact arg_free rfl hr) | i + 2, h0, _ => simp at h0) rfl (ren_free rfl) (fun W w ρ0 hW hdom => ?_)
  refine w_seq ?_
  refine c_reg (by kernel_rfl) rfl ?_
  refine s_p (by first | exact h_assign (v := .s _) rfl | exact h_assign (v := .agg _) rfl | exact h_assign (v := .tup _) rfl) ?_
  refine s_p (by first | exact h_assign (v := .s _) rfl | exact h_assign (v := .agg _) rfl | exact h_assign (v := .tup _) rfl) ?_
  refine s_nil ?_
  refine n_wp ?_
  refine w_seq ?_
  refine w_seq ?_
  refine c_reg (by kernel_rfl) rfl ?_
  refine s_p (by first | exact h_move (v := .s _) rfl | exact h_move (v := .agg _) rfl | exact h_move (v := .tup _) rfl) ?_
  refine s_p (h_bin rfl rfl (b_lss (r := false) (decide_eq_false (by omega)))) ?_
  refine s_p (by first | exact h_move (v := .s _) rfl | exact h_move (v := .agg _) rfl | exact h_move (v := .tup _) rfl) ?_
  first | refine s_on rfl rfl (by first | rfl | assumption) (by first | exact h_move (v := .s _) rfl | exact h_move (v := .agg _) rfl | exact h_move (v := .tup _) rfl) ?_ | refine s_off rfl rfl (by first | rfl | assumption) ?_
  first | refine s_on rfl rfl (by first | rfl | assumption) (h_bin rfl rfl (b_gtr (r := false) (decide_eq_false (by omega)))) ?_ | refine s_off rfl rfl (by first | rfl | assumption) ?_
  refine s_p (by first | exact h_pick_t rfl (by first | rfl | assumption) rfl | exact h_pick_f rfl (by first | rfl | assumption) rfl) ?_
  refine s_nil ?_
  refine n_wp ?_
  refine w_cond rfl (fun hc_t13 => ?_) (fun hc_t13 => ?_)
  · exact absurd hc_t13 (by simp at hc_t13)
  refine w_skip ?_
  refine n_wp ?_
  refine w_seq ?_
  refine w_seq ?_
  refine c_reg (by kernel_rfl) rfl ?_
  refine s_p (by first | exact h_move (v := .s _) rfl | exact h_move (v := .agg _) rfl | exact h_move (v := .tup _) rfl) ?_
  refine s_p (by first | exact h_len rfl Try.underlying29 | exact h_len_nil rfl Try.underlying29 | exact h_len_val rfl Try.underlying29) ?_
  refine s_p (by first | exact h_move (v := .s _) rfl | exact h_move (v := .agg _) rfl | exact h_move (v := .tup _) rfl) ?_
  refine s_p (h_bin rfl rfl (b_lss (r := false) (decide_eq_false (by omega)))) ?_
  refine s_nil ?_
  refine n_wp ?_
  refine w_cond rfl (fun hc_t17 => ?_) (fun hc_t17 => ?_)
  · exact absurd hc_t17 (by simp at hc_t17)
  refine w_skip ?_
  refine n_wp ?_
  refine w_seq ?_
  refine c_reg (by kernel_rfl) rfl ?_
  refine s_a (h_alloc (segs := [.ints .u8 8 (z 8)]) Try.zeroValue147 (by kernel_rfl) rfl) rfl ?_
  refine s_nil ?_
  refine n_wp ?_
  refine w_seq ?_
  refine c_reg (by kernel_rfl) rfl ?_
  refine s_p (by first | exact h_move (v := .s _) rfl | exact h_move (v := .agg _) rfl | exact h_move (v := .tup _) rfl) ?_
  refine s_p (h_bin rfl rfl (b_sub (r := ((8 - m : Nat) : Int)) (wr_n (by omega) (by omega)))) ?_
  refine s_p (h_asl_l (l := 8 - m) rfl rfl rfl Try.underlying147 Try.sizeOf5 (by omega)) ?_
  refine s_p (by first | exact h_move (v := .s _) rfl | exact h_move (v := .agg _) rfl | exact h_move (v := .tup _) rfl) ?_
  refine s_m (m_copy (n := m) rfl rfl rfl rfl rfl hBl (by omega) (by omega) Try.underlying29 Try.sizeOf5 (.ints (by omega) rfl (by omega))) ?_
  refine s_nil ?_
  refine n_wp ?_
  refine w_seq ?_
  refine w_seq ?_
  generalize hv : spl (z 8) ((B.drop 0).take m) (0 + (8 - m)) m 8 = v
  refine c_reg (by kernel_rfl) rfl ?_
  refine s_p (by first | exact h_move (v := .s _) rfl | exact h_move (v := .agg _) rfl | exact h_move (v := .tup _) rfl) ?_
  refine s_nil ?_
  refine n_wp ?_
  refine w_block ?_
  refine c_loop (I63 B v len) 8 ⟨0, by omega, rfl, by rw [gI_0], rfl⟩ (weak' (by repeat (first | exact trivial | refine ⟨rfl, ?_⟩)) rfl rfl (Nat.le_of_ble_eq_true rfl)) ?_
  rintro n T H ⟨i, hi, rfl, rfl, rfl⟩
  refine w_seq ?_
  refine c_reg (by kernel_rfl) rfl ?_
  refine s_p (h_bin rfl rfl (b_lss rfl)) ?_
  refine s_nil ?_
  refine n_wp ?_
  refine w_seq ?_
  refine w_cond rfl (fun hc_t24 => ?_) (fun hc_t24 => ?_)
  · skip
    have hlt : i < 8 := by have := of_decide_eq_true hc_t24; omega
    refine w_skip ?_
    refine n_wp ?_
    refine w_seq ?_
    refine w_block ?_
    refine w_seq ?_
    refine c_reg (by kernel_rfl) rfl ?_
    refine s_p (by first | exact h_move (v := .s _) rfl | exact h_move (v := .agg _) rfl | exact h_move (v := .tup _) rfl) ?_
    refine s_p (by first | exact h_assign (v := .s _) rfl | exact h_assign (v := .agg _) rfl | exact h_assign (v := .tup _) rfl) ?_
    refine s_nil ?_
    refine n_wp ?_
    refine c_reg (by kernel_rfl) rfl ?_
    refine s_p (by first | exact h_move (v := .s _) rfl | exact h_move (v := .agg _) rfl | exact h_move (v := .tup _) rfl) ?_
    refine s_p (h_bin rfl rfl (b_mul rfl)) ?_
    refine s_p (by first | exact h_move (v := .s _) rfl | exact h_move (v := .agg _) rfl | exact h_move (v := .tup _) rfl) ?_
    refine s_p (by first | exact h_ix rfl rfl Try.underlying147 Try.sizeOf5 (by omega) | exact h_ixa rfl rfl Try.underlying147 Try.sizeOf5 (by omega) | exact h_ixl (Int.toNat _) rfl rfl (Int.toNat_of_nonneg (by omega)).symm Try.underlying147 Try.sizeOf5 (by omega)) ?_
    refine s_p (by first | exact h_load_ints rfl rfl rfl (by omega) rfl Try.isAgg5 | exact h_load_one rfl rfl rfl Try.isAgg5) ?_
    refine s_p (by first | exact h_conv rfl Try.underlying5 Try.underlying40 (Go.IntWalk.i64_in _ (by omega)) | exact h_conv rfl Try.underlying5 Try.underlying40 (wrap_u8 (by omega) (by omega)) | exact h_conv rfl Try.underlying5 Try.underlying40 rfl) ?_
    refine s_p (h_bin rfl rfl (b_add rfl)) ?_
    refine s_p (by first | exact h_assign (v := .s _) rfl | exact h_assign (v := .agg _) rfl | exact h_assign (v := .tup _) rfl) ?_
    refine s_nil ?_
    refine n_blo ?_
    refine n_wp ?_
    refine c_reg (by kernel_rfl) rfl ?_
    refine s_p (by first | exact h_bin rfl rfl (b_add (Go.IntWalk.i64_in _ (by omega))) | exact h_bin rfl rfl (b_add rfl)) ?_
    refine s_p (by first | exact h_move (v := .s _) rfl | exact h_move (v := .agg _) rfl | exact h_move (v := .tup _) rfl) ?_
    refine s_nil ?_
    exact n_round (8 - (i + 1)) (by omega) ⟨i + 1, by omega, rfl, by rw [gI_s], rfl⟩ (weak' (by repeat (first | exact trivial | refine ⟨rfl, ?_⟩)) rfl rfl (Nat.le_of_ble_eq_true rfl))
  · skip
    obtain rfl : i = 8 := by have := of_decide_eq_false hc_t24; omega
    rw [← hv]
    refine w_exit ?_
    refine x_thn ?_
    refine x_thn ?_
    refine x_eq ?_
    refine n_wp ?_
    refine w_seq ?_
    refine c_reg (by kernel_rfl) rfl ?_
    refine s_p (by first | exact h_move (v := .s _) rfl | exact h_move (v := .agg _) rfl | exact h_move (v := .tup _) rfl) ?_
    refine s_p (by first | exact h_assign (v := .s _) rfl | exact h_assign (v := .agg _) rfl | exact h_assign (v := .tup _) rfl) ?_
    refine s_p (by first | exact h_assign (v := .s _) rfl | exact h_assign (v := .agg _) rfl | exact h_assign (v := .tup _) rfl) ?_
    refine s_nil ?_
    refine n_wp ?_
    refine w_ret ?_
    refine done0 ?_
    exact ret_tmps2 Try.results63 rfl rfl

end Go.Proofs.X
end

section
open Go Go.Ab Go.Proofs
namespace Go.Proofs.X
set_option maxRecDepth 100000 in
set_option maxHeartbeats 2000000 in
theorem numbers_c (H : Heap) (id sh : Nat) (hid : id < H.length) : ACall Try.prog 80 H [.s (.ptr id (0 + sh) 0)] (.s (.clo 83 [(H.length + 1, 0 + 0, 0), (H.length + 2, 0 + 0, 0), (H.length + 0, 0 + 0, 0)])) [⟨true, [.one (.ptr id (0 + sh) 0)]⟩, ⟨true, [.ints .u32 16 (z 16)]⟩, ⟨true, [.one (.int .i64 0)]⟩] := by
  refine acall_gen2 (args0 := [.s (.ptr 0 0 0)]) (H0 := [none]) (Hf := [none, some ⟨true, [.one (.ptr 0 0 0)]⟩, some ⟨true, [.ints .u32 16 (z 16)]⟩, some ⟨true, [.one (.int .i64 0)]⟩]) (v0 := .s (.clo 83 [(2, 0, 0), (3, 0, 0), (1, 0, 0)])) [(id, sh)] [1, 2, 3] Try.func80 rfl Try.ntmps80 (by simp) rfl
    (fun k id sh b0 h1 h2 => by match k, h1, h2 with | 0, _, h2 => simp at h2 | k + 1, h1, _ => simp at h1)
    (fun W ρ vals w hH ha k id' sh' hk => by match k, hk with | 0, hk => (simp at hk; obtain ⟨rfl, rfl⟩ := hk; exact ⟨hid, live_ptr (i := 0) ha rfl⟩) | k + 1, hk => simp at hk)
    rfl rfl rfl (by decide) rfl rfl rfl (fun W w ρ0 hW hdom => ?_)
  refine w_seq ?_
  refine c_reg (by kernel_rfl) rfl ?_
  refine s_a (by first | exact h_box_agg rfl rfl | exact h_box rfl (by simp) rfl) rfl ?_
  refine s_p (by first | exact h_assign (v := .s _) rfl | exact h_assign (v := .agg _) rfl | exact h_assign (v := .tup _) rfl) ?_
  refine s_nil ?_
  refine n_wp ?_
  refine w_seq ?_
  refine c_reg (by kernel_rfl) rfl ?_
  refine s_a (h_alloc (segs := [.ints .u32 16 (z 16)]) Try.zeroValue160 (by kernel_rfl) rfl) rfl ?_
  refine s_nil ?_
  refine n_wp ?_
  refine w_seq ?_
  refine c_reg (by kernel_rfl) rfl ?_
  refine s_a (h_alloc (segs := [.one (.int .i64 0)]) Try.zeroValue3 (by kernel_rfl) rfl) rfl ?_
  refine s_st (by first | exact m_store_int rfl rfl rfl rfl (by omega) (by assumption) Try.sizeOf3 rfl | exact m_store_one rfl rfl (by simp) rfl rfl Try.sizeOf3 rfl) ?_
  refine s_nil ?_
  refine n_wp ?_
  refine w_seq ?_
  refine c_reg (by kernel_rfl) rfl ?_
  refine s_p (h_mkfunc (caps := [(2, 0, 0), (3, 0, 0), (1, 0, 0)]) rfl) ?_
  refine s_p (by first | exact h_assign (v := .s _) rfl | exact h_assign (v := .agg _) rfl | exact h_assign (v := .tup _) rfl) ?_
  refine s_nil ?_
  refine n_wp ?_
  refine w_ret ?_
  exact doneM (by repeat (first | exact trivial | refine ⟨rfl, ?_⟩)) (ret_tmp Try.results80 rfl)
set_option maxRecDepth 100000 in
set_option maxHeartbeats 2000000 in
theorem nextn_c (H : Heap) (iw it ib ix sh : Nat) (b w : List Int) (t : Nat) (bb bx : Blk) (hw : H[iw]? = some (some ⟨true, [.ints .u32 16 w]⟩)) (ht : H[it]? = some (some ⟨true, [.one (.int .i64 t)]⟩)) (hbb : H[ib]? = some (some bb)) (hbs : bb.segs = [.one (.ptr ix (0 + sh) 0)]) (hbx : H[ix]? = some (some bx)) (hxs : ∀ (i : Nat) (y : SV), atS [.ints .u8 64 b] i = some y → atS bx.segs (sh + i) = some y)
    (hwl : w.length = 16) (hb : b.length = 64) (htm : t < 1000) (hn1 : iw ≠ it) (hn2 : iw ≠ ib) (hn3 : iw ≠ ix) (hn4 : it ≠ ib) (hn5 : it ≠ ix) : AMut Try.prog 83 H [.s (.ptr iw (0 + 0) 0), .s (.ptr it (0 + 0) 0), .s (.ptr ib (0 + 0) 0)] (.s (.int .u32 ((wn b w t).getD (t % 16) 0))) ((H.set iw (some ⟨true, [.ints .u32 16 (wn b w t)]⟩)).set it (some ⟨true, [.one (.int .i64 ((t + 1 : Nat) : Int))]⟩)) := by
  refine amut_gen (args0 := [.s (.ptr 0 0 0), .s (.ptr 1 0 0), .s (.ptr 2 0 0)]) (H0 := [some ⟨true, [.ints .u32 16 w]⟩, some ⟨true, [.one (.int .i64 t)]⟩, some ⟨false, [.one (.ptr 3 0 0)]⟩, some ⟨false, [.ints .u8 64 b]⟩]) (Hf := [some ⟨true, [.ints .u32 16 (wn b w t)]⟩, some ⟨true, [.one (.int .i64 ((t + 1 : Nat) : Int))]⟩]) (v0 := .s (.int .u32 ((wn b w t).getD (t % 16) 0))) [(iw, 0), (it, 0), (ib, 0), (ix, sh)] [] Try.func83 rfl Try.ntmps83 (by simp) rfl
    (fun k id sh' b0 h1 h2 => by
      match k, h1, h2 with
      | 0, h1, h2 => simp at h1 h2; obtain ⟨rfl, rfl⟩ := h1; subst h2; exact ⟨rfl, _, hw, fun _ => ⟨rfl, rfl⟩, foot_same rfl⟩
      | 1, h1, h2 => simp at h1 h2; obtain ⟨rfl, rfl⟩ := h1; subst h2; exact ⟨rfl, _, ht, fun _ => ⟨rfl, rfl⟩, foot_same rfl⟩
      | 2, h1, h2 => simp at h1 h2; obtain ⟨rfl, rfl⟩ := h1; subst h2; exact ⟨rfl, _, hbb, fun e => (by cases e), foot_same hbs⟩
      | 3, h1, h2 => simp at h1 h2; obtain ⟨rfl, rfl⟩ := h1; subst h2; exact ⟨rfl, _, hbx, fun e => (by cases e), fun i y hy => by (have h := hxs i y hy; obtain ⟨_, rfl⟩ := atS_ints1 hy; exact h)⟩
      | k + 4, h1, _ => simp at h1)
    (fun k k' id s1 s2 b0 h1 h1' hne h2 => by
      match k, k', h1, h1', h2, hne with
      | 0, 0, _, _, _, hne => exact absurd rfl hne
      | 0, 1, h1, h1', _, _ => simp at h1 h1'; exact absurd (h1.1.trans h1'.1.symm) hn1
      | 0, 2, h1, h1', _, _ => simp at h1 h1'; exact absurd (h1.1.trans h1'.1.symm) hn2
      | 0, 3, h1, h1', _, _ => simp at h1 h1'; exact absurd (h1.1.trans h1'.1.symm) hn3
      | 1, 0, h1, h1', _, _ => simp at h1 h1'; exact absurd (h1'.1.trans h1.1.symm) hn1
      | 1, 1, _, _, _, hne => exact absurd rfl hne
      | 1, 2, h1, h1', _, _ => simp at h1 h1'; exact absurd (h1.1.trans h1'.1.symm) hn4
      | 1, 3, h1, h1', _, _ => simp at h1 h1'; exact absurd (h1.1.trans h1'.1.symm) hn5
      | 2, _, _, _, h2, _ => simp at h2; subst h2; rfl
      | 3, _, _, _, h2, _ => simp at h2; subst h2; rfl
      | 0, k + 4, _, h1', _, _ => simp at h1'
      | 1, k + 4, _, h1', _, _ => simp at h1'
      | k + 4, _, h1, _, _, _ => simp at h1)
    (fun W ρ vals w hH ha k id' sh' hk => by
      match k, hk with
      | 0, hk => simp at hk; obtain ⟨rfl, rfl⟩ := hk; exact live_ptr (i := 0) ha rfl
      | 1, hk => simp at hk; obtain ⟨rfl, rfl⟩ := hk; exact live_ptr (i := 1) ha rfl
      | 2, hk => simp at hk; obtain ⟨rfl, rfl⟩ := hk; exact live_ptr (i := 2) ha rfl
      | 3, hk => simp at hk; obtain ⟨rfl, rfl⟩ := hk; exact live_in (p := 0) hH (live_ptr (i := 2) ha rfl) hbb (by rw [hbs]; rfl)
      | k + 4, hk => simp at hk)
    rfl rfl rfl (by decide) rfl rfl (by rw [show newH [(iw, 0), (it, 0), (ib, 0), (ix, sh)] [] H.length _ = [] from rfl, List.append_nil]; rfl) (fun W w' ρ0 hW hdom => ?_)
  refine w_seq ?_
  refine c_reg (by kernel_rfl) rfl ?_
  refine s_p (by first | exact h_assign (v := .s _) rfl | exact h_assign (v := .agg _) rfl | exact h_assign (v := .tup _) rfl) ?_
  refine s_nil ?_
  refine n_wp ?_
  refine w_seq ?_
  refine c_reg (by kernel_rfl) rfl ?_
  refine s_p (by first | exact h_load_ints rfl rfl rfl (by omega) rfl Try.isAgg3 | exact h_load_one rfl rfl rfl Try.isAgg3) ?_
  refine s_p (h_bin rfl rfl (b_rem (r := ((t % 16 : Nat) : Int)) (by omega) rfl)) ?_
  refine s_p (by first | exact h_ix rfl rfl Try.underlying160 Try.sizeOf61 (by omega) | exact h_ixa rfl rfl Try.underlying160 Try.sizeOf61 (by omega) | exact h_ixl (Int.toNat _) rfl rfl (Int.toNat_of_nonneg (by omega)).symm Try.underlying160 Try.sizeOf61 (by omega)) ?_
  refine s_p (by first | exact h_assign (v := .s _) rfl | exact h_assign (v := .agg _) rfl | exact h_assign (v := .tup _) rfl) ?_
  refine s_nil ?_
  refine n_wp ?_
  refine w_seq ?_
  refine w_seq ?_
  refine c_reg (by kernel_rfl) rfl ?_
  refine s_p (by first | exact h_load_ints rfl rfl rfl (by omega) rfl Try.isAgg3 | exact h_load_one rfl rfl rfl Try.isAgg3) ?_
  refine s_p (h_bin rfl rfl (b_lss rfl)) ?_
  refine s_nil ?_
  refine n_wp ?_
  refine w_cond rfl (fun hc_t13 => ?_) (fun hc_t13 => ?_)
  · skip
    have hlt : t < 16 := by have := of_decide_eq_true hc_t13; omega
    have hwn := wn_lt b w hlt
    refine w_seq ?_
    refine c_any 11 mix (by kernel_rfl) (by kernel_rfl) rfl rfl rfl ?_
    refine t_p (by first | exact h_load_ints rfl rfl rfl (by omega) rfl Try.isAgg153 | exact h_load_one rfl rfl rfl Try.isAgg153) ?_
    refine t_p (h_nilCheck rfl) ?_
    refine t_p (h_field rfl Try.underlying140 rfl Try.sizeOf112 (by decide)) ?_
    refine t_p (by first | exact h_load_ints rfl rfl rfl (by omega) rfl Try.isAgg3 | exact h_load_one rfl rfl rfl Try.isAgg3) ?_
    refine t_p (h_bin rfl rfl (b_mul (r := ((4 * t : Nat) : Int)) (wr_n (by omega) (by omega)))) ?_
    refine t_p (h_asl_l (l := 4 * t) rfl rfl rfl Try.underlying112 Try.sizeOf5 (by omega)) ?_
    refine t_p (h_call callable_63 rfl (get_c ((b.drop (0 + 4 * t)).take (64 - 4 * t)) 4 (by omega) (by omega) (64 - 4 * t) (64 - 4 * t) _ 3 0 (0 + 4 * t) 64 _ b rfl rfl (by omega) rfl (by omega) (by omega) hb)) ?_
    refine t_p (by first | exact h_move (v := .s _) rfl | exact h_move (v := .agg _) rfl | exact h_move (v := .tup _) rfl) ?_
    refine t_p (h_extract rfl rfl (by simp)) ?_
    refine t_p (h_extract rfl rfl (by simp)) ?_
    refine t_p (by first | exact h_assign (v := .s _) rfl | exact h_assign (v := .agg _) rfl | exact h_assign (v := .tup _) rfl) ?_
    refine t_nil ?_
    refine s_p (by first | exact h_assign (v := .s _) rfl | exact h_assign (v := .agg _) rfl | exact h_assign (v := .tup _) rfl) ?_
    refine s_nil ?_
    refine n_wp ?_
    refine c_reg (by kernel_rfl) rfl ?_
    refine s_p (by first | exact h_move (v := .s _) rfl | exact h_move (v := .agg _) rfl | exact h_move (v := .tup _) rfl) ?_
    refine s_p (by first | exact h_move (v := .s _) rfl | exact h_move (v := .agg _) rfl | exact h_move (v := .tup _) rfl) ?_
    refine s_p (by first | exact h_conv rfl Try.underlying40 Try.underlying61 (Go.IntWalk.i64_in _ (by omega)) | exact h_conv rfl Try.underlying40 Try.underlying61 (wrap_u8 (by omega) (by omega)) | exact h_conv rfl Try.underlying40 Try.underlying61 rfl) ?_
    refine s_p (h_nilCheck rfl) ?_
    refine s_st (by first | exact m_store_int rfl rfl rfl rfl (by omega) (by (first | assumption | (simp only [List.length_set]; assumption))) Try.sizeOf61 rfl | exact m_store_one rfl rfl (by simp) rfl rfl Try.sizeOf61 rfl) ?_
    refine s_nil ?_
    refine n_wp ?_
    refine w_seq ?_
    refine c_reg (by kernel_rfl) rfl ?_
    refine s_p (by first | exact h_load_ints rfl rfl rfl (by omega) rfl Try.isAgg3 | exact h_load_one rfl rfl rfl Try.isAgg3) ?_
    refine s_p (h_bin rfl rfl (b_add (r := ((t + 1 : Nat) : Int)) (wr_n (by omega) (by omega)))) ?_
    refine s_st (by first | exact m_store_int rfl rfl rfl rfl (by omega) (by (first | assumption | (simp only [List.length_set]; assumption))) Try.sizeOf3 rfl | exact m_store_one rfl rfl (by simp) rfl rfl Try.sizeOf3 rfl) ?_
    refine s_nil ?_
    refine n_wp ?_
    refine w_seq ?_
    refine c_reg (by kernel_rfl) rfl ?_
    refine s_p (by first | exact h_move (v := .s _) rfl | exact h_move (v := .agg _) rfl | exact h_move (v := .tup _) rfl) ?_
    refine s_p (h_nilCheck rfl) ?_
    refine s_p (by first | exact h_load_ints rfl rfl rfl (by omega) rfl Try.isAgg61 | exact h_load_one rfl rfl rfl Try.isAgg61) ?_
    refine s_p (by first | exact h_assign (v := .s _) rfl | exact h_assign (v := .agg _) rfl | exact h_assign (v := .tup _) rfl) ?_
    refine s_nil ?_
    refine n_wp ?_
    refine w_ret ?_
    rw [hwn]
    exact doneM (by repeat (first | exact trivial | refine ⟨rfl, ?_⟩)) (ret_tmp Try.results83 rfl)
  · skip
    have hge : ¬ t < 16 := by have := of_decide_eq_false hc_t13; omega
    have hwn := wn_ge b w hge
    unfold wn3 wn2 wn1 at hwn
    refine w_seq ?_
    refine c_any 11 mix (by kernel_rfl) (by kernel_rfl) rfl rfl rfl ?_
    refine t_p (by first | exact h_load_ints rfl rfl rfl (by omega) rfl Try.isAgg3 | exact h_load_one rfl rfl rfl Try.isAgg3) ?_
    refine t_p (h_bin rfl rfl (b_add (r := ((t + 1 : Nat) : Int)) (wr_n (by omega) (by omega)))) ?_
    refine t_p (h_bin rfl rfl (b_rem (r := (((t + 1) % 16 : Nat) : Int)) (by omega) rfl)) ?_
    refine t_p (by first | exact h_ix rfl rfl Try.underlying160 Try.sizeOf61 (by omega) | exact h_ixa rfl rfl Try.underlying160 Try.sizeOf61 (by omega) | exact h_ixl (Int.toNat _) rfl rfl (Int.toNat_of_nonneg (by omega)).symm Try.underlying160 Try.sizeOf61 (by omega)) ?_
    refine t_p (by first | exact h_load_ints rfl rfl rfl (by omega) rfl Try.isAgg61 | exact h_load_one rfl rfl rfl Try.isAgg61) ?_
    refine t_p (by first | exact h_load_ints rfl rfl rfl (by omega) rfl Try.isAgg3 | exact h_load_one rfl rfl rfl Try.isAgg3) ?_
    refine t_p (h_bin rfl rfl (b_add (r := ((t + 14 : Nat) : Int)) (wr_n (by omega) (by omega)))) ?_
    refine t_p (h_bin rfl rfl (b_rem (r := (((t + 14) % 16 : Nat) : Int)) (by omega) rfl)) ?_
    refine t_p (by first | exact h_ix rfl rfl Try.underlying160 Try.sizeOf61 (by omega) | exact h_ixa rfl rfl Try.underlying160 Try.sizeOf61 (by omega) | exact h_ixl (Int.toNat _) rfl rfl (Int.toNat_of_nonneg (by omega)).symm Try.underlying160 Try.sizeOf61 (by omega)) ?_
    refine t_p (by first | exact h_load_ints rfl rfl rfl (by omega) rfl Try.isAgg61 | exact h_load_one rfl rfl rfl Try.isAgg61) ?_
    refine t_p (by first | exact h_assign (v := .s _) rfl | exact h_assign (v := .agg _) rfl | exact h_assign (v := .tup _) rfl) ?_
    refine t_nil ?_
    refine s_p (by first | exact h_assign (v := .s _) rfl | exact h_assign (v := .agg _) rfl | exact h_assign (v := .tup _) rfl) ?_
    refine s_nil ?_
    refine n_wp ?_
    refine w_seq ?_
    refine c_any 9 mix (by kernel_rfl) (by kernel_rfl) rfl rfl rfl ?_
    refine t_p (by first | exact h_move (v := .s _) rfl | exact h_move (v := .agg _) rfl | exact h_move (v := .tup _) rfl) ?_
    refine t_p (h_nilCheck rfl) ?_
    refine t_p (by first | exact h_load_ints rfl rfl rfl (by omega) rfl Try.isAgg61 | exact h_load_one rfl rfl rfl Try.isAgg61) ?_
    refine t_p (by first | exact h_move (v := .s _) rfl | exact h_move (v := .agg _) rfl | exact h_move (v := .tup _) rfl) ?_
    refine t_a (h_bsli2 rfl rfl Try.underlying162 Try.sizeOf3 Try.zeroValue3 rfl rfl) rfl ?_
    refine t_p (h_call callable_82 rfl (down_c _ [7, 18] 2 2 _ 4 0 0 2 _ [7, 18] rfl rfl (by omega) rfl (by omega))) ?_
    refine t_p (by first | exact h_move (v := .s _) rfl | exact h_move (v := .agg _) rfl | exact h_move (v := .tup _) rfl) ?_
    refine t_p (h_bin rfl rfl (b_shr (by omega) rfl)) ?_
    refine t_p (h_bin rfl rfl (b_xor rfl)) ?_
    refine t_nil ?_
    refine s_p (h_bin rfl rfl (b_add rfl)) ?_
    refine s_p (h_nilCheck rfl) ?_
    refine s_st (by first | exact m_store_int rfl rfl rfl rfl (by omega) (by (first | assumption | (simp only [List.length_set]; assumption))) Try.sizeOf61 rfl | exact m_store_one rfl rfl (by simp) rfl rfl Try.sizeOf61 rfl) ?_
    refine s_nil ?_
    refine n_wp ?_
    refine w_seq ?_
    refine c_any 9 mix (by kernel_rfl) (by kernel_rfl) rfl rfl rfl ?_
    refine t_p (by first | exact h_move (v := .s _) rfl | exact h_move (v := .agg _) rfl | exact h_move (v := .tup _) rfl) ?_
    refine t_p (h_nilCheck rfl) ?_
    refine t_p (by first | exact h_load_ints rfl rfl rfl (by omega) rfl Try.isAgg61 | exact h_load_one rfl rfl rfl Try.isAgg61) ?_
    refine t_p (by first | exact h_move (v := .s _) rfl | exact h_move (v := .agg _) rfl | exact h_move (v := .tup _) rfl) ?_
    refine t_a (h_bsli2 rfl rfl Try.underlying162 Try.sizeOf3 Try.zeroValue3 rfl rfl) rfl ?_
    refine t_p (h_call callable_82 rfl (down_c _ [17, 19] 2 2 _ 5 0 0 2 _ [17, 19] rfl rfl (by omega) rfl (by omega))) ?_
    refine t_p (by first | exact h_move (v := .s _) rfl | exact h_move (v := .agg _) rfl | exact h_move (v := .tup _) rfl) ?_
    refine t_p (h_bin rfl rfl (b_shr (by omega) rfl)) ?_
    refine t_p (h_bin rfl rfl (b_xor rfl)) ?_
    refine t_nil ?_
    refine s_p (h_bin rfl rfl (b_add rfl)) ?_
    refine s_p (h_nilCheck rfl) ?_
    refine s_st (by first | exact m_store_int rfl rfl rfl rfl (by omega) (by (first | assumption | (simp only [List.length_set]; assumption))) Try.sizeOf61 rfl | exact m_store_one rfl rfl (by simp) rfl rfl Try.sizeOf61 rfl) ?_
    refine s_nil ?_
    refine n_wp ?_
    refine c_any 8 mix (by kernel_rfl) (by kernel_rfl) rfl rfl rfl ?_
    refine t_p (by first | exact h_move (v := .s _) rfl | exact h_move (v := .agg _) rfl | exact h_move (v := .tup _) rfl) ?_
    refine t_p (h_nilCheck rfl) ?_
    refine t_p (by first | exact h_load_ints rfl rfl rfl (by omega) rfl Try.isAgg61 | exact h_load_one rfl rfl rfl Try.isAgg61) ?_
    refine t_p (by first | exact h_load_ints rfl rfl rfl (by omega) rfl Try.isAgg3 | exact h_load_one rfl rfl rfl Try.isAgg3) ?_
    refine t_p (h_bin rfl rfl (b_add (r := ((t + 9 : Nat) : Int)) (wr_n (by omega) (by omega)))) ?_
    refine t_p (h_bin rfl rfl (b_rem (r := (((t + 9) % 16 : Nat) : Int)) (by omega) rfl)) ?_
    refine t_p (by first | exact h_ix rfl rfl Try.underlying160 Try.sizeOf61 (by omega) | exact h_ixa rfl rfl Try.underlying160 Try.sizeOf61 (by omega) | exact h_ixl (Int.toNat _) rfl rfl (Int.toNat_of_nonneg (by omega)).symm Try.underlying160 Try.sizeOf61 (by omega)) ?_
    refine t_p (by first | exact h_load_ints rfl rfl rfl (by omega) rfl Try.isAgg61 | exact h_load_one rfl rfl rfl Try.isAgg61) ?_
    refine t_nil ?_
    refine s_p (h_bin rfl rfl (b_add rfl)) ?_
    refine s_p (h_nilCheck rfl) ?_
    refine s_st (by first | exact m_store_int rfl rfl rfl rfl (by omega) (by (first | assumption | (simp only [List.length_set]; assumption))) Try.sizeOf61 rfl | exact m_store_one rfl rfl (by simp) rfl rfl Try.sizeOf61 rfl) ?_
    refine s_nil ?_
    refine n_wp ?_
    refine w_seq ?_
    refine c_reg (by kernel_rfl) rfl ?_
    refine s_p (by first | exact h_load_ints rfl rfl rfl (by omega) rfl Try.isAgg3 | exact h_load_one rfl rfl rfl Try.isAgg3) ?_
    refine s_p (h_bin rfl rfl (b_add (r := ((t + 1 : Nat) : Int)) (wr_n (by omega) (by omega)))) ?_
    refine s_st (by first | exact m_store_int rfl rfl rfl rfl (by omega) (by (first | assumption | (simp only [List.length_set]; assumption))) Try.sizeOf3 rfl | exact m_store_one rfl rfl (by simp) rfl rfl Try.sizeOf3 rfl) ?_
    refine s_nil ?_
    refine n_wp ?_
    refine w_seq ?_
    refine c_reg (by kernel_rfl) rfl ?_
    refine s_p (by first | exact h_move (v := .s _) rfl | exact h_move (v := .agg _) rfl | exact h_move (v := .tup _) rfl) ?_
    refine s_p (h_nilCheck rfl) ?_
    refine s_p (by first | exact h_load_ints rfl rfl rfl (by omega) rfl Try.isAgg61 | exact h_load_one rfl rfl rfl Try.isAgg61) ?_
    refine s_p (by first | exact h_assign (v := .s _) rfl | exact h_assign (v := .agg _) rfl | exact h_assign (v := .tup _) rfl) ?_
    refine s_nil ?_
    refine n_wp ?_
    refine w_ret ?_
    rw [hwn]
    exact doneM (by repeat (first | exact trivial | refine ⟨rfl, ?_⟩)) (ret_tmp Try.results83 rfl)
end Go.Proofs.X
end

section
open Go Go.Ab Go.Proofs
namespace Go.Proofs.X
def I78 (s b : List Int) (n : Nat) (T : Tm) (H : Heap) : Prop := ∃ i : Nat, i ≤ 64 ∧ n = 64 - i ∧
  T = [(2, .s (.ptr 1 0 0)), (4, .s (.ptr 2 0 0)), (5, .s (.ptr 6 0 0)), (6, .s (.clo 83 [(4, 0, 0), (5, 0, 0), (3, 0, 0)])), (16, .agg [.ints .u32 64 KS]), (17, .s (.int .i64 i))] ∧
  H = [some ⟨false, [.ints .u8 64 b]⟩, some ⟨true, [.ints .u32 8 s]⟩, some ⟨true, [.ints .u32 8 (z 8)]⟩, some ⟨true, [.one (.ptr 0 0 0)]⟩, some ⟨true, [.ints .u32 16 (ws b i)]⟩, some ⟨true, [.one (.int .i64 i)]⟩, some ⟨true, [.ints .u32 8 (ls s b i)]⟩]
def I78b (s b l : List Int) (n : Nat) (T : Tm) (H : Heap) : Prop := ∃ i : Nat, i ≤ 8 ∧ n = 8 - i ∧
  T = [(4, .s (.ptr 2 0 0)), (5, .s (.ptr 6 0 0)), (77, .agg [.ints .u32 8 s]), (78, .s (.int .i64 i))] ∧
  H = [some ⟨false, [.ints .u8 64 b]⟩, some ⟨true, [.ints .u32 8 s]⟩, some ⟨true, [.ints .u32 8 (z 8)]⟩, some ⟨true, [.one (.ptr 0 0 0)]⟩, some ⟨true, [.ints .u32 16 (ws b 64)]⟩, some ⟨true, [.one (.int .i64 ((64 : Nat) : Int))]⟩, some ⟨true, [.ints .u32 8 (fin s l i)]⟩]
set_option maxRecDepth 100000 in
set_option maxHeartbeats 2000000 in
theorem after_c (s b : List Int) (hs : s.length = 8) (hb : b.length = 64) (H : Heap) (id base : Nat) (bk : Blk) (hid : H[id]? = some (some bk)) (hs0 : segAt bk.segs base = some (.ints .u8 64 b)) : ACall Try.prog 78 H [.agg [.ints .u32 8 s], .s (.ptr id base 0)] (.agg [.ints .u32 8 (aft s b)]) [] := by
  refine acall_gen (args0 := [.agg [.ints .u32 8 s], .s (.ptr 0 0 0)]) (H0 := [some ⟨false, [.ints .u8 64 b]⟩]) (vf := (fun _ => .agg [.ints .u32 8 (aft s b)])) [(id, base + 0)] Try.func78 rfl Try.ntmps78 (by simp) rfl (foot1 rfl hid (fun i x h => win_ints (idx := 0) (n := 64) hs0 (by omega) i x (by rw [List.drop_zero, List.take_of_length_le (by omega)]; exact h)) rfl) rfl (fun i x0 x h0 h1 ρ u hr => by match i, h0, h1 with | 0, h0, h1 => (simp at h0 h1; subst h0; subst h1; exact arg_free rfl hr) | 1, h0, h1 => (simp at h0 h1; subst h0; subst h1; exact arg_ptr (by rfl) hr) | i + 2, h0, _ => simp at h0) rfl (ren_free rfl) (fun W w ρ0 hW hdom => ?_)
  refine w_seq ?_
  refine c_reg (by kernel_rfl) rfl ?_
  refine s_a (by first | exact h_box_agg rfl rfl | exact h_box rfl (by simp) rfl) rfl ?_
  refine s_a (h_alloc (segs := [.ints .u32 8 (z 8)]) Try.zeroValue138 (by kernel_rfl) rfl) rfl ?_
  refine s_nil ?_
  refine n_wp ?_
  refine w_seq ?_
  refine c_any 4 mix (by kernel_rfl) (by kernel_rfl) rfl rfl rfl ?_
  refine t_p (by first | exact h_load_agg rfl rfl (.whole rfl) Try.isAgg138 Try.sizeOf138 | exact h_load_agg rfl rfl (.seg rfl rfl) Try.isAgg138 Try.sizeOf138 | exact h_load_agg rfl rfl (.ints rfl (by omega)) Try.isAgg138 Try.sizeOf138) ?_
  refine t_p (by first | exact h_move (v := .s _) rfl | exact h_move (v := .agg _) rfl | exact h_move (v := .tup _) rfl) ?_
  refine t_nb (h_call callable_80 rfl (numbers_c _ 0 0 (Nat.zero_lt_succ _))) rfl ?_
  refine t_a (h_alloc (segs := [.ints .u32 8 (z 8)]) Try.zeroValue138 (by kernel_rfl) rfl) rfl ?_
  refine t_nil ?_
  refine s_st (by first | exact m_store_agg rfl rfl rfl (.whole (Nat.le_of_ble_eq_true rfl) rfl rfl) Try.sizeOf138 rfl | exact m_store_agg rfl rfl rfl (.seg (Nat.le_of_ble_eq_true rfl) rfl rfl rfl) Try.sizeOf138 rfl | exact m_store_agg rfl rfl rfl (.ints (Nat.le_of_ble_eq_true rfl) rfl (by omega)) Try.sizeOf138 rfl) ?_
  refine s_p (by first | exact h_assign (v := .s _) rfl | exact h_assign (v := .agg _) rfl | exact h_assign (v := .tup _) rfl) ?_
  refine s_nil ?_
  refine n_wp ?_
  refine w_seq ?_
  refine w_seq ?_
  refine c_reg (by kernel_rfl) rfl ?_
  refine s_p (h_call callable_81 rfl (adds_c _)) ?_
  refine s_p (by first | exact h_move (v := .s _) rfl | exact h_move (v := .agg _) rfl | exact h_move (v := .tup _) rfl) ?_
  refine s_nil ?_
  refine n_wp ?_
  refine w_block ?_
  refine c_loop (I78 s b) 64 ⟨0, by omega, rfl, rfl, by rw [ws_0, ls_0] <;> rfl⟩ (weak' (by repeat (first | exact trivial | refine ⟨rfl, ?_⟩)) rfl rfl (Nat.le_of_ble_eq_true rfl)) ?_
  rintro n T H ⟨i, hi, rfl, rfl, rfl⟩
  refine w_seq ?_
  refine c_reg (by kernel_rfl) rfl ?_
  refine s_p (h_bin rfl rfl (b_lss rfl)) ?_
  refine s_nil ?_
  refine n_wp ?_
  refine w_seq ?_
  refine w_cond rfl (fun hc_t18 => ?_) (fun hc_t18 => ?_)
  · skip
    have hlt : i < 64 := by have := of_decide_eq_true hc_t18; omega
    have hwl := ws_len b i
    have hll := ls_len s b hs i
    have hls := ls_s s b i
    have hws := ws_s b i
    generalize ws b i = w at *
    generalize ls s b i = l at *
    refine w_skip ?_
    refine n_wp ?_
    refine w_seq ?_
    refine w_block ?_
    refine w_seq ?_
    refine c_reg (by kernel_rfl) rfl ?_
    refine s_p (h_index_ints rfl rfl Try.underlying156 Try.sizeOf61 Try.isAgg61 (by omega)) ?_
    refine s_p (by first | exact h_assign (v := .s _) rfl | exact h_assign (v := .agg _) rfl | exact h_assign (v := .tup _) rfl) ?_
    refine s_nil ?_
    refine n_wp ?_
    refine w_seq ?_
    refine c_anyM 24 23 [(4, ⟨true, [.ints .u32 16 (wn b w i)]⟩), (5, ⟨true, [.one (.int .i64 ((i + 1 : Nat) : Int))]⟩)] mix (by kernel_rfl) (by kernel_rfl) rfl rfl rfl rfl rfl rfl rfl rfl rfl rfl rfl rfl ?_
    refine g_p (h_ixl 7 rfl rfl rfl Try.underlying138 Try.sizeOf61 (by omega)) ?_
    refine g_p (by first | exact h_load_ints rfl rfl rfl (by omega) rfl Try.isAgg61 | exact h_load_one rfl rfl rfl Try.isAgg61) ?_
    refine g_p (h_ixl 4 rfl rfl rfl Try.underlying138 Try.sizeOf61 (by omega)) ?_
    refine g_p (by first | exact h_load_ints rfl rfl rfl (by omega) rfl Try.isAgg61 | exact h_load_one rfl rfl rfl Try.isAgg61) ?_
    refine g_a (h_bsli3 rfl rfl rfl Try.underlying162 Try.sizeOf3 Try.zeroValue3 rfl rfl) rfl ?_
    refine g_p (h_call callable_82 rfl (down_c _ [6, 11, 25] 3 3 _ 7 0 0 3 _ [6, 11, 25] rfl rfl (by omega) rfl (by omega))) ?_
    refine g_p (h_bin rfl rfl (b_add rfl)) ?_
    refine g_p (h_ixl 4 rfl rfl rfl Try.underlying138 Try.sizeOf61 (by omega)) ?_
    refine g_p (by first | exact h_load_ints rfl rfl rfl (by omega) rfl Try.isAgg61 | exact h_load_one rfl rfl rfl Try.isAgg61) ?_
    refine g_p (h_ixl 5 rfl rfl rfl Try.underlying138 Try.sizeOf61 (by omega)) ?_
    refine g_p (by first | exact h_load_ints rfl rfl rfl (by omega) rfl Try.isAgg61 | exact h_load_one rfl rfl rfl Try.isAgg61) ?_
    refine g_p (h_bin rfl rfl (b_and rfl)) ?_
    refine g_p (h_ixl 4 rfl rfl rfl Try.underlying138 Try.sizeOf61 (by omega)) ?_
    refine g_p (by first | exact h_load_ints rfl rfl rfl (by omega) rfl Try.isAgg61 | exact h_load_one rfl rfl rfl Try.isAgg61) ?_
    refine g_p (h_com rfl rfl) ?_
    refine g_p (h_ixl 6 rfl rfl rfl Try.underlying138 Try.sizeOf61 (by omega)) ?_
    refine g_p (by first | exact h_load_ints rfl rfl rfl (by omega) rfl Try.isAgg61 | exact h_load_one rfl rfl rfl Try.isAgg61) ?_
    refine g_p (h_bin rfl rfl (b_and rfl)) ?_
    refine g_p (h_bin rfl rfl (b_or rfl)) ?_
    refine g_p (h_bin rfl rfl (b_add rfl)) ?_
    refine g_p (by first | exact h_move (v := .s _) rfl | exact h_move (v := .agg _) rfl | exact h_move (v := .tup _) rfl) ?_
    refine g_p (h_bin rfl rfl (b_add rfl)) ?_
    refine g_p (by first | exact h_move (v := .s _) rfl | exact h_move (v := .agg _) rfl | exact h_move (v := .tup _) rfl) ?_
    refine g_nil ?_
    refine ⟨.s (.int .u32 ((wn b w i).getD (i % 16) 0)), rfl, rfl, (m_callc callable_83 rfl rfl (nextn_c _ 4 5 3 0 0 b w i _ _ rfl rfl rfl rfl rfl (fun i y h => by rw [Nat.zero_add]; exact h) hwl hb (by omega) (by decide) (by decide) (by decide) (by decide) (by decide))), ?_⟩
    refine g_nil ?_
    refine s_p (h_bin rfl rfl (b_add rfl)) ?_
    refine s_p (by first | exact h_assign (v := .s _) rfl | exact h_assign (v := .agg _) rfl | exact h_assign (v := .tup _) rfl) ?_
    refine s_nil ?_
    refine n_wp ?_
    refine w_seq ?_
    refine c_any 18 mix (by kernel_rfl) (by kernel_rfl) rfl rfl rfl ?_
    refine t_p (h_ixl 0 rfl rfl rfl Try.underlying138 Try.sizeOf61 (by omega)) ?_
    refine t_p (by first | exact h_load_ints rfl rfl rfl (by omega) rfl Try.isAgg61 | exact h_load_one rfl rfl rfl Try.isAgg61) ?_
    refine t_a (h_bsli3 rfl rfl rfl Try.underlying162 Try.sizeOf3 Try.zeroValue3 rfl rfl) rfl ?_
    refine t_p (h_call callable_82 rfl (down_c _ [2, 13, 22] 3 3 _ 8 0 0 3 _ [2, 13, 22] rfl rfl (by omega) rfl (by omega))) ?_
    refine t_p (h_ixl 0 rfl rfl rfl Try.underlying138 Try.sizeOf61 (by omega)) ?_
    refine t_p (by first | exact h_load_ints rfl rfl rfl (by omega) rfl Try.isAgg61 | exact h_load_one rfl rfl rfl Try.isAgg61) ?_
    refine t_p (h_ixl 1 rfl rfl rfl Try.underlying138 Try.sizeOf61 (by omega)) ?_
    refine t_p (by first | exact h_load_ints rfl rfl rfl (by omega) rfl Try.isAgg61 | exact h_load_one rfl rfl rfl Try.isAgg61) ?_
    refine t_p (h_ixl 2 rfl rfl rfl Try.underlying138 Try.sizeOf61 (by omega)) ?_
    refine t_p (by first | exact h_load_ints rfl rfl rfl (by omega) rfl Try.isAgg61 | exact h_load_one rfl rfl rfl Try.isAgg61) ?_
    refine t_p (h_bin rfl rfl (b_xor rfl)) ?_
    refine t_p (h_bin rfl rfl (b_and rfl)) ?_
    refine t_p (h_ixl 1 rfl rfl rfl Try.underlying138 Try.sizeOf61 (by omega)) ?_
    refine t_p (by first | exact h_load_ints rfl rfl rfl (by omega) rfl Try.isAgg61 | exact h_load_one rfl rfl rfl Try.isAgg61) ?_
    refine t_p (h_ixl 2 rfl rfl rfl Try.underlying138 Try.sizeOf61 (by omega)) ?_
    refine t_p (by first | exact h_load_ints rfl rfl rfl (by omega) rfl Try.isAgg61 | exact h_load_one rfl rfl rfl Try.isAgg61) ?_
    refine t_p (h_bin rfl rfl (b_and rfl)) ?_
    refine t_p (h_bin rfl rfl (b_xor rfl)) ?_
    refine t_nil ?_
    refine s_p (h_bin rfl rfl (b_add rfl)) ?_
    refine s_p (by first | exact h_assign (v := .s _) rfl | exact h_assign (v := .agg _) rfl | exact h_assign (v := .tup _) rfl) ?_
    refine s_nil ?_
    refine n_wp ?_
    refine w_seq ?_
    refine c_any 2 mix (by kernel_rfl) (by kernel_rfl) rfl rfl rfl ?_
    refine t_p (h_asl_l (l := 1) rfl rfl rfl Try.underlying138 Try.sizeOf61 (by omega)) ?_
    refine t_p (h_asl_h (h := 7) rfl rfl rfl Try.underlying138 Try.sizeOf61 (by omega) (by omega)) ?_
    refine t_nil ?_
    refine s_m (m_copy (n := 7) rfl rfl rfl rfl rfl hll (by omega) (by omega) Try.underlying159 Try.sizeOf61 (.ints (by omega) rfl (by omega))) ?_
    refine s_nil ?_
    refine n_wp ?_
    refine w_seq ?_
    refine c_reg (by kernel_rfl) rfl ?_
    refine s_p (h_ixl 4 rfl rfl rfl Try.underlying138 Try.sizeOf61 (by omega)) ?_
    refine s_p (by first | exact h_load_ints rfl rfl rfl (by omega) rfl Try.isAgg61 | exact h_load_one rfl rfl rfl Try.isAgg61) ?_
    refine s_p (by first | exact h_move (v := .s _) rfl | exact h_move (v := .agg _) rfl | exact h_move (v := .tup _) rfl) ?_
    refine s_p (h_bin rfl rfl (b_add rfl)) ?_
    refine s_p (h_ixl 4 rfl rfl rfl Try.underlying138 Try.sizeOf61 (by omega)) ?_
    refine s_st (by first | exact m_store_int rfl rfl rfl rfl (by omega) (by (first | assumption | exact spl_len _ _ _ _ _ | (simp only [List.length_set]; first | assumption | exact spl_len _ _ _ _ _) | (rw [fin_len]; assumption))) Try.sizeOf61 rfl | exact m_store_one rfl rfl (by simp) rfl rfl Try.sizeOf61 rfl) ?_
    refine s_nil ?_
    refine n_wp ?_
    refine c_reg (by kernel_rfl) rfl ?_
    refine s_p (by first | exact h_move (v := .s _) rfl | exact h_move (v := .agg _) rfl | exact h_move (v := .tup _) rfl) ?_
    refine s_p (by first | exact h_move (v := .s _) rfl | exact h_move (v := .agg _) rfl | exact h_move (v := .tup _) rfl) ?_
    refine s_p (h_bin rfl rfl (b_add rfl)) ?_
    refine s_p (h_ixl 0 rfl rfl rfl Try.underlying138 Try.sizeOf61 (by omega)) ?_
    refine s_st (by first | exact m_store_int rfl rfl rfl rfl (by omega) (by (first | assumption | exact spl_len _ _ _ _ _ | (simp only [List.length_set]; first | assumption | exact spl_len _ _ _ _ _) | (rw [fin_len]; assumption))) Try.sizeOf61 rfl | exact m_store_one rfl rfl (by simp) rfl rfl Try.sizeOf61 rfl) ?_
    refine s_nil ?_
    refine n_blo ?_
    refine n_wp ?_
    refine c_reg (by kernel_rfl) rfl ?_
    refine s_p (by first | exact h_bin rfl rfl (b_add (Go.IntWalk.i64_in _ (by omega))) | exact h_bin rfl rfl (b_add rfl)) ?_
    refine s_p (by first | exact h_move (v := .s _) rfl | exact h_move (v := .agg _) rfl | exact h_move (v := .tup _) rfl) ?_
    refine s_nil ?_
    exact n_round (64 - (i + 1)) (by omega) ⟨i + 1, by omega, rfl, rfl, by rw [hws, hls] <;> rfl⟩ (weak' (by repeat (first | exact trivial | refine ⟨rfl, ?_⟩)) rfl rfl (Nat.le_of_ble_eq_true rfl))
  · skip
    obtain rfl : i = 64 := by have := of_decide_eq_false hc_t18; omega
    have haf : aft s b = fin s (ls s b 64) 8 := rfl
    have hll := ls_len s b hs 64
    generalize ls s b 64 = l at *
    refine w_exit ?_
    refine x_thn ?_
    refine x_thn ?_
    refine x_eq ?_
    refine n_wp ?_
    refine w_seq ?_
    refine w_seq ?_
    refine c_reg (by kernel_rfl) rfl ?_
    refine s_p (by first | exact h_load_agg rfl rfl (.whole rfl) Try.isAgg138 Try.sizeOf138 | exact h_load_agg rfl rfl (.seg rfl rfl) Try.isAgg138 Try.sizeOf138 | exact h_load_agg rfl rfl (.ints rfl (by omega)) Try.isAgg138 Try.sizeOf138) ?_
    refine s_p (by first | exact h_move (v := .s _) rfl | exact h_move (v := .agg _) rfl | exact h_move (v := .tup _) rfl) ?_
    refine s_nil ?_
    refine n_wp ?_
    refine w_block ?_
    refine c_loop (I78b s b l) 8 ⟨0, by omega, rfl, rfl, rfl⟩ (weak' (by repeat (first | exact trivial | refine ⟨rfl, ?_⟩)) rfl rfl (Nat.le_of_ble_eq_true rfl)) ?_
    rintro n T H ⟨i, hi, rfl, rfl, rfl⟩
    refine w_seq ?_
    refine c_reg (by kernel_rfl) rfl ?_
    refine s_p (h_bin rfl rfl (b_lss rfl)) ?_
    refine s_nil ?_
    refine n_wp ?_
    refine w_seq ?_
    refine w_cond rfl (fun hc_t79 => ?_) (fun hc_t79 => ?_)
    · skip
      have hlt2 : i < 8 := by have := of_decide_eq_true hc_t79; omega
      refine w_skip ?_
      refine n_wp ?_
      refine w_seq ?_
      refine w_block ?_
      refine w_seq ?_
      refine c_reg (by kernel_rfl) rfl ?_
      refine s_p (by first | exact h_move (v := .s _) rfl | exact h_move (v := .agg _) rfl | exact h_move (v := .tup _) rfl) ?_
      refine s_p (h_index_ints rfl rfl Try.underlying138 Try.sizeOf61 Try.isAgg61 (by omega)) ?_
      refine s_p (by first | exact h_assign (v := .s _) rfl | exact h_assign (v := .agg _) rfl | exact h_assign (v := .tup _) rfl) ?_
      refine s_p (by first | exact h_assign (v := .s _) rfl | exact h_assign (v := .agg _) rfl | exact h_assign (v := .tup _) rfl) ?_
      refine s_nil ?_
      refine n_wp ?_
      refine c_reg (by kernel_rfl) rfl ?_
      refine s_p (by first | exact h_move (v := .s _) rfl | exact h_move (v := .agg _) rfl | exact h_move (v := .tup _) rfl) ?_
      refine s_p (by first | exact h_ix rfl rfl Try.underlying138 Try.sizeOf61 (by omega) | exact h_ixa rfl rfl Try.underlying138 Try.sizeOf61 (by omega) | exact h_ixl (Int.toNat _) rfl rfl (Int.toNat_of_nonneg (by omega)).symm Try.underlying138 Try.sizeOf61 (by omega)) ?_
      refine s_p (by first | exact h_load_ints rfl rfl rfl (by omega) rfl Try.isAgg61 | exact h_load_one rfl rfl rfl Try.isAgg61) ?_
      refine s_p (by first | exact h_move (v := .s _) rfl | exact h_move (v := .agg _) rfl | exact h_move (v := .tup _) rfl) ?_
      refine s_p (h_bin rfl rfl (b_add rfl)) ?_
      refine s_p (by first | exact h_ix rfl rfl Try.underlying138 Try.sizeOf61 (by omega) | exact h_ixa rfl rfl Try.underlying138 Try.sizeOf61 (by omega) | exact h_ixl (Int.toNat _) rfl rfl (Int.toNat_of_nonneg (by omega)).symm Try.underlying138 Try.sizeOf61 (by omega)) ?_
      refine s_st (by first | exact m_store_int rfl rfl rfl rfl (by omega) (by (first | assumption | exact spl_len _ _ _ _ _ | (simp only [List.length_set]; first | assumption | exact spl_len _ _ _ _ _) | (rw [fin_len]; assumption))) Try.sizeOf61 rfl | exact m_store_one rfl rfl (by simp) rfl rfl Try.sizeOf61 rfl) ?_
      refine s_nil ?_
      refine n_blo ?_
      refine n_wp ?_
      refine c_reg (by kernel_rfl) rfl ?_
      refine s_p (by first | exact h_bin rfl rfl (b_add (Go.IntWalk.i64_in _ (by omega))) | exact h_bin rfl rfl (b_add rfl)) ?_
      refine s_p (by first | exact h_move (v := .s _) rfl | exact h_move (v := .agg _) rfl | exact h_move (v := .tup _) rfl) ?_
      refine s_nil ?_
      exact n_round (8 - (i + 1)) (by omega) ⟨i + 1, by omega, rfl, rfl, rfl⟩ (weak' (by repeat (first | exact trivial | refine ⟨rfl, ?_⟩)) rfl rfl (Nat.le_of_ble_eq_true rfl))
    · skip
      obtain rfl : i = 8 := by have := of_decide_eq_false hc_t79; omega
      rw [← haf]
      refine w_exit ?_
      refine x_thn ?_
      refine x_thn ?_
      refine x_eq ?_
      refine n_wp ?_
      refine w_seq ?_
      refine c_reg (by kernel_rfl) rfl ?_
      refine s_p (by first | exact h_load_agg rfl rfl (.whole rfl) Try.isAgg138 Try.sizeOf138 | exact h_load_agg rfl rfl (.seg rfl rfl) Try.isAgg138 Try.sizeOf138 | exact h_load_agg rfl rfl (.ints rfl (by omega)) Try.isAgg138 Try.sizeOf138) ?_
      refine s_st (by first | exact m_store_agg rfl rfl rfl (.whole (Nat.le_of_ble_eq_true rfl) rfl rfl) Try.sizeOf138 rfl | exact m_store_agg rfl rfl rfl (.seg (Nat.le_of_ble_eq_true rfl) rfl rfl rfl) Try.sizeOf138 rfl | exact m_store_agg rfl rfl rfl (.ints (Nat.le_of_ble_eq_true rfl) rfl (by omega)) Try.sizeOf138 rfl) ?_
      refine s_nil ?_
      refine n_wp ?_
      refine w_ret ?_
      refine done0 ?_
      exact ret_cell_agg Try.results78 rfl rfl (.whole rfl) Try.isAgg138 Try.sizeOf138

end Go.Proofs.X
end

section
/- What the program's sums compute of bytes, one by one. -/
open Go Go.Ab Go.Proofs
namespace Go.Proofs.X
/-- The eight numbers, the block's bytes, how many of these. -/
structure Run where
  s : List Int
  b : List Int
  m : Nat
structure RunOk (q : Run) : Prop where
  s : q.s.length = 8
  b : q.b.length = 64
  m : q.m < 64
def put1 (q : Run) (x : Int) : Run := if q.m + 1 = 64 then ⟨aft q.s (q.b.set q.m x), q.b.set q.m x, 0⟩ else ⟨q.s, q.b.set q.m x, q.m + 1⟩
def tk (q : Run) (l : List Int) : Run := l.foldl put1 q
theorem put1_ok {q : Run} (h : RunOk q) (x : Int) : RunOk (put1 q x) := by
  unfold put1
  split
  · exact ⟨aft_len _ _ h.s, by simpa using h.b, by show 0 < 64; omega⟩
  · exact ⟨h.s, by simpa using h.b, by have := h.m; show q.m + 1 < 64; omega⟩
theorem tk_ok {q : Run} (h : RunOk q) (l : List Int) : RunOk (tk q l) := by
  induction l generalizing q with
  | nil => exact h
  | cons x r ih => exact ih (put1_ok h x)
theorem tk_append (q : Run) (a b : List Int) : tk q (a ++ b) = tk (tk q a) b := List.foldl_append
theorem tk_nil (q : Run) : tk q [] = q := rfl
/-- What is put at once. -/
def chunk (q : Run) (c : List Int) (n : Nat) : Run := if q.m + n = 64 then ⟨aft q.s (spl q.b c (0 + q.m) n 64), spl q.b c (0 + q.m) n 64, 0⟩ else ⟨q.s, spl q.b c (0 + q.m) n 64, q.m + n⟩
theorem getD_set' (l : List Int) (i j : Nat) (v : Int) : (l.set i v).getD j 0 = if i = j ∧ i < l.length then v else l.getD j 0 := getD_set l i v j
theorem eq_getD {a b : List Int} {n : Nat} (ha : a.length = n) (hb : b.length = n) (h : ∀ k, k < n → a.getD k 0 = b.getD k 0) : a = b := by
  apply List.ext_getElem (by omega)
  intro i h1 h2
  have := h i (by omega)
  simpa [List.getD_eq_getElem?_getD, h1, h2] using this
theorem spl_getD (xs ys : List Int) (i n m k : Nat) (hk : k < m) : (spl xs ys i n m).getD k 0 = if i ≤ k ∧ k < i + n then ys.getD (k - i) 0 else xs.getD k 0 := by
  simp [spl, List.getD_eq_getElem?_getD, hk]
theorem tk_chunk (q : Run) (h : RunOk q) (c : List Int) (n : Nat) (hc : c.length = n) (hn : q.m + n ≤ 64) (h0 : 0 < n) : tk q c = chunk q c n := by
  obtain ⟨n, rfl⟩ : ∃ k, n = k + 1 := ⟨n - 1, by omega⟩
  clear h0
  induction n generalizing c with
  | zero =>
    match c, hc with
    | [x], _ =>
      have e : q.b.set q.m x = spl q.b [x] (0 + q.m) (0 + 1) 64 := eq_getD (n := 64) (by simp [h.b]) (spl_len _ _ _ _ _) fun k hk => by
        rw [getD_set, spl_getD _ _ _ _ _ _ hk, h.b]
        by_cases hm : q.m = k
        · subst hm; rw [if_pos ⟨rfl, hk⟩, if_pos (by omega)]; simp
        · rw [if_neg (fun x => hm x.1), if_neg (by omega)]
      show put1 q x = _
      unfold put1 chunk
      rw [e]
  | succ n ih =>
    have hd : c = c.take (n + 1) ++ [c.getD (n + 1) 0] := by
      apply List.ext_getElem (by simp; omega)
      intro i h1 h2
      by_cases hi : i < n + 1
      · rw [List.getElem_append_left (by simp; omega)]; simp
      · have : i = n + 1 := by omega
        subst this
        rw [List.getElem_append_right (by simp; omega)]
        simp [List.getD_eq_getElem?_getD, h1]
    have hl : (c.take (n + 1)).length = n + 1 := by simp; omega
    have := ih (c.take (n + 1)) hl (by omega)
    rw [hd, tk_append, this]
    have e1 : chunk q (c.take (n + 1)) (n + 1) = ⟨q.s, spl q.b (c.take (n + 1)) (0 + q.m) (n + 1) 64, q.m + (n + 1)⟩ := if_neg (by omega)
    rw [e1]
    have e : (spl q.b (c.take (n + 1)) (0 + q.m) (n + 1) 64).set (q.m + (n + 1)) (c.getD (n + 1) 0) = spl q.b c (0 + q.m) (n + 1 + 1) 64 := eq_getD (n := 64) (by simp [spl_len]) (spl_len _ _ _ _ _) fun k hk => by
      rw [getD_set, spl_getD _ _ _ _ _ _ hk, spl_getD _ _ _ _ _ _ hk, spl_len]
      by_cases hm : q.m + (n + 1) = k
      · subst hm; rw [if_pos ⟨rfl, hk⟩, if_pos (by omega)]; congr 1; omega
      · rw [if_neg (fun x => hm x.1)]
        by_cases h2 : 0 + q.m ≤ k ∧ k < 0 + q.m + (n + 1)
        · rw [if_pos h2, if_pos (by omega)]
          rw [List.getD_eq_getElem?_getD, List.getD_eq_getElem?_getD, List.getElem?_take_of_lt (by omega)]
        · rw [if_neg h2, if_neg (by omega)]
    rw [← hd]
    show put1 _ (c.getD (n + 1) 0) = _
    unfold put1 chunk
    simp only
    rw [e]
    simp only [Nat.add_assoc]
/-- On from here: a piece, then the rest. -/
theorem tk_on (q : Run) (h : RunOk q) (B : List Int) (j n len : Nat) (hB : B.length = len) (hj : j + n ≤ len) (hn : q.m + n ≤ 64) (h0 : 0 < n) : tk q (B.drop j) = tk (chunk q ((B.drop j).take n) n) (B.drop (j + n)) := by
  have e : B.drop j = (B.drop j).take n ++ B.drop (j + n) := by rw [← List.drop_drop, List.take_append_drop]
  rw [← tk_chunk q h _ n (by simp; omega) hn h0, ← tk_append, ← e]
theorem chunk_ok {q : Run} (h : RunOk q) (c : List Int) (n : Nat) (hn : q.m + n ≤ 64) : RunOk (chunk q c n) := by
  unfold chunk
  split
  · exact ⟨aft_len _ _ h.s, spl_len _ _ _ _ _, by show 0 < 64; omega⟩
  · exact ⟨h.s, spl_len _ _ _ _ _, by show q.m + n < 64; omega⟩
def S0 : List Int := [1779033703, 3144134277, 1013904242, 2773480762, 1359893119, 2600822924, 528734635, 1541459225]
def run0 : Run := ⟨S0, z 64, 0⟩
theorem run0_ok : RunOk run0 := ⟨rfl, z_len _, by show 0 < 64; omega⟩
end Go.Proofs.X
end
