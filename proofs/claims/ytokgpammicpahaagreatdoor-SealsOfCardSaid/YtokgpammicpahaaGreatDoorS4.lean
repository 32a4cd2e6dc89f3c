/- A part of the proofs of this claim: BShaS, Bx23, BxZ, BShaT, BRowS, BRowT, BRow1, BSha1, BSha2, BShaS2, BSha3, BMacS, BMacT, BMac1, BMac2, BAesS, BAesT, BAes1. No conditions. -/
import Derived.Test.YtokgpammicpahaaGreatDoorS3
import Derived.Test.YtokgpammicpahaaGreatDoorProg
import Derived.KernelRfl
set_option linter.unusedVariables false
set_option linter.unusedSimpArgs false
section
/- What the program's sums compute, on lists. No program. -/
open Go Go.Bx
namespace Go.Proofs.X
def z (n : Nat) : List Int := List.replicate n 0
theorem z_len (n : Nat) : (z n).length = n := List.length_replicate
theorem wrap_u64_nonneg (x : Int) : 0 ≤ IntKind.u64.wrap x := by
  unfold IntKind.wrap
  simp [IntKind.bits, IntKind.signed]
  omega
def rs (k : Int) : Int := andK .u64 (IntKind.u64.wrap k) 31
theorem rs_nonneg (k : Int) : 0 ≤ rs k := wrap_u64_nonneg _
def rotI (x k : Int) : Int := orK .u32 (shlK .u32 x (rs k)) (shrK .u32 x (IntKind.u64.wrap (32 - rs k)))
def dnI (x : Int) (ps : List Int) : Nat → Int
  | 0 => 0
  | i + 1 => xorK .u32 (dnI x ps i) (rotI x (IntKind.i64.wrap (0 - ps.getD i 0)))
def KS : List Int := [1116352408, 1899447441, 3049323471, 3921009573, 961987163, 1508970993, 2453635748, 2870763221, 3624381080, 310598401, 607225278, 1426881987, 1925078388, 2162078206, 2614888103, 3248222580, 3835390401, 4022224774, 264347078, 604807628, 770255983, 1249150122, 1555081692, 1996064986, 2554220882, 2821834349, 2952996808, 3210313671, 3336571891, 3584528711, 113926993, 338241895, 666307205, 773529912, 1294757372, 1396182291, 1695183700, 1986661051, 2177026350, 2456956037, 2730485921, 2820302411, 3259730800, 3345764771, 3516065817, 3600352804, 4094571909, 275423344, 430227734, 506948616, 659060556, 883997877, 958139571, 1322822218, 1537002063, 1747873779, 1955562222, 2024104815, 2227730452, 2361852424, 2428436474, 2756734187, 3204031479, 3329325298]
theorem KS_len : KS.length = 64 := rfl
def gI (w : List Int) : Nat → Int
  | 0 => 0
  | i + 1 => IntKind.u64.wrap (IntKind.u64.wrap (256 * gI w i) + IntKind.u64.wrap (w.getD i 0))
def getI (B : List Int) (m : Nat) : Int := gI (spl (z 8) (B.take m) (8 - m) m 8) 8
theorem spl_len (xs ys : List Int) (i n m : Nat) : (spl xs ys i n m).length = m := by simp [spl]
def wn1 (w : List Int) (t : Nat) : List Int := w.set (t % 16) (IntKind.u32.wrap (w.getD (t % 16) 0 + xorK .u32 (dnI (w.getD ((t + 1) % 16) 0) [7, 18] 2) (shrK .u32 (w.getD ((t + 1) % 16) 0) 3)))
def wn2 (w : List Int) (zz : Int) (t : Nat) : List Int := w.set (t % 16) (IntKind.u32.wrap (w.getD (t % 16) 0 + xorK .u32 (dnI zz [17, 19] 2) (shrK .u32 zz 10)))
def wn3 (w : List Int) (t : Nat) : List Int := w.set (t % 16) (IntKind.u32.wrap (w.getD (t % 16) 0 + w.getD ((t + 9) % 16) 0))
def wn (b w : List Int) (t : Nat) : List Int :=
  if t < 16 then w.set (t % 16) (IntKind.u32.wrap (getI ((b.drop (4 * t)).take (64 - 4 * t)) 4))
  else wn3 (wn2 (wn1 w t) (w.getD ((t + 14) % 16) 0) t) t
theorem wn_len (b w : List Int) (t : Nat) : (wn b w t).length = w.length := by
  unfold wn wn1 wn2 wn3; split <;> simp
theorem wn_lt (b w : List Int) {t : Nat} (h : t < 16) : wn b w t = w.set (t % 16) (IntKind.u32.wrap (getI ((b.drop (4 * t)).take (64 - 4 * t)) 4)) := if_pos h
theorem wn_ge (b w : List Int) {t : Nat} (h : ¬ t < 16) : wn b w t = wn3 (wn2 (wn1 w t) (w.getD ((t + 14) % 16) 0) t) t := if_neg h
def ws (b : List Int) : Nat → List Int
  | 0 => z 16
  | i + 1 => wn b (ws b i) i
theorem ws_len (b : List Int) (i : Nat) : (ws b i).length = 16 := by
  induction i with
  | zero => exact z_len _
  | succ i ih => rw [ws, wn_len, ih]
def comK (k : IntKind) (m : Int) : Int := xorK k (if k.signed then -1 else k.max) m
def rP (l : List Int) (k x : Int) : Int := IntKind.u32.wrap (IntKind.u32.wrap (IntKind.u32.wrap (IntKind.u32.wrap (l.getD 7 0 + dnI (l.getD 4 0) [6, 11, 25] 3) + orK .u32 (andK .u32 (l.getD 4 0) (l.getD 5 0)) (andK .u32 (comK .u32 (l.getD 4 0)) (l.getD 6 0))) + k) + x)
def rQ (l : List Int) : Int := IntKind.u32.wrap (dnI (l.getD 0 0) [2, 13, 22] 3 + xorK .u32 (andK .u32 (l.getD 0 0) (xorK .u32 (l.getD 1 0) (l.getD 2 0))) (andK .u32 (l.getD 1 0) (l.getD 2 0)))
def rS (l : List Int) : List Int := spl l ((l.drop 0).take 7) (0 + 1) 7 8
def rnd (l : List Int) (k x : Int) : List Int := ((rS l).set 4 (IntKind.u32.wrap ((rS l).getD 4 0 + rP l k x))).set 0 (IntKind.u32.wrap (rP l k x + rQ l))
theorem rnd_len (l : List Int) (k x : Int) : (rnd l k x).length = 8 := by simp [rnd, rS, spl]
def ls (s b : List Int) : Nat → List Int
  | 0 => s
  | i + 1 => rnd (ls s b i) (KS.getD i 0) ((ws b (i + 1)).getD (i % 16) 0)
theorem ls_len (s b : List Int) (h : s.length = 8) (i : Nat) : (ls s b i).length = 8 := by
  cases i with
  | zero => exact h
  | succ i => exact rnd_len _ _ _
def fin (s l : List Int) : Nat → List Int
  | 0 => l
  | i + 1 => (fin s l i).set i (IntKind.u32.wrap ((fin s l i).getD i 0 + s.getD i 0))
theorem fin_len (s l : List Int) (i : Nat) : (fin s l i).length = l.length := by
  induction i with
  | zero => rfl
  | succ i ih => simp [fin, ih]
def aft (s b : List Int) : List Int := fin s (ls s b 64) 8
theorem aft_len (s b : List Int) (h : s.length = 8) : (aft s b).length = 8 := (fin_len _ _ _).trans (ls_len _ _ h _)
theorem ws_s (b : List Int) (i : Nat) : ws b (i + 1) = wn b (ws b i) i := rfl
abbrev RUN (s b : List Int) (n l : Int) : List Seg := [.one (.fptr 8 (cellsF [.ints .u32 8 s]) 0 0), .ints .u8 64 b, .one (.int .i64 n), .one (.int .u64 l)]
end Go.Proofs.X
end

section
/- What is literal is what it says: two operands, both literal, and what the model makes of them. No program. -/
namespace Go.Bx
def SV.litV : SV → Option Value
  | .int k n => some (.int k n)
  | .bool b => some (.bool b)
  | .nilp => some (.pointer none)
  | .nils => some (.slice none 0 0)
  | .val u => some u
  | _ => none
def litVS : List Seg → Option (List Value)
  | [] => some []
  | .one v :: r => match v.litV, litVS r with
    | some x, some l => some (x :: l)
    | _, _ => none
  | .ints k n l :: r => match litVS r with
    | some q => some ((List.range n).map (fun i => Value.int k (l.getD i 0)) ++ q)
    | none => none
  | .rows .. :: _ => none
def AV.litV : AV → Option Value
  | .s v => v.litV
  | .agg l => (litVS l).map fun c => .agg c.toArray
  | .tup _ => none
section rules
variable {P : Program} {T : Tm} {H : Heap} {d : Option Tmp} {ty : TypeId} {pos : String} {af : Array Edge} {g : Option (Nat × Bool)}
end rules
end Go.Bx
end

section
/- Several steps at once, as a walk types them. -/
open Go
namespace Go.Bx
section
variable {P : Program} {ops : Array Oper} {T : Tm} {H H1 H2 H3 H4 H5 H6 : Heap} {v1 v2 v3 v4 v5 v6 : AV} {F1 F2 F3 F4 F5 F6 M1 M2 M3 M4 M5 M6 : List Nat} {d1 d2 d3 d4 d5 d6 : Nat} {p1 p2 p3 p4 p5 p6 : Op} {t1 t2 t3 t4 t5 t6 : TypeId} {s1 s2 s3 s4 s5 s6 : String} {a1 a2 a3 a4 a5 a6 : Array Edge} {r : List Oper} {ok : Trail → Prop} {K : Tm → Heap → Prop}
theorem oo {o : Oper} (h : LOk P o T H H1 v1 F1 M1 := by first | exact k_mv | exact k_as | exact k_ld | exact k_ex | exact k_fa | exact k_al | exact k_add | exact k_ix | exact k_len | exact k_pk | exact k_lss | exact k_eql | exact k_nc | exact k_not | exact k_cv | exact k_mul | exact k_shr | exact k_sub | exact k_neq | exact k_gtr | exact k_rem | exact k_and | exact k_geq | exact k_quo | exact k_leq | exact k_shl | exact k_or | exact k_xor) : LOk P o T H H1 v1 F1 M1 := h
theorem o2 (k : SK P ops r ((d2, v2) :: (d1, v1) :: T) H2 (fun fs => ok ((F1, M1, H1.length - H.length) :: (F2, M2, H2.length - H1.length) :: fs)) K)
    (h1 : LOk P ⟨some d1, p1, t1, s1, a1, none⟩ T H H1 v1 F1 M1 := by exact oo) (h2 : LOk P ⟨some d2, p2, t2, s2, a2, none⟩ ((d1, v1) :: T) H1 H2 v2 F2 M2 := by exact oo) : SK P ops (⟨some d1, p1, t1, s1, a1, none⟩ :: ⟨some d2, p2, t2, s2, a2, none⟩ :: r) T H ok K := s_op h1 (s_op h2 k)
theorem o3 (k : SK P ops r ((d3, v3) :: (d2, v2) :: (d1, v1) :: T) H3 (fun fs => ok ((F1, M1, H1.length - H.length) :: (F2, M2, H2.length - H1.length) :: (F3, M3, H3.length - H2.length) :: fs)) K)
    (h1 : LOk P ⟨some d1, p1, t1, s1, a1, none⟩ T H H1 v1 F1 M1 := by exact oo) (h2 : LOk P ⟨some d2, p2, t2, s2, a2, none⟩ ((d1, v1) :: T) H1 H2 v2 F2 M2 := by exact oo) (h3 : LOk P ⟨some d3, p3, t3, s3, a3, none⟩ ((d2, v2) :: (d1, v1) :: T) H2 H3 v3 F3 M3 := by exact oo) : SK P ops (⟨some d1, p1, t1, s1, a1, none⟩ :: ⟨some d2, p2, t2, s2, a2, none⟩ :: ⟨some d3, p3, t3, s3, a3, none⟩ :: r) T H ok K := o2 (s_op h3 k) h1 h2
theorem o4 (k : SK P ops r ((d4, v4) :: (d3, v3) :: (d2, v2) :: (d1, v1) :: T) H4 (fun fs => ok ((F1, M1, H1.length - H.length) :: (F2, M2, H2.length - H1.length) :: (F3, M3, H3.length - H2.length) :: (F4, M4, H4.length - H3.length) :: fs)) K)
    (h1 : LOk P ⟨some d1, p1, t1, s1, a1, none⟩ T H H1 v1 F1 M1 := by exact oo) (h2 : LOk P ⟨some d2, p2, t2, s2, a2, none⟩ ((d1, v1) :: T) H1 H2 v2 F2 M2 := by exact oo) (h3 : LOk P ⟨some d3, p3, t3, s3, a3, none⟩ ((d2, v2) :: (d1, v1) :: T) H2 H3 v3 F3 M3 := by exact oo) (h4 : LOk P ⟨some d4, p4, t4, s4, a4, none⟩ ((d3, v3) :: (d2, v2) :: (d1, v1) :: T) H3 H4 v4 F4 M4 := by exact oo) : SK P ops (⟨some d1, p1, t1, s1, a1, none⟩ :: ⟨some d2, p2, t2, s2, a2, none⟩ :: ⟨some d3, p3, t3, s3, a3, none⟩ :: ⟨some d4, p4, t4, s4, a4, none⟩ :: r) T H ok K := o3 (s_op h4 k) h1 h2 h3
end
section
variable {E : Env} {P : Program} {T : Tm} {H : Heap} {Q : Exit → Tm → Heap → Prop} {ops' : Array Oper}
theorem qx {n : Nat} (hP : E.P = P) (hn : E.n = n) {id : Nat} {ops : Array Oper} {l : List Oper} {y : Code} {ok : Trail → Prop} (h : SK P ops l T H (fun _ => True) (Thn (fun T H => Wp E y T H Q) Q .normal)) (ho : ok [] := by trivial) (hok : regionOk n ops = true := by kernel_rfl) (hl : ops.toList = l := by rfl) : SK P ops' [] T H ok (Thn (fun T H => Wp E (.seq (.region id ops false) y) T H Q) Q .normal) :=
  s_nil ho (n_wp (w_seq (g_reg hP hn h hok hl)))
theorem qy {n : Nat} (hP : E.P = P) (hn : E.n = n) {id : Nat} {ops : Array Oper} {l : List Oper} {ok : Trail → Prop} (h : SK P ops l T H (fun _ => True) (Q .normal)) (ho : ok [] := by trivial) (hok : regionOk n ops = true := by kernel_rfl) (hl : ops.toList = l := by rfl) : SK P ops' [] T H ok (Thn (fun T H => Wp E (.region id ops false) T H Q) Q .normal) :=
  s_nil ho (n_wp (g_reg hP hn h hok hl))
theorem qz {n : Nat} (hP : E.P = P) (hn : E.n = n) {id : Nat} {ops : Array Oper} {l : List Oper} {y : Code} (h : SK P ops l T H (fun _ => True) (Thn (fun T H => Wp E y T H Q) Q .normal)) (hok : regionOk n ops = true := by kernel_rfl) (hl : ops.toList = l := by rfl) : Wp E (.seq (.region id ops false) y) T H Q := w_seq (g_reg hP hn h hok hl)
end
end Go.Bx
end

section
/- The types and functions of sums, as instances. -/
open Go Go.Bx Go.Proofs
namespace Go.Proofs.X
instance : Mix Tryz.prog := ⟨by kernel_rfl⟩
instance : Clb Tryz.prog 180 := ⟨_, Tryz.func180, by kernel_rfl, rfl⟩
instance : Clb Tryz.prog 177 := ⟨_, Tryz.func177, by kernel_rfl, rfl⟩
instance : Clb Tryz.prog 103 := ⟨_, Tryz.func103, by kernel_rfl, rfl⟩
instance : Clb Tryz.prog 176 := ⟨_, Tryz.func176, by kernel_rfl, rfl⟩
instance : Clb Tryz.prog 175 := ⟨_, Tryz.func175, by kernel_rfl, rfl⟩
instance : Clb Tryz.prog 179 := ⟨_, Tryz.func179, by kernel_rfl, rfl⟩
instance : Clb Tryz.prog 171 := ⟨_, Tryz.func171, by kernel_rfl, rfl⟩
instance : Clb Tryz.prog 152 := ⟨_, Tryz.func152, by kernel_rfl, rfl⟩
instance : Clb Tryz.prog 166 := ⟨_, Tryz.func166, by kernel_rfl, rfl⟩
instance : Clb Tryz.prog 153 := ⟨_, Tryz.func153, by kernel_rfl, rfl⟩
instance : Clb Tryz.prog 154 := ⟨_, Tryz.func154, by kernel_rfl, rfl⟩
instance : Clb Tryz.prog 150 := ⟨_, Tryz.func150, by kernel_rfl, rfl⟩
instance : Und Tryz.prog 3 (.int .i64) := ⟨Tryz.underlying3⟩
instance : Sz Tryz.prog 3 1 := ⟨Tryz.sizeOf3⟩
instance : Ag Tryz.prog 3 false := ⟨Tryz.isAgg3⟩
instance : Zv Tryz.prog 3 [.one (.int .i64 0)] := ⟨_, Tryz.zeroValue3, by kernel_rfl⟩
instance : Zi Tryz.prog 3 .i64 := ⟨Tryz.zeroValue3⟩
instance : Inf Tryz.prog 3 Tryz.t3 := ⟨by kernel_rfl⟩
instance : Und Tryz.prog 5 (.int .u8) := ⟨Tryz.underlying5⟩
instance : Sz Tryz.prog 5 1 := ⟨Tryz.sizeOf5⟩
instance : Ag Tryz.prog 5 false := ⟨Tryz.isAgg5⟩
instance : Zv Tryz.prog 5 [.one (.int .u8 0)] := ⟨_, Tryz.zeroValue5, by kernel_rfl⟩
instance : Zi Tryz.prog 5 .u8 := ⟨Tryz.zeroValue5⟩
instance : Inf Tryz.prog 5 Tryz.t5 := ⟨by kernel_rfl⟩
instance : Und Tryz.prog 23 (.slice 5) := ⟨Tryz.underlying23⟩
instance : Sz Tryz.prog 23 1 := ⟨Tryz.sizeOf23⟩
instance : Ag Tryz.prog 23 false := ⟨Tryz.isAgg23⟩
instance : Zv Tryz.prog 23 [.one .nils] := ⟨_, Tryz.zeroValue23, by kernel_rfl⟩
instance : Zn Tryz.prog 23 := ⟨Tryz.zeroValue23⟩
instance : Inf Tryz.prog 23 Tryz.t23 := ⟨by kernel_rfl⟩
instance : Und Tryz.prog 47 (.int .u64) := ⟨Tryz.underlying47⟩
instance : Sz Tryz.prog 47 1 := ⟨Tryz.sizeOf47⟩
instance : Ag Tryz.prog 47 false := ⟨Tryz.isAgg47⟩
instance : Zv Tryz.prog 47 [.one (.int .u64 0)] := ⟨_, Tryz.zeroValue47, by kernel_rfl⟩
instance : Zi Tryz.prog 47 .u64 := ⟨Tryz.zeroValue47⟩
instance : Inf Tryz.prog 47 Tryz.t47 := ⟨by kernel_rfl⟩
instance : Und Tryz.prog 51 (.array 32 5) := ⟨Tryz.underlying51⟩
instance : Sz Tryz.prog 51 32 := ⟨Tryz.sizeOf51⟩
instance : Ag Tryz.prog 51 true := ⟨Tryz.isAgg51⟩
instance : Zv Tryz.prog 51 [.ints .u8 32 (zs (List.replicate 32 0))] := ⟨_, Tryz.zeroValue51, by kernel_rfl⟩
instance : Zb Tryz.prog 51 .u8 32 := ⟨_, Tryz.zeroValue51, by kernel_rfl⟩
instance : Inf Tryz.prog 51 Tryz.t51 := ⟨by kernel_rfl⟩
instance : Und Tryz.prog 62 (.int .u32) := ⟨Tryz.underlying62⟩
instance : Sz Tryz.prog 62 1 := ⟨Tryz.sizeOf62⟩
instance : Ag Tryz.prog 62 false := ⟨Tryz.isAgg62⟩
instance : Zv Tryz.prog 62 [.one (.int .u32 0)] := ⟨_, Tryz.zeroValue62, by kernel_rfl⟩
instance : Zi Tryz.prog 62 .u32 := ⟨Tryz.zeroValue62⟩
instance : Inf Tryz.prog 62 Tryz.t62 := ⟨by kernel_rfl⟩
instance : Und Tryz.prog 83 (.slice 23) := ⟨Tryz.underlying83⟩
instance : Sz Tryz.prog 83 1 := ⟨Tryz.sizeOf83⟩
instance : Ag Tryz.prog 83 false := ⟨Tryz.isAgg83⟩
instance : Zv Tryz.prog 83 [.one .nils] := ⟨_, Tryz.zeroValue83, by kernel_rfl⟩
instance : Zn Tryz.prog 83 := ⟨Tryz.zeroValue83⟩
instance : Inf Tryz.prog 83 Tryz.t83 := ⟨by kernel_rfl⟩
instance : Und Tryz.prog 144 (.slice 3) := ⟨Tryz.underlying144⟩
instance : Sz Tryz.prog 144 1 := ⟨Tryz.sizeOf144⟩
instance : Ag Tryz.prog 144 false := ⟨Tryz.isAgg144⟩
instance : Zv Tryz.prog 144 [.one .nils] := ⟨_, Tryz.zeroValue144, by kernel_rfl⟩
instance : Zn Tryz.prog 144 := ⟨Tryz.zeroValue144⟩
instance : Inf Tryz.prog 144 Tryz.t144 := ⟨by kernel_rfl⟩
instance : Und Tryz.prog 173 (.slice 62) := ⟨Tryz.underlying173⟩
instance : Sz Tryz.prog 173 1 := ⟨Tryz.sizeOf173⟩
instance : Ag Tryz.prog 173 false := ⟨Tryz.isAgg173⟩
instance : Zv Tryz.prog 173 [.one .nils] := ⟨_, Tryz.zeroValue173, by kernel_rfl⟩
instance : Zn Tryz.prog 173 := ⟨Tryz.zeroValue173⟩
instance : Inf Tryz.prog 173 Tryz.t173 := ⟨by kernel_rfl⟩
instance : Und Tryz.prog 226 (.array 64 5) := ⟨Tryz.underlying226⟩
instance : Sz Tryz.prog 226 64 := ⟨Tryz.sizeOf226⟩
instance : Ag Tryz.prog 226 true := ⟨Tryz.isAgg226⟩
instance : Zv Tryz.prog 226 [.ints .u8 64 (zs (List.replicate 64 0))] := ⟨_, Tryz.zeroValue226, by kernel_rfl⟩
instance : Zb Tryz.prog 226 .u8 64 := ⟨_, Tryz.zeroValue226, by kernel_rfl⟩
instance : Inf Tryz.prog 226 Tryz.t226 := ⟨by kernel_rfl⟩
instance : Und Tryz.prog 229 (.pointer 253) := ⟨Tryz.underlying229⟩
instance : Sz Tryz.prog 229 1 := ⟨Tryz.sizeOf229⟩
instance : Ag Tryz.prog 229 false := ⟨Tryz.isAgg229⟩
instance : Zv Tryz.prog 229 [.one .nilp] := ⟨_, Tryz.zeroValue229, by kernel_rfl⟩
instance : Inf Tryz.prog 229 Tryz.t229 := ⟨by kernel_rfl⟩
instance : Und Tryz.prog 236 (.array 8 5) := ⟨Tryz.underlying236⟩
instance : Sz Tryz.prog 236 8 := ⟨Tryz.sizeOf236⟩
instance : Ag Tryz.prog 236 true := ⟨Tryz.isAgg236⟩
instance : Zv Tryz.prog 236 [.ints .u8 8 (zs (List.replicate 8 0))] := ⟨_, Tryz.zeroValue236, by kernel_rfl⟩
instance : Zb Tryz.prog 236 .u8 8 := ⟨_, Tryz.zeroValue236, by kernel_rfl⟩
instance : Inf Tryz.prog 236 Tryz.t236 := ⟨by kernel_rfl⟩
instance : Und Tryz.prog 244 (.int .u64) := ⟨Tryz.underlying244⟩
instance : Sz Tryz.prog 244 1 := ⟨Tryz.sizeOf244⟩
instance : Ag Tryz.prog 244 false := ⟨Tryz.isAgg244⟩
instance : Zv Tryz.prog 244 [.one (.int .u64 0)] := ⟨_, Tryz.zeroValue244, by kernel_rfl⟩
instance : Zi Tryz.prog 244 .u64 := ⟨Tryz.zeroValue244⟩
instance : Inf Tryz.prog 244 Tryz.t244 := ⟨by kernel_rfl⟩
instance : Und Tryz.prog 247 (.pointer 249) := ⟨Tryz.underlying247⟩
instance : Sz Tryz.prog 247 1 := ⟨Tryz.sizeOf247⟩
instance : Ag Tryz.prog 247 false := ⟨Tryz.isAgg247⟩
instance : Zv Tryz.prog 247 [.one .nilp] := ⟨_, Tryz.zeroValue247, by kernel_rfl⟩
instance : Inf Tryz.prog 247 Tryz.t247 := ⟨by kernel_rfl⟩
instance : Und Tryz.prog 249 (.array 8 62) := ⟨Tryz.underlying249⟩
instance : Sz Tryz.prog 249 8 := ⟨Tryz.sizeOf249⟩
instance : Ag Tryz.prog 249 true := ⟨Tryz.isAgg249⟩
instance : Zv Tryz.prog 249 [.ints .u32 8 (zs (List.replicate 8 0))] := ⟨_, Tryz.zeroValue249, by kernel_rfl⟩
instance : Zb Tryz.prog 249 .u32 8 := ⟨_, Tryz.zeroValue249, by kernel_rfl⟩
instance : Inf Tryz.prog 249 Tryz.t249 := ⟨by kernel_rfl⟩
instance : Und Tryz.prog 251 (.struct #[{ name := "b", type := 226, offset := 0, embedded := false, tag := "", pkgPath := "burrow/shas", byteOffset := 0 }, { name := "many", type := 3, offset := 64, embedded := false, tag := "", pkgPath := "burrow/shas", byteOffset := 64 }]) := ⟨Tryz.underlying251⟩
instance : Sz Tryz.prog 251 65 := ⟨Tryz.sizeOf251⟩
instance : Ag Tryz.prog 251 true := ⟨Tryz.isAgg251⟩
instance : Zv Tryz.prog 251 [.ints .u8 64 (zs (List.replicate 64 0)), .one (.int .i64 0)] := ⟨_, Tryz.zeroValue251, by kernel_rfl⟩
instance : FldC Tryz.prog 251 0 0 := ⟨_, _, _, Tryz.underlying251, rfl, Tryz.sizeOf226, by decide, rfl⟩
instance : FldC Tryz.prog 251 1 64 := ⟨_, _, _, Tryz.underlying251, rfl, Tryz.sizeOf3, by decide, rfl⟩
instance : Pl Tryz.prog 251 #[(0, 64), (64, 1)] := ⟨_, Tryz.underlying251, fun w => by kernel_rfl⟩
instance : Inf Tryz.prog 251 Tryz.t251 := ⟨by kernel_rfl⟩
instance : Und Tryz.prog 253 (.struct #[{ name := "s", type := 247, offset := 0, embedded := false, tag := "", pkgPath := "burrow/shas", byteOffset := 0 }, { name := "x", type := 251, offset := 1, embedded := false, tag := "", pkgPath := "burrow/shas", byteOffset := 8 }, { name := "many", type := 47, offset := 66, embedded := false, tag := "", pkgPath := "burrow/shas", byteOffset := 80 }]) := ⟨Tryz.underlying253⟩
instance : Sz Tryz.prog 253 67 := ⟨Tryz.sizeOf253⟩
instance : Ag Tryz.prog 253 true := ⟨Tryz.isAgg253⟩
instance : Zv Tryz.prog 253 [.one .nilp, .ints .u8 64 (zs (List.replicate 64 0)), .one (.int .i64 0), .one (.int .u64 0)] := ⟨_, Tryz.zeroValue253, by kernel_rfl⟩
instance : FldC Tryz.prog 253 0 0 := ⟨_, _, _, Tryz.underlying253, rfl, Tryz.sizeOf247, by decide, rfl⟩
instance : FldC Tryz.prog 253 1 1 := ⟨_, _, _, Tryz.underlying253, rfl, Tryz.sizeOf251, by decide, rfl⟩
instance : FldC Tryz.prog 253 2 66 := ⟨_, _, _, Tryz.underlying253, rfl, Tryz.sizeOf47, by decide, rfl⟩
instance : Pl Tryz.prog 253 #[(0, 1), (1, 65), (66, 1)] := ⟨_, Tryz.underlying253, fun w => by kernel_rfl⟩
instance : Inf Tryz.prog 253 Tryz.t253 := ⟨by kernel_rfl⟩
instance : Und Tryz.prog 260 (.pointer 251) := ⟨Tryz.underlying260⟩
instance : Sz Tryz.prog 260 1 := ⟨Tryz.sizeOf260⟩
instance : Ag Tryz.prog 260 false := ⟨Tryz.isAgg260⟩
instance : Zv Tryz.prog 260 [.one .nilp] := ⟨_, Tryz.zeroValue260, by kernel_rfl⟩
instance : Inf Tryz.prog 260 Tryz.t260 := ⟨by kernel_rfl⟩
instance : Und Tryz.prog 262 (.array 64 62) := ⟨Tryz.underlying262⟩
instance : Sz Tryz.prog 262 64 := ⟨Tryz.sizeOf262⟩
instance : Ag Tryz.prog 262 true := ⟨Tryz.isAgg262⟩
instance : Zv Tryz.prog 262 [.ints .u32 64 (zs (List.replicate 64 0))] := ⟨_, Tryz.zeroValue262, by kernel_rfl⟩
instance : Zb Tryz.prog 262 .u32 64 := ⟨_, Tryz.zeroValue262, by kernel_rfl⟩
instance : Inf Tryz.prog 262 Tryz.t262 := ⟨by kernel_rfl⟩
instance : Und Tryz.prog 268 (.array 16 62) := ⟨Tryz.underlying268⟩
instance : Sz Tryz.prog 268 16 := ⟨Tryz.sizeOf268⟩
instance : Ag Tryz.prog 268 true := ⟨Tryz.isAgg268⟩
instance : Zv Tryz.prog 268 [.ints .u32 16 (zs (List.replicate 16 0))] := ⟨_, Tryz.zeroValue268, by kernel_rfl⟩
instance : Zb Tryz.prog 268 .u32 16 := ⟨_, Tryz.zeroValue268, by kernel_rfl⟩
instance : Inf Tryz.prog 268 Tryz.t268 := ⟨by kernel_rfl⟩
end Go.Proofs.X
end

section
/- What nums.row computes, on lists. No program. -/
open Go Go.Bx
namespace Go.Proofs.X
def rb (out : List Int) (at_ : Nat) (v : Int) : Nat → List Int × Int
  | 0 => (out, v)
  | j + 1 => ((rb out at_ v j).1.set (at_ - (j + 1)) (IntKind.u8.wrap (rb out at_ v j).2), IntKind.u64.wrap ((rb out at_ v j).2.tdiv 256))
theorem rb_len (out : List Int) (at_ : Nat) (v : Int) (j : Nat) : (rb out at_ v j).1.length = out.length := by
  induction j with
  | zero => rfl
  | succ j ih => simp [rb, ih]
def rr (tot each N : Nat) (ws : List Int) : Nat → List Int
  | 0 => List.replicate tot 0
  | k + 1 => (rb (rr tot each N ws k) (tot - each * k) (ws.getD (N - 1 - k) 0) each).1
theorem rr_len (tot each N : Nat) (ws : List Int) (k : Nat) : (rr tot each N ws k).length = tot := by
  induction k with
  | zero => simp [rr]
  | succ k ih => rw [rr, rb_len, ih]
def rowL (tot : Nat) (B : List Int) (len each N : Nat) (ws : List Int) : List Int := if len = 0 then rr tot each N ws N else spl (rr tot each N ws N) (B.take len) 0 len tot
theorem rowL_len (tot : Nat) (B : List Int) (len each N : Nat) (ws : List Int) : (rowL tot B len each N ws).length = tot := by
  unfold rowL; split
  · exact rr_len _ _ _ _ _
  · exact spl_len _ _ _ _ _
end Go.Proofs.X
end

section
/- Types and functions of rows, as instances. -/
open Go Go.Bx Go.Proofs
namespace Go.Proofs.X
instance : Clb Tryz.prog 167 := ⟨_, Tryz.func167, by kernel_rfl, rfl⟩
instance : Clb Tryz.prog 172 := ⟨_, Tryz.func172, by kernel_rfl, rfl⟩
instance : Clb Tryz.prog 155 := ⟨_, Tryz.func155, by kernel_rfl, rfl⟩
instance : Clb Tryz.prog 97 := ⟨_, Tryz.func97, by kernel_rfl, rfl⟩
instance : Und Tryz.prog 4 (.bool) := ⟨Tryz.underlying4⟩
instance : Sz Tryz.prog 4 1 := ⟨Tryz.sizeOf4⟩
instance : Ag Tryz.prog 4 false := ⟨Tryz.isAgg4⟩
instance : Zv Tryz.prog 4 [.one (.bool false)] := ⟨_, Tryz.zeroValue4, by kernel_rfl⟩
instance : Inf Tryz.prog 4 Tryz.t4 := ⟨by kernel_rfl⟩
instance : Und Tryz.prog 169 (.slice 47) := ⟨Tryz.underlying169⟩
instance : Sz Tryz.prog 169 1 := ⟨Tryz.sizeOf169⟩
instance : Ag Tryz.prog 169 false := ⟨Tryz.isAgg169⟩
instance : Zv Tryz.prog 169 [.one .nils] := ⟨_, Tryz.zeroValue169, by kernel_rfl⟩
instance : Zn Tryz.prog 169 := ⟨Tryz.zeroValue169⟩
instance : Inf Tryz.prog 169 Tryz.t169 := ⟨by kernel_rfl⟩
end Go.Proofs.X
end

section
set_option maxRecDepth 100000
set_option maxHeartbeats 4000000
open Go Go.Bx Go.Proofs
namespace Go.Proofs.X
theorem backward_c (ws : List Int) : Con Tryz.prog 167 [.s (.fzi .u64 ws)] [] (.s (.clo 172 1 (capF [.ptr 0 0 0]))) [some ⟨true, [.one (.fzi .u64 ws)]⟩] := by
 refine con_in 4 Tryz.func167 rfl rfl (m := 0) rfl ?_
 intro E hP hn hE
 refine qz hP hn ?_
 refine s_op k_bx ?_
 refine s_op k_as ?_
 refine qx hP hn ?_
 refine s_op (k_fn [.ptr 0 0 0]) ?_
 refine s_op k_as ?_
 refine s_nil trivial (n_wp (w_ret ?_))
 exact d_ret hP hn hE [] (by first | exact r_tmp Tryz.results167 | exact r_tmpa Tryz.results167)

theorem back_iter {E : Env} (hPE : E.P = Tryz.prog) {n : Nat} (hnE : E.n = n) (bx : Nat) (ws : List Int) (a b : Nat) (ha : a < n) (hb : b < n) (assign body : Code) (T : Tm) (Hs : Nat → Heap) (hws : ws.length ≤ 1000000) (hbx : ∀ k, k ≤ ws.length → hget (Hs k) bx = some ⟨true, [.one (.fzi .u64 ws)]⟩)
    (hY : ∀ k, k < ws.length → YRound Tryz.prog n assign body (roundT [a, b] [.s (.int .i64 ((ws.length : Int) - 1 - k)), .s (.int .u64 (ws.getD (ws.length - 1 - k) 0))] T) (Hs k) (Hs (k + 1))) : Iter E 172 1 (capF [.ptr bx 0 0]) #[a, b] assign body T (Hs 0) (Hs ws.length) := by
 intro l D ρ W tm w1 fn vs hH hd hT htm hW hl hvs
 rw [hPE]
 have hps : ∀ p ∈ (#[a, b] : Array Tmp).toList, p < n := by
  intro p hp
  simp at hp
  rcases hp with rfl | rfl <;> assumption
 refine calls_none (args := [.s (.val (.func (.yield l) #[] #[])), .s (.ptr bx 0 0)]) 19 Tryz.func172 rfl rfl Tryz.results172 (Nat.le_of_ble_eq_true rfl) hH hd hW ⟨by simp [hvs.1], fun i x hx => ?_⟩ (fun E2 hP hn hE hw0 hρ0 => ?_)
 · match i, hx with
   | 0, hx =>
    simp at hx; subst hx
    refine ⟨?_, rfl⟩
    rw [Array.getD_eq_getD_getElem?, Array.getElem?_append_left (by simp)]; rfl
   | 1, hx =>
    simp at hx; subst hx
    obtain ⟨u, e1, e2⟩ := hvs.2 0 (by omega)
    have : (#[Value.func (.yield l) #[] #[]] ++ vs).getD 1 undef = u := by
     rw [Array.getD_eq_getD_getElem?, Array.getElem?_append_right (by simp)]
     simp [e1]
    rw [this]; exact e2
   | i + 2, hx => simp at hx
 refine i_seq ?_
 refine ig_reg hP hn ?_
 refine s_op (k_ld (by exact a_load_one rfl (hbx 0 (Nat.zero_le _)) rfl)) ?_
 refine s_op k_len ?_
 refine s_op (k_sub (by exact l_bin rfl rfl (b_sub (wrap_i64 (by omega))))) ?_
 refine s_op k_as ?_
 refine s_nil trivial ?_
 refine ni_wp ?_
 refine i_block ?_
 refine i_loop (fun m T H => ∃ (k : Nat) (z : Int), k ≤ ws.length ∧ m = ws.length - k ∧ z = (ws.length : Int) - 1 - k ∧ T = [(0, .s (.val (.func (.yield l) #[] #[]))), (1, .s (.ptr bx 0 0)), (3, .s (.int .i64 z))] ∧ H = Hs k) ws.length ⟨0, (ws.length : Int) - 1, by omega, rfl, by omega, rfl, rfl⟩ weak_tm ?_
 rintro n_ T_ H_ ⟨k, z, hk, rfl, hz, rfl, rfl⟩
 refine i_seq ?_
 refine i_seq ?_
 refine ig_reg hP hn ?_
 refine s_op k_mv ?_
 refine s_op (k_geq (by exact l_bin rfl rfl (b_geq rfl))) ?_
 refine s_nil trivial ?_
 refine ni_wp ?_
 refine iw_if rfl (fun h8 => ?_) (fun h8 => ?_)
 · have hlt : k < ws.length := by omega
   have hzn : z = ((ws.length - 1 - k : Nat) : Int) := by omega
   refine i_skip ?_
   refine ni_wp ?_
   refine i_seq ?_
   refine i_block ?_
   refine i_seq ?_
   refine i_regY 6 (by rw [hn]; kernel_rfl) (by kernel_rfl) rfl rfl rfl rfl ?_
   rw [hP]
   refine o2 ?_
   refine s_op (k_ld (by exact a_load_one rfl (hbx k hk) rfl)) ?_
   refine s_op k_mv ?_
   refine s_op (k_ix (by exact a_ixi (hj := ⟨hzn⟩) rfl rfl (by omega))) ?_
   refine s_op (k_ld (by exact a_loadf rfl (by omega) rfl)) ?_
   refine s_nil trivial ?_
   refine ⟨[(17, .s (.bool true)), (0, .s (.val (.func (.yield l) #[] #[]))), (1, .s (.ptr bx 0 0)), (3, .s (.int .i64 z))], Hs (k + 1), fun aa ww hr K Q' hK => ?_, ?_⟩
   · rw [← hP]
     exact yield_op (E := E2) (n := n) (D := D) (tm := tm) (fn := fn) (avs := [.s (.int .i64 z), .s (.int .u64 (ws.getD (ws.length - 1 - k) 0))]) (ps := #[a, b]) (Trow := T) (l := l) (H' := Hs (k + 1)) (assign := assign) (body := body) (by exact rfl) (by exact rfl) (by rw [hn]; kernel_rfl) (by rw [hw0]; exact hl) (by rw [hρ0]; exact hT) (htm.trans hnE) hps rfl (by rw [hP, hz]; exact hY k hlt) aa ww hr K Q' (fun a' w' hr' => hK a' w' ((weak_tm : Weak E2 _ _ _ _) a' w' hr'))
   refine s_op k_not ?_
   refine s_nil trivial ?_
   refine ni_wp ?_
   refine iw_F rfl ?_
   refine i_skip ?_
   refine n_blo ?_
   refine ni_wp ?_
   refine ig_reg hP hn ?_
   refine s_op k_mv ?_
   refine s_op (k_sub (by exact l_bin rfl rfl (b_sub (wrap_i64 (by omega))))) ?_
   refine s_op k_as ?_
   refine s_nil trivial ?_
   exact ⟨ws.length - (k + 1), by omega, _, _, weak_tm, k + 1, z - 1, by omega, rfl, by omega, rfl, rfl⟩
 · have hk2 : k = ws.length := by omega
   subst hk2
   refine i_exit ?_
   refine x_thn (x_thn (x_eq ?_))
   exact ⟨.inr rfl, weak_tm⟩

abbrev RH (each tot at_ : Nat) (out ws : List Int) : Heap := [some ⟨true, [.one (.int .i64 ((each : Nat) : Int))]⟩, some ⟨true, [.ints .u8 tot out]⟩, some ⟨true, [.one (.slice 1 0 0 tot tot)]⟩, some ⟨true, [.one (.int .i64 ((at_ : Nat) : Int))]⟩, some ⟨true, [.one (.fzi .u64 ws)]⟩]
theorem row1_c (B ws : List Int) (each tot : Nat) (ht : tot = B.length + each * ws.length) (htb : tot ≤ 140737488355328) (hws : ws.length ≤ 1000000) (h0 : 0 < B.length) : Con Tryz.prog 155 [.s (.fzi .u8 B), .s (.int .i64 ((each : Nat) : Int)), .s (.fzi .u64 ws)] [] (.s (.fzi .u8 (spl (rr tot each ws.length ws ws.length) (B.take B.length) 0 B.length tot))) [] := by
 refine con_inF 44 Tryz.func155 rfl rfl (m := 0) rfl ?_
 intro E hP hn hE hF
 refine qz hP hn ?_
 refine s_op k_bx ?_
 refine s_op k_as ?_
 refine qx hP hn ?_
 refine o4 ?_
 refine o2 ?_
 refine s_op (k_add (by exact l_bin rfl rfl (b_add (r := ((tot : Nat) : Int)) (by rw [ht]; exact m_add (by omega))))) ?_
 refine s_op k_mk ?_
 refine s_op k_al ?_
 refine s_st k_st ?_
 refine qx hP hn ?_
 refine o3 ?_
 refine s_st k_st ?_
 refine s_nil trivial (n_wp (w_seq (qz hP hn ?_)))
 refine s_op k_mv ?_
 refine s_op (k_call [] (con := backward_c _)) ?_
 refine s_nil trivial (n_wp (w_block ?_))
 have hmul : each * ws.length ≤ tot := by omega
 refine w_weak (weak_tm (T' := [(0, .s (.fzi .u8 B)), (4, .s (.ptr 0 0 0)), (7, .s (.ptr 2 0 0)), (8, .s (.ptr 3 0 0)), (22, .s (.clo 172 1 (capF [.ptr 4 0 0])))])) ?_
 refine w_rangeFunc (gf := 172) (n := 1) (q := capF [.ptr 4 0 0]) (Hend := RH each tot (tot - each * ws.length) (rr tot each ws.length ws ws.length) ws) hF rfl (by rw [hP]; exact Clb.h) (Nat.le_refl _) (back_iter hP hn 4 ws 23 24 (by decide) (by decide) _ _ _ (fun k => RH each tot (tot - each * k) (rr tot each ws.length ws k) ws) hws (fun _ _ => rfl) (fun k hk => ?_)) ?_
 · have hk1 : each * (k + 1) ≤ each * ws.length := Nat.mul_le_mul_left each hk
   have hnx : tot - each * (k + 1) = tot - each * k - each := by rw [Nat.mul_succ]; omega
   have hA1 : each ≤ tot - each * k := by rw [Nat.mul_succ] at hk1; omega
   have hA2 : tot - each * k ≤ tot := Nat.sub_le _ _
   show YRound _ _ _ _ _ (RH each tot (tot - each * k) (rr tot each ws.length ws k) ws) (RH each tot (tot - each * (k + 1)) (rb (rr tot each ws.length ws k) (tot - each * k) (ws.getD (ws.length - 1 - k) 0) each).1 ws)
   rw [hnx]
   have hout := rr_len tot each ws.length ws k
   generalize tot - each * k = A at *
   generalize rr tot each ws.length ws k = out at *
   generalize ws.getD (ws.length - 1 - k) 0 = v at *
   refine ⟨Nat.le_refl _, [(4, .s (.ptr 0 0 0)), (7, .s (.ptr 2 0 0)), (8, .s (.ptr 3 0 0)), (10, .s (.int .u64 v))], fun l E hP hn hE => ⟨?_, ?_⟩⟩
   · refine ig_reg hP hn ?_
     refine s_op k_as ?_
     refine s_nil trivial ?_
     exact ⟨rfl, weak_tm⟩
   · refine i_block ?_
     refine i_seq ?_
     refine ig_reg hP hn ?_
     refine o2 ?_
     refine s_nil trivial ?_
     refine ni_wp ?_
     refine i_block ?_
     refine i_loop (fun m T H => ∃ j, j ≤ each ∧ m = each - j ∧ T = [(4, .s (.ptr 0 0 0)), (7, .s (.ptr 2 0 0)), (8, .s (.ptr 3 0 0)), (10, .s (.int .u64 (rb out A v j).2)), (25, .s (.int .i64 ((each : Nat) : Int))), (26, .s (.int .i64 ((j : Nat) : Int)))] ∧ H = RH each tot (A - j) (rb out A v j).1 ws) (each) ⟨0, by omega, rfl, rfl, rfl⟩ weak_tm ?_
     rintro n_ T_ H_ ⟨j, hj, rfl, rfl, rfl⟩
     have hlj : (rb out A v j).1.length = tot := (rb_len out A v j).trans hout
     refine i_seq ?_
     refine ig_reg hP hn ?_
     refine s_op k_lss ?_
     refine s_nil trivial ?_
     refine ni_wp ?_
     refine i_seq ?_
     refine iw_if rfl (fun h_t27 => ?_) (fun h_t27 => ?_)
     · refine i_skip ?_
       refine ni_wp ?_
       refine i_seq ?_
       refine i_block ?_
       refine i_seq ?_
       refine ig_reg hP hn ?_
       refine o2 ?_
       refine s_st k_st ?_
       refine s_nil trivial ?_
       refine ni_wp ?_
       refine ig_reg hP hn ?_
       refine o3 ?_
       refine o2 ?_
       refine s_op (k_quo (by exact l_bin rfl rfl (b_quo (by decide) rfl))) ?_
       refine s_op k_ix ?_
       refine s_st k_st ?_
       refine s_op k_as ?_
       refine s_nil trivial (n_blo ?_)
       refine ni_wp ?_
       refine ig_reg hP hn ?_
       refine o2 ?_
       refine s_nil trivial ?_
       exact n_round (each - (j + 1)) (by omega) ⟨j + 1, by omega, rfl, rfl, rfl⟩ weak_tm
     · have hje : j = each := by omega
       subst hje
       refine i_exit ?_
       refine x_thn (x_thn (x_eq (n_blo ?_)))
       exact ⟨rfl, weak_tm⟩
 have hat : tot - each * ws.length = B.length := by omega
 rw [hat]
 refine n_blo (n_wp (qz hP hn ?_))
 refine o2 ?_
 refine s_op k_sl ?_
 refine s_op k_mv ?_
 refine s_op (k_cpn B.length) ?_
 refine qx hP hn ?_
 refine o2 ?_
 refine s_nil trivial (n_wp (w_ret ?_))
 have HL : (spl (rr tot each ws.length ws ws.length) (B.take B.length) 0 B.length tot).length = tot := spl_len _ _ _ _ _
 exact d_retw hP hn (r_tmp Tryz.results155) ((frz_sl 0 (l' := spl (rr tot each ws.length ws ws.length) (B.take B.length) 0 B.length tot) (hl := HL) (hl' := by rw [List.drop_zero]; exact List.take_of_length_le (Nat.le_of_eq HL))).trans (wk hE []))

theorem row0_c (B ws : List Int) (each tot : Nat) (ht : tot = B.length + each * ws.length) (htb : tot ≤ 140737488355328) (hws : ws.length ≤ 1000000) (h0 : B.length = 0) : Con Tryz.prog 155 [.s (.fzi .u8 B), .s (.int .i64 ((each : Nat) : Int)), .s (.fzi .u64 ws)] [] (.s (.fzi .u8 (rr tot each ws.length ws ws.length))) [] := by
 refine con_inF 44 Tryz.func155 rfl rfl (m := 0) rfl ?_
 intro E hP hn hE hF
 refine qz hP hn ?_
 refine s_op k_bx ?_
 refine s_op k_as ?_
 refine qx hP hn ?_
 refine o4 ?_
 refine o2 ?_
 refine s_op (k_add (by exact l_bin rfl rfl (b_add (r := ((tot : Nat) : Int)) (by rw [ht]; exact m_add (by omega))))) ?_
 refine s_op k_mk ?_
 refine s_op k_al ?_
 refine s_st k_st ?_
 refine qx hP hn ?_
 refine o3 ?_
 refine s_st k_st ?_
 refine s_nil trivial (n_wp (w_seq (qz hP hn ?_)))
 refine s_op k_mv ?_
 refine s_op (k_call [] (con := backward_c _)) ?_
 refine s_nil trivial (n_wp (w_block ?_))
 have hmul : each * ws.length ≤ tot := by omega
 refine w_weak (weak_tm (T' := [(0, .s (.fzi .u8 B)), (4, .s (.ptr 0 0 0)), (7, .s (.ptr 2 0 0)), (8, .s (.ptr 3 0 0)), (22, .s (.clo 172 1 (capF [.ptr 4 0 0])))])) ?_
 refine w_rangeFunc (gf := 172) (n := 1) (q := capF [.ptr 4 0 0]) (Hend := RH each tot (tot - each * ws.length) (rr tot each ws.length ws ws.length) ws) hF rfl (by rw [hP]; exact Clb.h) (Nat.le_refl _) (back_iter hP hn 4 ws 23 24 (by decide) (by decide) _ _ _ (fun k => RH each tot (tot - each * k) (rr tot each ws.length ws k) ws) hws (fun _ _ => rfl) (fun k hk => ?_)) ?_
 · have hk1 : each * (k + 1) ≤ each * ws.length := Nat.mul_le_mul_left each hk
   have hnx : tot - each * (k + 1) = tot - each * k - each := by rw [Nat.mul_succ]; omega
   have hA1 : each ≤ tot - each * k := by rw [Nat.mul_succ] at hk1; omega
   have hA2 : tot - each * k ≤ tot := Nat.sub_le _ _
   show YRound _ _ _ _ _ (RH each tot (tot - each * k) (rr tot each ws.length ws k) ws) (RH each tot (tot - each * (k + 1)) (rb (rr tot each ws.length ws k) (tot - each * k) (ws.getD (ws.length - 1 - k) 0) each).1 ws)
   rw [hnx]
   have hout := rr_len tot each ws.length ws k
   generalize tot - each * k = A at *
   generalize rr tot each ws.length ws k = out at *
   generalize ws.getD (ws.length - 1 - k) 0 = v at *
   refine ⟨Nat.le_refl _, [(4, .s (.ptr 0 0 0)), (7, .s (.ptr 2 0 0)), (8, .s (.ptr 3 0 0)), (10, .s (.int .u64 v))], fun l E hP hn hE => ⟨?_, ?_⟩⟩
   · refine ig_reg hP hn ?_
     refine s_op k_as ?_
     refine s_nil trivial ?_
     exact ⟨rfl, weak_tm⟩
   · refine i_block ?_
     refine i_seq ?_
     refine ig_reg hP hn ?_
     refine o2 ?_
     refine s_nil trivial ?_
     refine ni_wp ?_
     refine i_block ?_
     refine i_loop (fun m T H => ∃ j, j ≤ each ∧ m = each - j ∧ T = [(4, .s (.ptr 0 0 0)), (7, .s (.ptr 2 0 0)), (8, .s (.ptr 3 0 0)), (10, .s (.int .u64 (rb out A v j).2)), (25, .s (.int .i64 ((each : Nat) : Int))), (26, .s (.int .i64 ((j : Nat) : Int)))] ∧ H = RH each tot (A - j) (rb out A v j).1 ws) (each) ⟨0, by omega, rfl, rfl, rfl⟩ weak_tm ?_
     rintro n_ T_ H_ ⟨j, hj, rfl, rfl, rfl⟩
     have hlj : (rb out A v j).1.length = tot := (rb_len out A v j).trans hout
     refine i_seq ?_
     refine ig_reg hP hn ?_
     refine s_op k_lss ?_
     refine s_nil trivial ?_
     refine ni_wp ?_
     refine i_seq ?_
     refine iw_if rfl (fun h_t27 => ?_) (fun h_t27 => ?_)
     · refine i_skip ?_
       refine ni_wp ?_
       refine i_seq ?_
       refine i_block ?_
       refine i_seq ?_
       refine ig_reg hP hn ?_
       refine o2 ?_
       refine s_st k_st ?_
       refine s_nil trivial ?_
       refine ni_wp ?_
       refine ig_reg hP hn ?_
       refine o3 ?_
       refine o2 ?_
       refine s_op (k_quo (by exact l_bin rfl rfl (b_quo (by decide) rfl))) ?_
       refine s_op k_ix ?_
       refine s_st k_st ?_
       refine s_op k_as ?_
       refine s_nil trivial (n_blo ?_)
       refine ni_wp ?_
       refine ig_reg hP hn ?_
       refine o2 ?_
       refine s_nil trivial ?_
       exact n_round (each - (j + 1)) (by omega) ⟨j + 1, by omega, rfl, rfl, rfl⟩ weak_tm
     · have hje : j = each := by omega
       subst hje
       refine i_exit ?_
       refine x_thn (x_thn (x_eq (n_blo ?_)))
       exact ⟨rfl, weak_tm⟩
 have hat : tot - each * ws.length = B.length := by omega
 rw [hat]
 refine n_blo (n_wp (qz hP hn ?_))
 refine o2 ?_
 refine s_op k_sl ?_
 refine s_op k_mv ?_
 refine s_op a_copy0 ?_
 refine qx hP hn ?_
 refine o2 ?_
 refine s_nil trivial (n_wp (w_ret ?_))
 have HL : (rr tot each ws.length ws ws.length).length = tot := rr_len _ _ _ _ _
 exact d_retw hP hn (r_tmp Tryz.results155) ((frz_sl 0 (l' := rr tot each ws.length ws ws.length) (hl := HL) (hl' := by rw [List.drop_zero]; exact List.take_of_length_le (Nat.le_of_eq HL))).trans (wk hE []))

theorem row_c (B ws : List Int) (each tot : Nat) (ht : tot = B.length + each * ws.length) (htb : tot ≤ 140737488355328) (hws : ws.length ≤ 1000000) : Con Tryz.prog 155 [.s (.fzi .u8 B), .s (.int .i64 ((each : Nat) : Int)), .s (.fzi .u64 ws)] [] (.s (.fzi .u8 (rowL tot B B.length each ws.length ws))) [] := by
 unfold rowL
 by_cases h : B.length = 0
 · rw [if_pos h]; exact row0_c B ws each tot ht htb hws h
 · rw [if_neg h]; exact row1_c B ws each tot ht htb hws (by omega)

theorem put_c (B : List Int) (v : Int) (n : Nat) (hn8 : n ≤ 8) (hB : B.length ≤ 140737488355000) : Con Tryz.prog 97 [.s (.fzi .u8 B), .s (.int .u64 v), .s (.int .i64 ((n : Nat) : Int))] [] (.s (.fzi .u8 (rowL (B.length + n * 1) B B.length n 1 [v]))) [] := by
 refine con_in 14 Tryz.func97 rfl rfl (m := 0) rfl ?_
 intro E hP hn hE
 refine qz hP hn ?_
 refine s_op k_as ?_
 refine qx hP hn ?_
 refine o2 ?_
 refine s_op (k_min (by exact l_min (r := ((n : Nat) : Int)) rfl rfl (by have := hn8; split <;> omega))) ?_
 refine s_op (k_max (by exact l_max (r := ((n : Nat) : Int)) rfl rfl (by split <;> omega))) ?_
 refine s_op k_mv ?_
 refine s_op k_bsf ?_
 refine s_op (k_call [] (con := row_c B [v] n (B.length + n * 1) rfl (by omega) (Nat.le_of_ble_eq_true rfl))) ?_
 refine s_op k_as ?_
 refine s_nil trivial (n_wp (w_ret ?_))
 exact d_ret hP hn hE [] (by first | exact r_tmp Tryz.results97 | exact r_tmpa Tryz.results97)

end Go.Proofs.X
end

section
set_option maxRecDepth 100000
set_option maxHeartbeats 4000000
open Go Go.Bx Go.Proofs
namespace Go.Proofs.X
theorem rot_c (x k : Int) : Con Tryz.prog 180 [.s (.int .u32 x), .s (.int .i64 k)] [] (.s (.int .u32 (rotI x k))) [] := by
 refine con_in 17 Tryz.func180 rfl rfl (m := 0) rfl ?_
 intro E hP hn hE
 refine qz hP hn ?_
 refine s_op k_as ?_
 refine qx hP hn ?_
 refine s_op k_mv ?_
 refine s_op (k_cv (by exact a_conv rfl rfl)) ?_
 refine s_op (k_and (by exact l_bin rfl rfl (b_and rfl))) ?_
 refine s_op k_as ?_
 refine qx hP hn ?_
 refine o2 ?_
 refine s_op (k_shl (by exact l_bin rfl rfl (b_shl (rs_nonneg _) rfl))) ?_
 refine o2 ?_
 refine s_op (k_sub (by exact l_bin rfl rfl (b_sub rfl))) ?_
 refine s_op (k_shr (by exact l_bin rfl rfl (b_shr (wrap_u64_nonneg _) rfl))) ?_
 refine o2 ?_
 refine s_nil trivial (n_wp (w_ret ?_))
 exact d_ret hP hn hE [] (by first | exact r_tmp Tryz.results180 | exact r_tmpa Tryz.results180)

theorem down_c (x : Int) (ps : List Int) (hl : ps.length ≤ 64) : Con Tryz.prog 177 [.s (.int .u32 x), .s (.fzi .i64 ps)] [] (.s (.int .u32 (dnI x ps ps.length))) [] := by
 refine con_in 22 Tryz.func177 rfl rfl (m := 0) rfl ?_
 intro E hP hn hE
 refine qz hP hn ?_
 refine s_op k_as ?_
 refine qx hP hn ?_
 refine s_op k_as ?_
 refine s_nil trivial (n_wp (w_seq (qz hP hn ?_)))
 refine o3 ?_
 refine s_nil trivial (n_wp (w_block ?_))
 refine c_loop (fun m T H => ∃ i, i ≤ ps.length ∧ m = ps.length - i ∧ T = [(0, .s (.int .u32 x)), (5, .s (.int .u32 (dnI x ps i))), (8, .s (.fzi .i64 ps)), (9, .s (.int .i64 ((ps.length : Nat) : Int))), (10, .s (.int .i64 ((i : Nat) : Int)))] ∧ H = []) (ps.length) ⟨0, by omega, rfl, rfl, rfl⟩ (wk hE []) ?_
 rintro n_ T_ H_ ⟨i, hi, rfl, rfl, rfl⟩
 refine qz hP hn ?_
 refine s_op k_lss ?_
 refine s_nil trivial (n_wp (w_seq ?_))
 refine w_if rfl (fun h_t11 => ?_) (fun h_t11 => ?_)
 · refine w_skip (n_wp (w_seq (w_block (qz hP hn ?_))))
   refine o3 ?_
   refine qy hP hn ?_
   refine o3 ?_
   refine s_op k_neg ?_
   refine s_op (k_call [] (con := rot_c _ _)) ?_
   refine o2 ?_
   refine s_nil trivial (n_blo (n_wp (g_reg hP hn ?_)))
   refine o2 ?_
   refine s_nil trivial ?_
   exact n_round (ps.length - (i + 1)) (by omega) ⟨i + 1, by omega, rfl, rfl, rfl⟩ (wk hE [])
 · have hi : i = ps.length := by omega
   subst hi
   refine w_exit (x_thn (x_thn (x_eq (n_wp (qz hP hn ?_)))))
   refine o2 ?_
   refine s_nil trivial (n_wp (w_ret ?_))
   exact d_ret hP hn hE [] (by first | exact r_tmp Tryz.results177 | exact r_tmpa Tryz.results177)

theorem get_c (B : List Int) (m : Nat) (h0 : 0 < m) (h8 : m ≤ 8) (hm : m ≤ B.length) : Con Tryz.prog 103 [.s (.fzi .u8 B), .s (.int .i64 ((m : Nat) : Int))] [] (.tup [.s (.int .u64 (getI B m)), .s (.int .i64 0)]) [] := by
 refine con_in 35 Tryz.func103 rfl rfl (m := 0) rfl ?_
 intro E hP hn hE
 refine qz hP hn ?_
 refine o2 ?_
 refine s_nil trivial (n_wp (w_seq (qz hP hn ?_)))
 refine o3 ?_
 refine s_on rfl rfl rfl k_mv ?_
 refine s_on rfl rfl rfl k_gtr ?_
 refine s_op k_pk ?_
 refine s_nil trivial (n_wp ?_)
 refine w_F rfl ?_ 
 refine w_skip (n_wp (w_seq (qz hP hn ?_)))
 refine o4 ?_
 refine s_nil trivial (n_wp ?_)
 refine w_F rfl ?_ 
 refine w_skip (n_wp (qz hP hn ?_))
 refine s_op k_al ?_
 refine qx hP hn ?_
 refine o2 ?_
 refine s_op k_sl ?_
 refine s_op k_mv ?_
 refine s_op (k_cpn m) ?_
 refine s_nil trivial (n_wp (w_seq (qz hP hn ?_)))
 refine s_op k_mv ?_
 refine s_nil trivial (n_wp (w_block ?_))
 refine c_loop (fun q T H => ∃ i, i ≤ 8 ∧ q = 8 - i ∧ T = [(4, .s (.int .u64 (gI (spl (z 8) (B.take m) (8 - m) m 8) i))), (6, .s (.ptr 0 0 0)), (23, .s (.int .i64 ((i : Nat) : Int)))] ∧ H = [some ⟨true, [.ints .u8 8 (spl (z 8) (B.take m) (8 - m) m 8)]⟩]) (8) ⟨0, by omega, rfl, rfl, rfl⟩ (wk hE []) ?_
 rintro n_ T_ H_ ⟨i, hi, rfl, rfl, rfl⟩
 refine qz hP hn ?_
 refine s_op k_lss ?_
 refine s_nil trivial (n_wp (w_seq ?_))
 refine w_if rfl (fun h_t24 => ?_) (fun h_t24 => ?_)
 · refine w_skip (n_wp (w_seq (w_block (qz hP hn ?_))))
   refine o2 ?_
   refine qy hP hn ?_
   refine o4 ?_
   refine o4 ?_
   refine s_nil trivial (n_blo (n_wp (g_reg hP hn ?_)))
   refine o2 ?_
   refine s_nil trivial ?_
   exact n_round (8 - (i + 1)) (by omega) ⟨i + 1, by omega, rfl, rfl, rfl⟩ (wk hE [])
 · have hi : i = 8 := by omega
   subst hi
   refine w_exit (x_thn (x_thn (x_eq (n_wp (qz hP hn ?_)))))
   refine o3 ?_
   refine s_nil trivial (n_wp (w_ret ?_))
   exact d_ret hP hn hE [] (ret2 Tryz.results103 (by first | exact ri_tmp rfl | exact ri_tmpa rfl) (by first | exact ri_tmp rfl | exact ri_tmpa rfl))

theorem adds_c  : Con Tryz.prog 176 [] [] (.agg [.ints .u32 64 KS]) [] := by
 refine con_in 2 Tryz.func176 rfl rfl (m := 0) rfl ?_
 intro E hP hn hE
 refine qz hP hn ?_
 refine s_op k_al ?_
 refine qx hP hn ?_
 refine s_op (k_bd (by exact a_buildK KS (by kernel_rfl) (by kernel_rfl) rfl)) ?_
 refine s_st k_st ?_
 refine s_nil trivial (n_wp (w_ret ?_))
 exact d_ret hP hn hE [] (r_cell Tryz.results176)

end Go.Proofs.X
end

section
set_option maxRecDepth 100000
set_option maxHeartbeats 4000000
open Go Go.Bx Go.Proofs
namespace Go.Proofs.X
attribute [local irreducible] dnI gI
theorem numA_c (w : List Int) (t : Nat) (s b : List Int) (n l : Int) (hw : w.length = 16) (hb : b.length = 64) (ht : t < 16) : Con Tryz.prog 179 [.s (.ptr 0 0 0), .s (.ptr 1 0 0), .s (.ptr 2 0 0)] [some ⟨true, [.ints .u32 16 w]⟩, some ⟨true, [.one (.int .i64 ((t : Nat) : Int))]⟩, some ⟨true, [.one (.ptr 3 1 0)]⟩, some ⟨true, RUN s b n l⟩] (.s (.int .u32 ((w.set (t % 16) (IntKind.u32.wrap (getI ((b.drop (4 * t)).take (64 - 4 * t)) 4))).getD (t % 16) 0))) [some ⟨true, [.ints .u32 16 (w.set (t % 16) (IntKind.u32.wrap (getI ((b.drop (4 * t)).take (64 - 4 * t)) 4)))]⟩, some ⟨true, [.one (.int .i64 ((t + 1 : Nat) : Int))]⟩, some ⟨true, [.one (.ptr 3 1 0)]⟩, some ⟨true, RUN s b n l⟩] := by
 refine con_in 75 Tryz.func179 rfl rfl (m := 4) rfl ?_
 intro E hP hn hE
 refine qz hP hn ?_
 refine s_op k_as ?_
 refine qx hP hn ?_
 refine o4 ?_
 refine s_nil trivial (n_wp (w_seq (qz hP hn ?_)))
 refine o2 ?_
 refine s_nil trivial (n_wp ?_)
 refine w_T rfl ?_ 
 refine w_seq ?_
 refine g_any hP hn ?_
 refine o3 ?_
 refine o2 ?_
 refine s_op k_sl ?_
 refine s_op (k_tmp 3 (h := k_call [] (con := get_c ((b.drop (4 * t)).take (64 - 4 * t)) 4 (by decide) (by decide) (by simp [hb]; omega)))) ?_
 refine o3 ?_
 refine o2 ?_
 refine s_nil (by kernel_rfl) ?_
 refine n_wp (g_reg hP hn ?_)
 refine o4 ?_
 refine s_st k_st ?_
 refine qx hP hn ?_
 refine o2 ?_
 refine s_st k_st ?_
 refine qx hP hn ?_
 refine o4 ?_
 refine s_nil trivial (n_wp (w_ret ?_))
 exact d_ret hP hn hE [] (by first | exact r_tmp Tryz.results179 | exact r_tmpa Tryz.results179)

theorem numB_c (w : List Int) (t : Nat) (s b : List Int) (n l : Int) (hw : w.length = 16) (hb : b.length = 64) (ht : ¬ t < 16) (ht2 : t < 64) : Con Tryz.prog 179 [.s (.ptr 0 0 0), .s (.ptr 1 0 0), .s (.ptr 2 0 0)] [some ⟨true, [.ints .u32 16 w]⟩, some ⟨true, [.one (.int .i64 ((t : Nat) : Int))]⟩, some ⟨true, [.one (.ptr 3 1 0)]⟩, some ⟨true, RUN s b n l⟩] (.s (.int .u32 ((wn3 (wn2 (wn1 w t) (w.getD ((t + 14) % 16) 0) t) t).getD (t % 16) 0))) [some ⟨true, [.ints .u32 16 (wn3 (wn2 (wn1 w t) (w.getD ((t + 14) % 16) 0) t) t)]⟩, some ⟨true, [.one (.int .i64 ((t + 1 : Nat) : Int))]⟩, some ⟨true, [.one (.ptr 3 1 0)]⟩, some ⟨true, RUN s b n l⟩] := by
 refine con_in 75 Tryz.func179 rfl rfl (m := 4) rfl ?_
 intro E hP hn hE
 refine qz hP hn ?_
 refine s_op k_as ?_
 refine qx hP hn ?_
 refine o4 ?_
 refine s_nil trivial (n_wp (w_seq (qz hP hn ?_)))
 refine o2 ?_
 refine s_nil trivial (n_wp ?_)
 refine w_F rfl ?_ 
 refine w_seq ?_
 refine g_any hP hn ?_
 refine o4 ?_
 refine o4 ?_
 refine o4 ?_
 refine s_nil (by kernel_rfl) ?_
 refine n_wp (w_seq ?_)
 refine g_any hP hn ?_
 refine o4 ?_
 refine s_op k_bsf ?_
 refine s_op (k_call [] (con := down_c _ _ (by decide))) ?_
 refine o3 ?_
 refine o2 ?_
 refine s_st k_st ?_
 refine s_nil (by kernel_rfl) ?_
 refine n_wp (w_seq ?_)
 refine g_any hP hn ?_
 refine o4 ?_
 refine s_op k_bsf ?_
 refine s_op (k_call [] (con := down_c _ _ (by decide))) ?_
 refine o3 ?_
 refine o2 ?_
 refine s_st k_st ?_
 refine s_nil (by kernel_rfl) ?_
 refine n_wp ?_
 refine g_any hP hn ?_
 refine o4 ?_
 refine o4 ?_
 refine o2 ?_
 refine s_st k_st ?_
 refine s_nil (by kernel_rfl) ?_
 refine n_wp (qz hP hn ?_)
 refine o2 ?_
 refine s_st k_st ?_
 refine qx hP hn ?_
 refine o4 ?_
 refine s_nil trivial (n_wp (w_ret ?_))
 exact d_ret hP hn hE [] (by first | exact r_tmp Tryz.results179 | exact r_tmpa Tryz.results179)

theorem num_c (w : List Int) (t : Nat) (s b : List Int) (n l : Int) (hw : w.length = 16) (hb : b.length = 64) (ht : t < 64) : Con Tryz.prog 179 [.s (.ptr 0 0 0), .s (.ptr 1 0 0), .s (.ptr 2 0 0)] [some ⟨true, [.ints .u32 16 w]⟩, some ⟨true, [.one (.int .i64 ((t : Nat) : Int))]⟩, some ⟨true, [.one (.ptr 3 1 0)]⟩, some ⟨true, RUN s b n l⟩] (.s (.int .u32 ((wn b w t).getD (t % 16) 0))) [some ⟨true, [.ints .u32 16 (wn b w t)]⟩, some ⟨true, [.one (.int .i64 ((t + 1 : Nat) : Int))]⟩, some ⟨true, [.one (.ptr 3 1 0)]⟩, some ⟨true, RUN s b n l⟩] := by
 by_cases h : t < 16
 · rw [wn_lt b w h]; exact numA_c w t s b n l hw hb h
 · rw [wn_ge b w h]; exact numB_c w t s b n l hw hb h ht

theorem numbers_c (s b : List Int) (n l : Int) : Con Tryz.prog 175 [.s (.ptr 0 1 0)] [some ⟨true, RUN s b n l⟩] (.s (.clo 179 3 (capF [.ptr 2 0 0, .ptr 3 0 0, .ptr 1 0 0]))) [some ⟨true, RUN s b n l⟩, some ⟨true, [.one (.ptr 0 1 0)]⟩, some ⟨true, [.ints .u32 16 (z 16)]⟩, some ⟨true, [.one (.int .i64 ((0 : Nat) : Int))]⟩] := by
 refine con_in 6 Tryz.func175 rfl rfl (m := 1) rfl ?_
 intro E hP hn hE
 refine qz hP hn ?_
 refine s_op k_bx ?_
 refine s_op k_as ?_
 refine qx hP hn ?_
 refine s_op k_al ?_
 refine qx hP hn ?_
 refine s_op k_al ?_
 refine s_st k_st ?_
 refine qx hP hn ?_
 refine s_op (k_fn [.ptr 2 0 0, .ptr 3 0 0, .ptr 1 0 0]) ?_
 refine s_op k_as ?_
 refine s_nil trivial (n_wp (w_ret ?_))
 exact d_ret hP hn hE [] (by first | exact r_tmp Tryz.results175 | exact r_tmpa Tryz.results175)

theorem after_c (s0 s b : List Int) (n l : Int) (hs : s0.length = 8) (hb : b.length = 64) : Con Tryz.prog 171 [.agg [.ints .u32 8 s0], .s (.ptr 0 1 0)] [some ⟨true, RUN s b n l⟩] (.agg [.ints .u32 8 (aft s0 b)]) [some ⟨true, RUN s b n l⟩] := by
 refine con_in 90 Tryz.func171 rfl rfl (m := 1) rfl ?_
 intro E hP hn hE
 refine qz hP hn ?_
 refine s_op k_bx ?_
 refine s_op k_al ?_
 refine s_nil trivial (n_wp (w_seq ?_))
 refine g_any hP hn ?_
 refine o2 ?_
 refine s_op (k_call [0] (con := numbers_c _ _ _ _)) ?_
 refine s_heap (H' := [some ⟨true, RUN s b n l⟩, some ⟨true, [.ints .u32 8 s0]⟩, some ⟨true, [.ints .u32 8 (z 8)]⟩, some ⟨true, [.one (.ptr 0 1 0)]⟩, some ⟨true, [.ints .u32 16 (z 16)]⟩, some ⟨true, [.one (.int .i64 ((0 : Nat) : Int))]⟩]) rfl ?_
 refine s_op k_al ?_
 refine s_st k_st ?_
 refine s_op k_as ?_
 refine s_nil (by kernel_rfl) ?_
 refine n_wp (w_seq (qz hP hn ?_))
 refine s_op (k_call [] (con := adds_c)) ?_
 refine s_op k_mv ?_
 refine s_nil trivial (n_wp (w_block ?_))
 refine c_loop (fun q T H => ∃ i, i ≤ 64 ∧ q = 64 - i ∧ T = [(2, .s (.ptr 1 0 0)), (4, .s (.ptr 2 0 0)), (5, .s (.ptr 6 0 0)), (6, .s (.clo 179 3 (capF [.ptr 4 0 0, .ptr 5 0 0, .ptr 3 0 0]))), (16, .agg [.ints .u32 64 KS]), (17, .s (.int .i64 ((i : Nat) : Int)))] ∧ H = [some ⟨true, RUN s b n l⟩, some ⟨true, [.ints .u32 8 s0]⟩, some ⟨true, [.ints .u32 8 (z 8)]⟩, some ⟨true, [.one (.ptr 0 1 0)]⟩, some ⟨true, [.ints .u32 16 (ws b i)]⟩, some ⟨true, [.one (.int .i64 ((i : Nat) : Int))]⟩, some ⟨true, [.ints .u32 8 (ls s0 b i)]⟩]) (64) ⟨0, by omega, rfl, rfl, rfl⟩ (wk hE []) ?_
 rintro n_ T_ H_ ⟨i, hi, rfl, rfl, rfl⟩
 refine qz hP hn ?_
 refine s_op k_lss ?_
 refine s_nil trivial (n_wp (w_seq ?_))
 refine w_if rfl (fun h_t18 => ?_) (fun h_t18 => ?_)
 · have h8 := ls_len s0 b hs i
   have h16 := ws_len b i
   refine w_skip (n_wp (w_seq (w_block (qz hP hn ?_))))
   refine s_op k_id ?_
   refine s_op k_as ?_
   refine s_nil trivial (n_wp (w_seq ?_))
   refine g_any hP hn ?_
   refine o4 ?_
   refine s_op k_bsf ?_
   refine s_op (k_call [] (con := down_c _ _ (by decide))) ?_
   refine o4 ?_
   refine o4 ?_
   refine s_op k_com ?_
   refine o4 ?_
   refine o4 ?_
   refine s_op (k_callc [4, 5, 3, 0] rfl (con := num_c (ws b i) i s b n l h16 hb h_t18)) ?_
   refine s_heap (H' := [some ⟨true, RUN s b n l⟩, some ⟨true, [.ints .u32 8 s0]⟩, some ⟨true, [.ints .u32 8 (z 8)]⟩, some ⟨true, [.one (.ptr 0 1 0)]⟩, some ⟨true, [.ints .u32 16 (wn b (ws b i) i)]⟩, some ⟨true, [.one (.int .i64 ((i + 1 : Nat) : Int))]⟩, some ⟨true, [.ints .u32 8 (ls s0 b i)]⟩, none]) rfl ?_
   refine o2 ?_
   refine s_nil (by kernel_rfl) ?_
   refine n_wp (w_seq ?_)
   refine g_any hP hn ?_
   refine o2 ?_
   refine s_op k_bsf ?_
   refine s_op (k_call [] (con := down_c _ _ (by decide))) ?_
   refine o4 ?_
   refine o4 ?_
   refine o4 ?_
   refine o4 ?_
   refine s_nil (by kernel_rfl) ?_
   refine n_wp (w_seq ?_)
   refine g_any hP hn ?_
   refine s_op k_sl ?_
   refine s_op k_sl ?_
   refine s_op (k_cpn 7) ?_
   refine s_nil (by kernel_rfl) ?_
   refine n_wp (qz hP hn ?_)
   refine o3 ?_
   refine o2 ?_
   refine s_st k_st ?_
   refine qy hP hn ?_
   refine o4 ?_
   refine s_st k_st ?_
   refine s_nil trivial (n_blo (n_wp (g_reg hP hn ?_)))
   refine o2 ?_
   refine s_nil trivial ?_
   exact n_round (64 - (i + 1)) (by omega) ⟨i + 1, by omega, rfl, rfl, rfl⟩ (wk hE [])
 · have hi : i = 64 := by omega
   subst hi
   have h8 := ls_len s0 b hs 64
   refine w_exit (x_thn (x_thn (x_eq (n_wp (w_seq (qz hP hn ?_))))))
   refine o2 ?_
   refine s_nil trivial (n_wp (w_block ?_))
   refine c_loop (fun q T H => ∃ i, i ≤ 8 ∧ q = 8 - i ∧ T = [(4, .s (.ptr 2 0 0)), (5, .s (.ptr 6 0 0)), (77, .agg [.ints .u32 8 s0]), (78, .s (.int .i64 ((i : Nat) : Int)))] ∧ H = [some ⟨true, RUN s b n l⟩, some ⟨true, [.ints .u32 8 s0]⟩, some ⟨true, [.ints .u32 8 (z 8)]⟩, some ⟨true, [.one (.ptr 0 1 0)]⟩, some ⟨true, [.ints .u32 16 (ws b 64)]⟩, some ⟨true, [.one (.int .i64 ((64 : Nat) : Int))]⟩, some ⟨true, [.ints .u32 8 (fin s0 (ls s0 b 64) i)]⟩]) (8) ⟨0, by omega, rfl, rfl, rfl⟩ (wk hE []) ?_
   rintro n_ T_ H_ ⟨i, hi, rfl, rfl, rfl⟩
   refine qz hP hn ?_
   refine s_op k_lss ?_
   refine s_nil trivial (n_wp (w_seq ?_))
   refine w_if rfl (fun h_t79 => ?_) (fun h_t79 => ?_)
   · have h8 := (fin_len s0 (ls s0 b 64) i).trans (ls_len s0 b hs 64)
     refine w_skip (n_wp (w_seq (w_block (qz hP hn ?_))))
     refine s_op k_mv ?_
     refine s_op k_id ?_
     refine o2 ?_
     refine qy hP hn ?_
     refine o4 ?_
     refine o2 ?_
     refine s_st k_st ?_
     refine s_nil trivial (n_blo (n_wp (g_reg hP hn ?_)))
     refine o2 ?_
     refine s_nil trivial ?_
     exact n_round (8 - (i + 1)) (by omega) ⟨i + 1, by omega, rfl, rfl, rfl⟩ (wk hE [])
   · have hi : i = 8 := by omega
     subst hi
     refine w_exit (x_thn (x_thn (x_eq (n_wp (qz hP hn ?_)))))
     refine s_op k_ld ?_
     refine s_st k_st ?_
     refine s_nil trivial (n_wp (w_ret ?_))
     exact d_ret hP hn hE [] (r_cell Tryz.results171)

end Go.Proofs.X
end

section
/- What the program's sums compute of bytes, one by one. No program. -/
open Go Go.Bx
namespace Go.Proofs.X
structure Run where
  s : List Int
  b : List Int
  m : Nat
structure RunOk (q : Run) : Prop where
  s : q.s.length = 8
  b : q.b.length = 64
  m : q.m < 64
def put1 (q : Run) (x : Int) : Run := if q.m + 1 = 64 then ⟨aft q.s (q.b.set q.m x), q.b.set q.m x, 0⟩ else ⟨q.s, q.b.set q.m x, q.m + 1⟩
def tk (q : Run) (l : List Int) : Run := l.foldl put1 q
theorem put1_ok {q : Run} (h : RunOk q) (x : Int) : RunOk (put1 q x) := by
  unfold put1
  split
  · exact ⟨aft_len _ _ h.s, by simpa using h.b, by show 0 < 64; omega⟩
  · exact ⟨h.s, by simpa using h.b, by have := h.m; show q.m + 1 < 64; omega⟩
theorem tk_ok {q : Run} (h : RunOk q) (l : List Int) : RunOk (tk q l) := by
  induction l generalizing q with
  | nil => exact h
  | cons x r ih => exact ih (put1_ok h x)
theorem tk_append (q : Run) (a b : List Int) : tk q (a ++ b) = tk (tk q a) b := List.foldl_append
theorem tk_nil (q : Run) : tk q [] = q := rfl
def chunk (q : Run) (c : List Int) (n : Nat) : Run := if q.m + n = 64 then ⟨aft q.s (spl q.b c (q.m) n 64), spl q.b c (q.m) n 64, 0⟩ else ⟨q.s, spl q.b c (q.m) n 64, q.m + n⟩
theorem eq_getD {a b : List Int} {n : Nat} (ha : a.length = n) (hb : b.length = n) (h : ∀ k, k < n → a.getD k 0 = b.getD k 0) : a = b := by
  apply List.ext_getElem (by omega)
  intro i h1 h2
  have := h i (by omega)
  simpa [List.getD_eq_getElem?_getD, h1, h2] using this
theorem spl_getD (xs ys : List Int) (i n m k : Nat) (hk : k < m) : (spl xs ys i n m).getD k 0 = if i ≤ k ∧ k < i + n then ys.getD (k - i) 0 else xs.getD k 0 := by
  simp [spl, List.getD_eq_getElem?_getD, hk]
theorem tk_chunk (q : Run) (h : RunOk q) (c : List Int) (n : Nat) (hc : c.length = n) (hn : q.m + n ≤ 64) (h0 : 0 < n) : tk q c = chunk q c n := by
  obtain ⟨n, rfl⟩ : ∃ k, n = k + 1 := ⟨n - 1, by omega⟩
  clear h0
  induction n generalizing c with
  | zero =>
    match c, hc with
    | [x], _ =>
      have e : q.b.set q.m x = spl q.b [x] (q.m) (0 + 1) 64 := eq_getD (n := 64) (by simp [h.b]) (spl_len _ _ _ _ _) fun k hk => by
        rw [lset_getD, spl_getD _ _ _ _ _ _ hk, h.b]
        by_cases hm : q.m = k
        · subst hm; rw [if_pos ⟨rfl, hk⟩, if_pos (by omega)]; simp
        · rw [if_neg (fun x => hm x.1), if_neg (by omega)]
      show put1 q x = _
      unfold put1 chunk
      rw [e]
  | succ n ih =>
    have hd : c = c.take (n + 1) ++ [c.getD (n + 1) 0] := by
      apply List.ext_getElem (by simp; omega)
      intro i h1 h2
      by_cases hi : i < n + 1
      · rw [List.getElem_append_left (by simp; omega)]; simp
      · have : i = n + 1 := by omega
        subst this
        rw [List.getElem_append_right (by simp; omega)]
        simp [List.getD_eq_getElem?_getD, h1]
    have hl : (c.take (n + 1)).length = n + 1 := by simp; omega
    have := ih (c.take (n + 1)) hl (by omega)
    rw [hd, tk_append, this]
    have e1 : chunk q (c.take (n + 1)) (n + 1) = ⟨q.s, spl q.b (c.take (n + 1)) (q.m) (n + 1) 64, q.m + (n + 1)⟩ := if_neg (by omega)
    rw [e1]
    have e : (spl q.b (c.take (n + 1)) (q.m) (n + 1) 64).set (q.m + (n + 1)) (c.getD (n + 1) 0) = spl q.b c (q.m) (n + 1 + 1) 64 := eq_getD (n := 64) (by simp [spl_len]) (spl_len _ _ _ _ _) fun k hk => by
      rw [lset_getD, spl_getD _ _ _ _ _ _ hk, spl_getD _ _ _ _ _ _ hk, spl_len]
      by_cases hm : q.m + (n + 1) = k
      · subst hm; rw [if_pos ⟨rfl, hk⟩, if_pos (by omega)]; congr 1; omega
      · rw [if_neg (fun x => hm x.1)]
        by_cases h2 : q.m ≤ k ∧ k < q.m + (n + 1)
        · rw [if_pos h2, if_pos (by omega)]
          rw [List.getD_eq_getElem?_getD, List.getD_eq_getElem?_getD, List.getElem?_take_of_lt (by omega)]
        · rw [if_neg h2, if_neg (by omega)]
    rw [← hd]
    show put1 _ (c.getD (n + 1) 0) = _
    unfold put1 chunk
    simp only
    rw [e]
    simp only [Nat.add_assoc]
theorem chunk_ok {q : Run} (h : RunOk q) (c : List Int) (n : Nat) (hn : q.m + n ≤ 64) : RunOk (chunk q c n) := by
  unfold chunk
  split
  · exact ⟨aft_len _ _ h.s, spl_len _ _ _ _ _, by show 0 < 64; omega⟩
  · exact ⟨h.s, spl_len _ _ _ _ _, by show q.m + n < 64; omega⟩
def S0 : List Int := [1779033703, 3144134277, 1013904242, 2773480762, 1359893119, 2600822924, 528734635, 1541459225]
def run0 : Run := ⟨S0, z 64, 0⟩
theorem run0_ok : RunOk run0 := ⟨rfl, z_len _, by show 0 < 64; omega⟩
abbrev RQ (q : Run) (tot : Nat) : Blk := ⟨true, RUN q.s q.b ((q.m : Nat) : Int) ((tot : Nat) : Int)⟩
abbrev ROWS (L : List (List Int)) : SV := .fz L.length 1 fun i _ => (L.map (SV.fzi .u8)).getD i .nils
theorem rows_at (L : List (List Int)) {i : Nat} (h : i < L.length) : (L.map (SV.fzi .u8)).getD i .nils = .fzi .u8 (L.getD i []) := by
  simp [List.getD_eq_getElem?_getD, h]
theorem flat_s (L : List (List Int)) {i : Nat} (h : i < L.length) : (L.take (i + 1)).flatten = (L.take i).flatten ++ L.getD i [] := by
  rw [List.take_add_one, List.flatten_append]
  simp [List.getD_eq_getElem?_getD, h]
end Go.Proofs.X
end

section
set_option maxRecDepth 100000
set_option maxHeartbeats 4000000
open Go Go.Bx Go.Proofs
namespace Go.Proofs.X
attribute [local irreducible] ws ls dnI gI
theorem takes_c (L : List (List Int)) (q0 : Run) (tot : Nat) (hq0 : RunOk q0) (hL : L.length ≤ 1000000) (hl : tot + L.flatten.length < 18446744073709551616) (hB : ∀ i, (L.getD i []).length ≤ 4611686018427387904) : Con Tryz.prog 166 [.s (.ptr 0 0 0), .s (ROWS L)] [some (RQ q0 tot)] (.tup []) [some (RQ (tk q0 L.flatten) (tot + L.flatten.length))] := by
 refine con_in 76 Tryz.func166 rfl rfl (m := 1) rfl ?_
 intro E hP hn hE
 refine qz hP hn ?_
 refine o3 ?_
 refine s_nil trivial (n_wp (w_block ?_))
 refine c_loop (fun m T H => ∃ i q, i ≤ L.length ∧ m = L.length - i ∧ q = tk q0 (L.take i).flatten ∧ T = [(0, .s (.ptr 0 0 0)), (8, .s (ROWS L)), (9, .s (.int .i64 ((L.length : Nat) : Int))), (10, .s (.int .i64 ((i : Nat) : Int)))] ∧ H = [some (RQ q (tot + ((L.take i).flatten).length))]) (L.length) ⟨0, q0, by omega, rfl, by simp [tk], rfl, rfl⟩ (wk hE []) ?_
 rintro n_ T_ H_ ⟨i, q, hi, rfl, hq, rfl, rfl⟩
 have hok : RunOk q := hq ▸ tk_ok hq0 _
 refine qz hP hn ?_
 refine s_op k_lss ?_
 refine s_nil trivial (n_wp (w_seq ?_))
 refine w_if rfl (fun h_t11 => ?_) (fun h_t11 => ?_)
 · have hfl := flat_s L h_t11
   have htot : (L.take (i + 1)).flatten.length = (L.take i).flatten.length + (L.getD i []).length := by rw [hfl, List.length_append]
   have hstart : tk q (L.getD i []) = tk q0 (L.take (i + 1)).flatten := by rw [hfl, tk_append, hq]
   have hle : (L.take (i + 1)).flatten.length ≤ L.flatten.length := by
     have := congrArg (fun x => (List.flatten x).length) (List.take_append_drop (i + 1) L)
     simp only [List.flatten_append, List.length_append] at this
     omega
   refine w_skip (n_wp (w_seq (w_block (qz hP hn ?_))))
   refine s_op k_ix ?_
   refine s_op (k_ld (by exact a_loadf (v := .fzi .u8 (L.getD i [])) rfl (by omega) (rows_at L h_t11))) ?_
   refine s_op k_as ?_
   refine qx hP hn ?_
   refine o4 ?_
   refine o4 ?_
   refine o2 ?_
   refine s_st k_st ?_
   refine s_nil trivial (n_wp (w_block ?_))
   refine c_loop (fun m T H => ∃ (q : Run) (W : List Int), RunOk q ∧ tk q W = tk q0 (L.take (i + 1)).flatten ∧ W.length ≤ 4611686018427387904 ∧ m = W.length ∧ T = [(0, .s (.ptr 0 0 0)), (8, .s (ROWS L)), (9, .s (.int .i64 ((L.length : Nat) : Int))), (10, .s (.int .i64 ((i : Nat) : Int))), (5, .s (.fzi .u8 W))] ∧ H = [some (RQ q (tot + (L.take i).flatten.length + (L.getD i []).length))]) ((L.getD i []).length) ⟨q, (L.getD i []), hok, hstart, hB i, rfl, rfl, rfl⟩ (wk hE []) ?_
   rintro n_ T_ H_ ⟨q, W, hok, hW, hWl, rfl, rfl, rfl⟩
   have hm := hok.m
   have hbl := hok.b
   have hsl := hok.s
   refine w_seq (qz hP hn ?_)
   refine o3 ?_
   refine s_nil trivial (n_wp ?_)
   refine w_if rfl (fun h_t26 => ?_) (fun h_t26 => ?_)
   · obtain ⟨m, hmm⟩ : ∃ m, m = min W.length (64 - q.m) := ⟨_, rfl⟩
     have hok2 : RunOk (chunk q (W.take m) m) := chunk_ok hok _ _ (by omega)
     have hW2 : tk (chunk q (W.take m) m) ((W.drop m).take (W.length - m)) = tk q0 (L.take (i + 1)).flatten := by
       rw [← tk_chunk q hok _ m (by simp; omega) (by omega) (by omega), ← tk_append, show (W.drop m).take (W.length - m) = W.drop m from List.take_of_length_le (by simp), List.take_append_drop]; exact hW
     refine w_skip (n_wp (w_block (w_seq ?_)))
     refine g_any hP hn ?_
     refine o4 ?_
     refine o3 ?_
     refine o2 ?_
     refine s_op k_sl ?_
     refine s_op k_mv ?_
     refine s_op (k_cpn m) ?_
     refine s_op k_as ?_
     refine s_nil (by kernel_rfl) ?_
     refine n_wp (qz hP hn ?_)
     refine o2 ?_
     refine s_op k_sl ?_
     refine s_op k_as ?_
     refine qx hP hn ?_
     refine o4 ?_
     refine o4 ?_
     refine o2 ?_
     refine s_st k_st ?_
     refine qx hP hn ?_
     refine o4 ?_
     refine o2 ?_
     refine s_nil trivial (n_wp ?_)
     refine w_if rfl (fun h_t57 => ?_) (fun h_t57 => ?_)
     · have hc : chunk q (W.take m) m = ⟨aft q.s (spl q.b (W.take m) q.m m 64), (spl q.b (W.take m) q.m m 64), 0⟩ := if_pos h_t57
       rw [hc] at hok2 hW2
       refine w_seq ?_
       refine g_any hP hn ?_
       refine o4 ?_
       refine o3 ?_
       refine o2 ?_
       refine s_op (k_call [0] (con := after_c _ _ (spl q.b (W.take m) q.m m 64) _ _ hsl (spl_len _ _ _ _ _))) ?_
       refine s_heap (H' := [some ⟨true, RUN q.s (spl q.b (W.take m) q.m m 64) ((q.m + m : Nat) : Int) ((tot + (L.take i).flatten.length + (L.getD i []).length : Nat) : Int)⟩]) rfl ?_
       refine s_op k_al ?_
       refine s_st k_st ?_
       refine s_nil (by kernel_rfl) ?_
       refine n_wp ?_
       refine w_weak (frz_ptr 7 8) ?_
       refine g_reg hP hn ?_
       refine o4 ?_
       refine s_st k_st ?_
       refine o3 ?_
       refine s_st k_st ?_
       refine s_nil trivial (n_blo ?_)
       exact n_round (W.length - m) (by omega) ⟨_, _, hok2, hW2, by simp; omega, by simp, rfl, rfl⟩ (wk hE [])
     · have hc : chunk q (W.take m) m = ⟨q.s, (spl q.b (W.take m) q.m m 64), q.m + m⟩ := if_neg h_t57
       rw [hc] at hok2 hW2
       refine w_skip (n_blo ?_)
       exact n_round (W.length - m) (by omega) ⟨_, _, hok2, hW2, by simp; omega, by simp, rfl, rfl⟩ (wk hE [])
   · have h0 : W = [] := List.length_eq_zero_iff.1 (by omega)
     subst h0
     have hdone : q = tk q0 (L.take (i + 1)).flatten := hW
     rw [Nat.add_assoc, ← htot]
     refine w_exit (x_thn (x_thn (x_eq (n_blo (n_wp (g_reg hP hn ?_))))))
     refine o2 ?_
     refine s_nil trivial ?_
     exact n_round (L.length - (i + 1)) (by omega) ⟨i + 1, q, by omega, rfl, hdone, rfl, rfl⟩ (wk hE [])
 · have hi : i = L.length := by omega
   subst hi
   have hfull : L.take L.length = L := List.take_length
   rw [hfull] at hq ⊢
   subst hq
   refine w_exit (x_thn (x_thn (x_eq ?_)))
   exact d_ret hP hn hE [] (ret_none Tryz.results166)

end Go.Proofs.X
end

section
/- What sums, and sums by a key, are, on lists. No program. -/
open Go Go.Bx
namespace Go.Proofs.X
def ob (s : List Int) : Nat → List Int
  | 0 => []
  | i + 1 => rowL (4 * i + 4) (ob s i) (4 * i) 4 1 [IntKind.u64.wrap (s.getD i 0)]
theorem ob_len (s : List Int) (i : Nat) : (ob s i).length = 4 * i := by
  cases i with
  | zero => rfl
  | succ i => exact rowL_len _ _ _ _ _ _
def sumQ (q : Run) (tot : Nat) : Run := tk (tk (tk q [128]) (List.replicate ((119 - q.m) % 64) 0)) (rr 8 8 1 [IntKind.u64.wrap (8 * ((tot : Nat) : Int))] 1)
def sumL (q : Run) (tot : Nat) : List Int := spl (z 32) ((ob (sumQ q tot).s 8).take 32) 0 32 32
theorem sumL_len (q : Run) (tot : Nat) : (sumL q tot).length = 32 := spl_len _ _ _ _ _
def xk (k : List Int) (v : Int) : Nat → List Int
  | 0 => k
  | i + 1 => (xk k v i).set i (xorK .u8 ((xk k v i).getD i 0) v)
theorem xk_len (k : List Int) (v : Int) (i : Nat) : (xk k v i).length = k.length := by
  induction i with
  | zero => rfl
  | succ i ih => simp [xk, ih]
def k64 (K : List Int) : List Int := spl (z 64) (K.take K.length) 0 K.length 64
theorem k64_len (K : List Int) : (k64 K).length = 64 := spl_len _ _ _ _ _
def hmI (K : List Int) : Run := tk run0 (xk (k64 K) 54 64)
def hmO (K : List Int) (q : Run) (tot : Nat) : List Int := sumL (tk (tk run0 (xk (k64 K) 92 64)) (sumL q tot)) 96
theorem hmO_len (K : List Int) (q : Run) (tot : Nat) : (hmO K q tot).length = 32 := sumL_len _ _
theorem hmI_ok (K : List Int) : RunOk (hmI K) := tk_ok run0_ok _
end Go.Proofs.X
end

section
/- Types and functions of sums by a key, as instances. -/
open Go Go.Bx Go.Proofs
namespace Go.Proofs.X
instance : Clb Tryz.prog 93 := ⟨_, Tryz.func93, by kernel_rfl, rfl⟩
instance : Clb Tryz.prog 151 := ⟨_, Tryz.func151, by kernel_rfl, rfl⟩
instance : Clb Tryz.prog 102 := ⟨_, Tryz.func102, by kernel_rfl, rfl⟩
end Go.Proofs.X
end

section
set_option maxRecDepth 100000
set_option maxHeartbeats 4000000
open Go Go.Bx Go.Proofs
namespace Go.Proofs.X
attribute [local irreducible] tk rr ws ls dnI gI
theorem new_c  : Con Tryz.prog 152 [] [] (.s (.ptr 0 0 0)) [some (RQ run0 0)] := by
 refine con_in 5 Tryz.func152 rfl rfl (m := 0) rfl ?_
 intro E hP hn hE
 refine qz hP hn ?_
 refine s_op k_as ?_
 refine qx hP hn ?_
 refine s_op (k_bd (by exact a_buildK S0 (by kernel_rfl) (by kernel_rfl) rfl)) ?_
 refine s_op k_bxf ?_
 refine s_op k_bd ?_
 refine s_op k_bx ?_
 refine s_op k_as ?_
 refine s_nil trivial (n_wp (w_ret ?_))
 exact d_ret hP hn hE [1] (by first | exact r_tmp Tryz.results152 | exact r_tmpa Tryz.results152)

theorem takes1_c (a : List Int) (q : Run) (tot : Nat) (hq : RunOk q) (hl : tot + a.length < 4611686018427387904) : Con Tryz.prog 166 [.s (.ptr 0 0 0), .s (ROWS [a])] [some (RQ q tot)] (.tup []) [some (RQ (tk q a) (tot + a.length))] := by
 have h := takes_c [a] q tot hq (Nat.le_of_ble_eq_true rfl) (by simp; omega) (fun i => by match i with | 0 => (show a.length ≤ _; omega) | _ + 1 => simp)
 rw [show [a].flatten = a by simp] at h
 exact h
theorem takes3_c (a b c : List Int) (q : Run) (tot : Nat) (hq : RunOk q) (hl : tot + (a.length + (b.length + c.length)) < 4611686018427387904) : Con Tryz.prog 166 [.s (.ptr 0 0 0), .s (ROWS [a, b, c])] [some (RQ q tot)] (.tup []) [some (RQ (tk (tk (tk q a) b) c) (tot + (a.length + (b.length + c.length))))] := by
 have h := takes_c [a, b, c] q tot hq (Nat.le_of_ble_eq_true rfl) (by simp; omega) (fun i => by match i with | 0 => (show a.length ≤ _; omega) | 1 => (show b.length ≤ _; omega) | 2 => (show c.length ≤ _; omega) | _ + 3 => simp)
 rw [show [a, b, c].flatten = a ++ (b ++ c) by simp, tk_append, tk_append, List.length_append, List.length_append] at h
 exact h

theorem write_c (B : List Int) (q : Run) (tot : Nat) (hq : RunOk q) (hl : tot + B.length < 4611686018427387904) : Con Tryz.prog 153 [.s (.ptr 0 0 0), .s (.fzi .u8 B)] [some (RQ q tot)] (.s (.int .i64 0)) [some (RQ (tk q B) (tot + B.length))] := by
 refine con_in 18 Tryz.func153 rfl rfl (m := 1) rfl ?_
 intro E hP hn hE
 refine qz hP hn ?_
 refine s_op k_as ?_
 refine s_nil trivial (n_wp (w_seq (qz hP hn ?_)))
 refine o3 ?_
 refine s_on rfl rfl rfl k_mv ?_
 refine s_on rfl rfl rfl k_nc ?_
 refine s_on rfl rfl rfl k_fa ?_
 refine s_on rfl rfl rfl k_ld ?_
 refine s_on rfl rfl rfl k_eql ?_
 refine s_op k_pk ?_
 refine s_nil trivial (n_wp ?_)
 refine w_F rfl ?_ 
 refine w_skip (n_wp (qz hP hn ?_))
 refine o2 ?_
 refine s_op (k_bsz [.fzi .u8 B]) ?_
 refine s_op (k_call [0] (con := takes1_c B q tot hq hl)) ?_
 refine qx hP hn ?_
 refine s_op k_as ?_
 refine s_nil trivial (n_wp (w_ret ?_))
 exact d_ret hP hn hE [] (by first | exact r_tmp Tryz.results153 | exact r_tmpa Tryz.results153)

theorem put8_c (v : Int) : Con Tryz.prog 97 [.s (.fzi .u8 []), .s (.int .u64 v), .s (.int .i64 ((8 : Nat) : Int))] [] (.s (.fzi .u8 (rr 8 8 1 [v] 1))) [] := put_c [] v 8 (Nat.le_refl _) (Nat.le_of_ble_eq_true rfl)
theorem putob_c (s : List Int) (i : Nat) (hi : i < 8) : Con Tryz.prog 97 [.s (.fzi .u8 (ob s i)), .s (.int .u64 (IntKind.u64.wrap (s.getD i 0))), .s (.int .i64 ((4 : Nat) : Int))] [] (.s (.fzi .u8 (ob s (i + 1)))) [] := by
 have h := put_c (ob s i) (IntKind.u64.wrap (s.getD i 0)) 4 (by omega) (by rw [ob_len]; omega)
 rw [ob_len] at h
 exact h

theorem sum_c (q : Run) (tot : Nat) (hq : RunOk q) (hl : tot < 4611686018427387000) : Con Tryz.prog 154 [.s (.ptr 0 0 0)] [some (RQ q tot)] (.agg [.ints .u8 32 (sumL q tot)]) [some (RQ q tot)] := by
 refine con_in 56 Tryz.func154 rfl rfl (m := 1) rfl ?_
 intro E hP hn hE
 refine qz hP hn ?_
 refine s_op k_al ?_
 refine s_nil trivial (n_wp (w_seq (qz hP hn ?_)))
 refine o3 ?_
 refine s_on rfl rfl rfl k_mv ?_
 refine s_on rfl rfl rfl k_nc ?_
 refine s_on rfl rfl rfl k_fa ?_
 refine s_on rfl rfl rfl k_ld ?_
 refine s_on rfl rfl rfl k_eql ?_
 refine s_op k_pk ?_
 refine s_nil trivial (n_wp ?_)
 refine w_F rfl ?_ 
 refine w_skip (n_wp (qz hP hn ?_))
 refine o4 ?_
 refine s_st k_st ?_
 refine qx hP hn ?_
 have hqm := hq.m
 refine o4 ?_
 refine o3 ?_
 refine s_op k_mk ?_
 refine s_op k_as ?_
 refine s_nil trivial (n_wp (w_seq ?_))
 refine w_weak (frz_sl 4 (l' := (List.replicate ((119 - q.m) % 64) 0)) (hl := List.length_replicate) (hl' := by rw [List.drop_zero]; exact List.take_of_length_le (by simp))) ?_
 refine g_reg hP hn ?_
 refine s_op k_bsf ?_
 refine o3 ?_
 refine o2 ?_
 refine s_op (k_mul (by exact l_bin rfl rfl (b_mul rfl))) ?_
 refine s_op (k_call [] (con := put8_c _)) ?_
 refine s_op (k_bsz [.fzi .u8 [128], .fzi .u8 (List.replicate ((119 - q.m) % 64) 0), .fzi .u8 (rr 8 8 1 [IntKind.u64.wrap (8 * ((tot : Nat) : Int))] 1)]) ?_
 refine s_op (k_call [2] (con := takes3_c [128] (List.replicate ((119 - q.m) % 64) 0) (rr 8 8 1 [IntKind.u64.wrap (8 * ((tot : Nat) : Int))] 1) q tot hq (by simp [rr_len]; omega)) (H' := [some (RQ q tot), some ⟨true, [.ints .u8 32 (z 32)]⟩, some (RQ (sumQ q tot) (tot + ([128].length + ((List.replicate ((119 - q.m) % 64) 0).length + (rr 8 8 1 [IntKind.u64.wrap (8 * ((tot : Nat) : Int))] 1).length)))), none, none, none]) (hH := rfl)) ?_
 refine qx hP hn ?_
 refine s_op k_sl ?_
 refine s_op k_as ?_
 refine s_nil trivial (n_wp (w_seq (qz hP hn ?_)))
 refine o3 ?_
 refine s_nil trivial (n_wp (w_block ?_))
 refine c_loop (fun m T H => ∃ i, i ≤ 8 ∧ m = 8 - i ∧ T = [(2, .s (.ptr 1 0 0)), (5, .s (.fzi .u8 (ob (sumQ q tot).s i))), (41, .s (.fptr 8 (cellsF [.ints .u32 8 (sumQ q tot).s]) 0 0)), (42, .s (.int .i64 ((i : Nat) : Int)))] ∧ H = [some (RQ q tot), some ⟨true, [.ints .u8 32 (z 32)]⟩]) (8) ⟨0, by omega, rfl, rfl, rfl⟩ ((weak_conv 5 rfl conv_slz).trans (wk hE [])) ?_
 rintro n_ T_ H_ ⟨i, hi, rfl, rfl, rfl⟩
 refine qz hP hn ?_
 refine s_op k_lss ?_
 refine s_nil trivial (n_wp (w_seq ?_))
 refine w_if rfl (fun h_t43 => ?_) (fun h_t43 => ?_)
 · refine w_skip (n_wp (w_seq (w_block (qz hP hn ?_))))
   refine o4 ?_
   refine qy hP hn ?_
   refine o3 ?_
   refine s_op (k_call [] (con := putob_c (sumQ q tot).s i h_t43)) ?_
   refine s_op k_as ?_
   refine s_nil trivial (n_blo (n_wp (g_reg hP hn ?_)))
   refine o2 ?_
   refine s_nil trivial ?_
   exact n_round (8 - (i + 1)) (by omega) ⟨i + 1, by omega, rfl, rfl, rfl⟩ (wk hE [])
 · have hi : i = 8 := by omega
   subst hi
   refine w_exit (x_thn (x_thn (x_eq (n_wp (qz hP hn ?_)))))
   refine s_op k_sl ?_
   refine s_op k_mv ?_
   refine s_op (k_cpn 32 (hn := by rw [ob_len]; rfl) (hz := rfl)) ?_
   refine qx hP hn ?_
   refine s_op k_ld ?_
   refine s_st k_st ?_
   refine s_nil trivial (n_wp (w_ret ?_))
   exact d_ret hP hn hE [] (r_cell Tryz.results154)

end Go.Proofs.X
end

section
set_option maxRecDepth 100000
set_option maxHeartbeats 4000000
open Go Go.Bx Go.Proofs
namespace Go.Proofs.X
attribute [local irreducible] tk rr sumL ws ls dnI gI
theorem write_n (B : List Int) (n : Nat) (hn : B.length = n) (q : Run) (tot : Nat) (hq : RunOk q) (hl : tot + n < 4611686018427387904) : Con Tryz.prog 153 [.s (.ptr 0 0 0), .s (.fzi .u8 B)] [some (RQ q tot)] (.s (.int .i64 0)) [some (RQ (tk q B) (tot + n))] := by
 subst hn; exact write_c B q tot hq hl

theorem pad_c (K : List Int) (v : Int) (hK : K.length = 64) : Con Tryz.prog 151 [.s (.int .u8 v), .s (.ptr 0 0 0)] [some ⟨true, [.ints .u8 64 K]⟩] (.s (.fzi .u8 (xk K v 64))) [some ⟨true, [.ints .u8 64 K]⟩] := by
 refine con_in 18 Tryz.func151 rfl rfl (m := 1) rfl ?_
 intro E hP hn hE
 refine qz hP hn ?_
 refine s_op k_as ?_
 refine qx hP hn ?_
 refine o2 ?_
 refine s_st k_st ?_
 refine s_nil trivial (n_wp (w_seq (qz hP hn ?_)))
 refine s_op k_mv ?_
 refine s_nil trivial (n_wp (w_block ?_))
 refine c_loop (fun m T H => ∃ i, i ≤ 64 ∧ m = 64 - i ∧ T = [(0, .s (.int .u8 v)), (4, .s (.ptr 1 0 0)), (7, .s (.int .i64 ((i : Nat) : Int)))] ∧ H = [some ⟨true, [.ints .u8 64 K]⟩, some ⟨true, [.ints .u8 64 (xk K v i)]⟩]) (64) ⟨0, by omega, rfl, rfl, rfl⟩ (wk hE []) ?_
 rintro n_ T_ H_ ⟨i, hi, rfl, rfl, rfl⟩
 have hx := (xk_len K v i).trans hK
 refine qz hP hn ?_
 refine s_op k_lss ?_
 refine s_nil trivial (n_wp (w_seq ?_))
 refine w_if rfl (fun h_t8 => ?_) (fun h_t8 => ?_)
 · refine w_skip (n_wp (w_seq (w_block (qz hP hn ?_))))
   refine o2 ?_
   refine qy hP hn ?_
   refine o4 ?_
   refine o2 ?_
   refine s_st k_st ?_
   refine s_nil trivial (n_blo (n_wp (g_reg hP hn ?_)))
   refine o2 ?_
   refine s_nil trivial ?_
   exact n_round (64 - (i + 1)) (by omega) ⟨i + 1, by omega, rfl, rfl, rfl⟩ (wk hE [])
 · have hi : i = 64 := by omega
   subst hi
   refine w_exit (x_thn (x_thn (x_eq (n_wp (qz hP hn ?_)))))
   refine s_op k_sl ?_
   refine s_op k_as ?_
   refine s_nil trivial (n_wp (w_ret ?_))
   exact d_retw hP hn (r_tmp Tryz.results151) ((frz_sl 0 (l' := xk K v 64) (hl := hx) (hl' := by rw [List.drop_zero]; exact List.take_of_length_le (Nat.le_of_eq hx))).trans (wk hE []))

theorem mac_c (K : List Int) (L : List (List Int)) (hK0 : 0 < K.length) (hK : K.length ≤ 64) (hL : L.length ≤ 1000000) (hl : L.flatten.length < 4611686018427380000) : Con Tryz.prog 93 [.s (.fzi .u8 K), .s (ROWS L)] [] (.agg [.ints .u8 32 (hmO K (tk (hmI K) L.flatten) (64 + L.flatten.length))]) [] := by
 refine con_in 50 Tryz.func93 rfl rfl (m := 0) rfl ?_
 intro E hP hn hE
 refine qz hP hn ?_
 refine s_op k_al ?_
 refine qx hP hn ?_
 refine s_op k_al ?_
 refine s_nil trivial (n_wp (w_seq (qz hP hn ?_)))
 refine o3 ?_
 refine s_nil trivial (n_wp ?_)
 refine w_F rfl ?_ 
 refine w_skip (n_wp (qz hP hn ?_))
 refine s_op k_sl ?_
 refine s_op k_mv ?_
 refine s_op (k_cpn K.length) ?_
 refine qx hP hn ?_
 refine s_op (k_fn [.ptr 1 0 0]) ?_
 refine s_op k_as ?_
 refine qx hP hn ?_
 refine s_op (k_call [] (con := new_c) (v := .s (.ptr 2 0 0)) (hv := rfl) (H' := [some ⟨true, [.ints .u8 32 (z 32)]⟩, some ⟨true, [.ints .u8 64 (k64 K)]⟩, some (RQ run0 0)]) (hH := rfl)) ?_
 refine s_op (k_call [] (con := new_c) (v := .s (.ptr 3 0 0)) (hv := rfl) (H' := [some ⟨true, [.ints .u8 32 (z 32)]⟩, some ⟨true, [.ints .u8 64 (k64 K)]⟩, some (RQ run0 0), some (RQ run0 0)]) (hH := rfl)) ?_
 refine o2 ?_
 refine qx hP hn ?_
 refine o2 ?_
 refine s_op (k_callc [1] rfl (con := pad_c (k64 K) 54 (k64_len K)) (H' := [some ⟨true, [.ints .u8 32 (z 32)]⟩, some ⟨true, [.ints .u8 64 (k64 K)]⟩, some (RQ run0 0), some (RQ run0 0)]) (hH := rfl)) ?_
 refine s_op (k_call [2] (con := write_n (xk (k64 K) 54 64) 64 ((xk_len _ _ _).trans (k64_len K)) run0 0 run0_ok (by omega)) (H' := [some ⟨true, [.ints .u8 32 (z 32)]⟩, some ⟨true, [.ints .u8 64 (k64 K)]⟩, some (RQ (hmI K) 64), some (RQ run0 0)]) (hH := rfl)) ?_
 refine s_nil trivial (n_wp (w_seq (qz hP hn ?_)))
 refine o3 ?_
 refine s_nil trivial (n_wp (w_block ?_))
 refine c_loop (fun m T H => ∃ i q t, i ≤ L.length ∧ m = L.length - i ∧ q = tk (hmI K) (L.take i).flatten ∧ t = 64 + (L.take i).flatten.length ∧ T = [(4, .s (.ptr 0 0 0)), (7, .s (.clo 151 1 (capF [.ptr 1 0 0]))), (8, .s (.ptr 2 0 0)), (9, .s (.ptr 3 0 0)), (29, .s (ROWS L)), (30, .s (.int .i64 ((L.length : Nat) : Int))), (31, .s (.int .i64 ((i : Nat) : Int)))] ∧ H = [some ⟨true, [.ints .u8 32 (z 32)]⟩, some ⟨true, [.ints .u8 64 (k64 K)]⟩, some (RQ q t), some (RQ run0 0)]) (L.length) ⟨0, hmI K, 64, by omega, rfl, (tk_nil (hmI K)).symm, rfl, rfl, rfl⟩ (wk hE []) ?_
 rintro n_ T_ H_ ⟨i, q, t, hi, rfl, hq, ht, rfl, rfl⟩
 have hok : RunOk q := hq ▸ tk_ok (hmI_ok K) _
 refine qz hP hn ?_
 refine s_op k_lss ?_
 refine s_nil trivial (n_wp (w_seq ?_))
 refine w_if rfl (fun h_t32 => ?_) (fun h_t32 => ?_)
 · have hfl := flat_s L h_t32
   have htot : (L.take (i + 1)).flatten.length = (L.take i).flatten.length + (L.getD i []).length := by rw [hfl, List.length_append]
   have hle : (L.take (i + 1)).flatten.length ≤ L.flatten.length := by
     have := congrArg (fun x => (List.flatten x).length) (List.take_append_drop (i + 1) L)
     simp only [List.flatten_append, List.length_append] at this
     omega
   refine w_skip (n_wp (w_seq (w_block (qz hP hn ?_))))
   refine s_op k_ix ?_
   refine s_op (k_ld (by exact a_loadf (v := .fzi .u8 (L.getD i [])) rfl (by omega) (rows_at L h_t32))) ?_
   refine s_op k_as ?_
   refine qy hP hn ?_
   refine o2 ?_
   refine s_op (k_call [2] (con := write_c (L.getD i []) q t hok (by omega)) (H' := [some ⟨true, [.ints .u8 32 (z 32)]⟩, some ⟨true, [.ints .u8 64 (k64 K)]⟩, some (RQ (tk q (L.getD i [])) (t + (L.getD i []).length)), some (RQ run0 0)]) (hH := rfl)) ?_
   refine s_nil trivial (n_blo (n_wp (g_reg hP hn ?_)))
   refine o2 ?_
   refine s_nil trivial ?_
   exact n_round (L.length - (i + 1)) (by omega) ⟨i + 1, tk q (L.getD i []), t + (L.getD i []).length, by omega, rfl, by rw [hfl, tk_append, hq], by omega, rfl, rfl⟩ (wk hE [])
 · have hi : i = L.length := by omega
   subst hi
   rw [List.take_length] at hq ht
   subst hq; subst ht
   have hok := tk_ok (hmI_ok K) L.flatten
   refine w_exit (x_thn (x_thn (x_eq (n_wp (qz hP hn ?_)))))
   refine s_op k_mv ?_
   refine s_op (k_call [2] (con := sum_c _ _ hok (by omega)) (H' := [some ⟨true, [.ints .u8 32 (z 32)]⟩, some ⟨true, [.ints .u8 64 (k64 K)]⟩, some (RQ (tk (hmI K) L.flatten) (64 + L.flatten.length)), some (RQ run0 0)]) (hH := rfl)) ?_
   refine s_op k_al ?_
   refine s_st k_st ?_
   refine qx hP hn ?_
   refine o2 ?_
   refine s_op (k_callc [1] rfl (con := pad_c (k64 K) 92 (k64_len K)) (H' := [some ⟨true, [.ints .u8 32 (z 32)]⟩, some ⟨true, [.ints .u8 64 (k64 K)]⟩, some (RQ (tk (hmI K) L.flatten) (64 + L.flatten.length)), some (RQ run0 0), some ⟨true, [.ints .u8 32 (sumL (tk (hmI K) L.flatten) (64 + L.flatten.length))]⟩]) (hH := rfl)) ?_
   refine s_op (k_call [3] (con := write_n (xk (k64 K) 92 64) 64 ((xk_len _ _ _).trans (k64_len K)) run0 0 run0_ok (by omega)) (H' := [some ⟨true, [.ints .u8 32 (z 32)]⟩, some ⟨true, [.ints .u8 64 (k64 K)]⟩, some (RQ (tk (hmI K) L.flatten) (64 + L.flatten.length)), some (RQ (tk run0 (xk (k64 K) 92 64)) 64), some ⟨true, [.ints .u8 32 (sumL (tk (hmI K) L.flatten) (64 + L.flatten.length))]⟩]) (hH := rfl)) ?_
   refine s_nil trivial (n_wp (w_seq ?_))
   refine w_weak (frz_ptr 12 32) ?_
   refine g_reg hP hn ?_
   refine s_op k_mv ?_
   refine s_op (k_slf (hl := sumL_len _ _)) ?_
   refine s_op (k_call [3] (con := write_n (sumL (tk (hmI K) L.flatten) (64 + L.flatten.length)) 32 (sumL_len _ _) (tk run0 (xk (k64 K) 92 64)) 64 (tk_ok run0_ok _) (by omega)) (H' := [some ⟨true, [.ints .u8 32 (z 32)]⟩, some ⟨true, [.ints .u8 64 (k64 K)]⟩, some (RQ (tk (hmI K) L.flatten) (64 + L.flatten.length)), some (RQ (tk (tk run0 (xk (k64 K) 92 64)) (sumL (tk (hmI K) L.flatten) (64 + L.flatten.length))) 96), none]) (hH := rfl)) ?_
   refine qx hP hn ?_
   refine s_op k_mv ?_
   refine s_op (k_call [3] (con := sum_c _ 96 (tk_ok (tk_ok run0_ok _) _) (by omega)) (H' := [some ⟨true, [.ints .u8 32 (z 32)]⟩, some ⟨true, [.ints .u8 64 (k64 K)]⟩, some (RQ (tk (hmI K) L.flatten) (64 + L.flatten.length)), some (RQ (tk (tk run0 (xk (k64 K) 92 64)) (sumL (tk (hmI K) L.flatten) (64 + L.flatten.length))) 96), none]) (hH := rfl)) ?_
   refine s_st k_st ?_
   refine s_nil trivial (n_wp (w_ret ?_))
   exact d_ret hP hn hE [] (r_cell Tryz.results93)

end Go.Proofs.X
end

section
/- What the ciphers compute, on lists. No program. -/
open Go Go.Bx
namespace Go.Proofs.X
theorem wrap_u8_range (x : Int) : 0 ≤ IntKind.u8.wrap x ∧ IntKind.u8.wrap x < 256 := by
  show 0 ≤ x % 256 ∧ x % 256 < 256
  omega
theorem xorK_u8_range (m n : Int) : 0 ≤ xorK .u8 m n ∧ xorK .u8 m n < 256 := wrap_u8_range _
def twiceI (x : Int) : Int := if shrK .u8 x 7 = 1 then xorK .u8 (shlK .u8 x 1) 27 else shlK .u8 x 1
def xorTo (a b : List Int) : Nat → List Int
  | 0 => a
  | k + 1 => (xorTo a b k).set k (xorK .u8 ((xorTo a b k).getD k 0) (b.getD k 0))
theorem xorTo_len (a b : List Int) (k : Nat) : (xorTo a b k).length = a.length := by
  induction k with
  | zero => rfl
  | succ k ih => simp [xorTo, ih]
def p1 : Nat → Int × List Int × List Int
  | 0 => (1, z 256, z 256)
  | k + 1 => (xorK .u8 (p1 k).1 (twiceI (p1 k).1), (p1 k).2.1.set k (p1 k).1, (p1 k).2.2.set (p1 k).1.toNat k)
theorem p1_range (k : Nat) : 0 ≤ (p1 k).1 ∧ (p1 k).1 < 256 := by
  cases k with
  | zero => simp [p1]
  | succ k => exact xorK_u8_range _ _
theorem p1_len (k : Nat) : (p1 k).2.1.length = 256 ∧ (p1 k).2.2.length = 256 := by
  induction k with
  | zero => exact ⟨z_len _, z_len _⟩
  | succ k ih => simp [p1, ih]
def boxY (P L : List Int) (k : Nat) : Int := if 0 < k then P.getD ((255 - L.getD k 0) % 255).toNat 0 else 0
def boxO (y : Int) : Nat → Int
  | 0 => 99
  | n + 1 => xorK .u8 (boxO y n) (orK .u8 (shlK .u8 y n) (shrK .u8 y (8 - n)))
theorem boxO_range (y : Int) (n : Nat) : 0 ≤ boxO y n ∧ boxO y n < 256 := by
  cases n with
  | zero => simp [boxO]
  | succ n => exact xorK_u8_range _ _
def p2 (P L : List Int) : Nat → List Int × List Int
  | 0 => (z 256, z 256)
  | k + 1 => ((p2 P L k).1.set k (boxO (boxY P L k) 5), (p2 P L k).2.set (boxO (boxY P L k) 5).toNat k)
theorem p2_len (P L : List Int) (k : Nat) : (p2 P L k).1.length = 256 ∧ (p2 P L k).2.length = 256 := by
  induction k with
  | zero => exact ⟨z_len _, z_len _⟩
  | succ k ih => simp [p2, ih]
def SB : List Int := [99, 124, 119, 123, 242, 107, 111, 197, 48, 1, 103, 43, 254, 215, 171, 118, 202, 130, 201, 125, 250, 89, 71, 240, 173, 212, 162, 175, 156, 164, 114, 192, 183, 253, 147, 38, 54, 63, 247, 204, 52, 165, 229, 241, 113, 216, 49, 21, 4, 199, 35, 195, 24, 150, 5, 154, 7, 18, 128, 226, 235, 39, 178, 117, 9, 131, 44, 26, 27, 110, 90, 160, 82, 59, 214, 179, 41, 227, 47, 132, 83, 209, 0, 237, 32, 252, 177, 91, 106, 203, 190, 57, 74, 76, 88, 207, 208, 239, 170, 251, 67, 77, 51, 133, 69, 249, 2, 127, 80, 60, 159, 168, 81, 163, 64, 143, 146, 157, 56, 245, 188, 182, 218, 33, 16, 255, 243, 210, 205, 12, 19, 236, 95, 151, 68, 23, 196, 167, 126, 61, 100, 93, 25, 115, 96, 129, 79, 220, 34, 42, 144, 136, 70, 238, 184, 20, 222, 94, 11, 219, 224, 50, 58, 10, 73, 6, 36, 92, 194, 211, 172, 98, 145, 149, 228, 121, 231, 200, 55, 109, 141, 213, 78, 169, 108, 86, 244, 234, 101, 122, 174, 8, 186, 120, 37, 46, 28, 166, 180, 198, 232, 221, 116, 31, 75, 189, 139, 138, 112, 62, 181, 102, 72, 3, 246, 14, 97, 53, 87, 185, 134, 193, 29, 158, 225, 248, 152, 17, 105, 217, 142, 148, 155, 30, 135, 233, 206, 85, 40, 223, 140, 161, 137, 13, 191, 230, 66, 104, 65, 153, 45, 15, 176, 84, 187, 22]
def BK : List Int := [82, 9, 106, 213, 48, 54, 165, 56, 191, 64, 163, 158, 129, 243, 215, 251, 124, 227, 57, 130, 155, 47, 255, 135, 52, 142, 67, 68, 196, 222, 233, 203, 84, 123, 148, 50, 166, 194, 35, 61, 238, 76, 149, 11, 66, 250, 195, 78, 8, 46, 161, 102, 40, 217, 36, 178, 118, 91, 162, 73, 109, 139, 209, 37, 114, 248, 246, 100, 134, 104, 152, 22, 212, 164, 92, 204, 93, 101, 182, 146, 108, 112, 72, 80, 253, 237, 185, 218, 94, 21, 70, 87, 167, 141, 157, 132, 144, 216, 171, 0, 140, 188, 211, 10, 247, 228, 88, 5, 184, 179, 69, 6, 208, 44, 30, 143, 202, 63, 15, 2, 193, 175, 189, 3, 1, 19, 138, 107, 58, 145, 17, 65, 79, 103, 220, 234, 151, 242, 207, 206, 240, 180, 230, 115, 150, 172, 116, 34, 231, 173, 53, 133, 226, 249, 55, 232, 28, 117, 223, 110, 71, 241, 26, 113, 29, 41, 197, 137, 111, 183, 98, 14, 170, 24, 190, 27, 252, 86, 62, 75, 198, 210, 121, 32, 154, 219, 192, 254, 120, 205, 90, 244, 31, 221, 168, 51, 136, 7, 199, 49, 177, 18, 16, 89, 39, 128, 236, 95, 96, 81, 127, 169, 25, 181, 74, 13, 45, 229, 122, 159, 147, 201, 156, 239, 160, 224, 59, 77, 174, 42, 245, 176, 200, 235, 187, 60, 131, 83, 153, 97, 23, 43, 4, 126, 186, 119, 214, 38, 225, 105, 20, 99, 85, 33, 12, 125]
theorem boxes_eq : p2 (p1 255).2.1 (p1 255).2.2 256 = (SB, BK) := by decide +kernel
def logsOk (L : List Int) : Bool := (List.range 256).all fun k => decide (0 ≤ L.getD k 0 ∧ L.getD k 0 ≤ 255)
theorem logs_ok : logsOk (p1 255).2.2 = true := by decide +kernel
theorem logsOk_at {L : List Int} (h : logsOk L = true) {k : Nat} (hk : k < 256) : 0 ≤ L.getD k 0 ∧ L.getD k 0 ≤ 255 := by
  simp only [logsOk, List.all_eq_true, List.mem_range, decide_eq_true_eq] at h
  exact h k hk
def kw (was wd : List Int) (K : List Int) (n : Nat) : Nat → List Int × List Int
  | 0 => (wd, K)
  | i + 1 => ((kw was wd K n i).1.set (i % 4) (xorK .u8 ((kw was wd K n i).1.getD (i % 4) 0) (was.getD i 0)),
      (kw was wd K n i).2.set (n * 16 + i) (((kw was wd K n i).1.set (i % 4) (xorK .u8 ((kw was wd K n i).1.getD (i % 4) 0) (was.getD i 0))).getD (i % 4) 0))
theorem kw_len (was wd K : List Int) (n i : Nat) : (kw was wd K n i).1.length = wd.length ∧ (kw was wd K n i).2.length = K.length := by
  induction i with
  | zero => exact ⟨rfl, rfl⟩
  | succ i ih => simp [kw, ih]
def kwas (K : List Int) (n : Nat) : List Int := (K.drop (n * 16)).take 16
def word (S K : List Int) (n : Nat) (by_ : Int) : List Int :=
  [xorK .u8 (S.getD ((kwas K n).getD 13 0).toNat 0) by_, S.getD ((kwas K n).getD 14 0).toNat 0, S.getD ((kwas K n).getD 15 0).toNat 0, S.getD ((kwas K n).getD 12 0).toNat 0]
def ks (S key : List Int) : Nat → Int × List Int
  | 0 => (1, spl (z 176) key 0 16 176)
  | n + 1 => (twiceI (ks S key n).1, (kw (kwas (ks S key n).2 n) (word S (ks S key n).2 n (ks S key n).1) (ks S key n).2 (n + 1) 16).2)
theorem ks_len (S key : List Int) (n : Nat) : (ks S key n).2.length = 176 := by
  induction n with
  | zero => simp [ks, spl]
  | succ n ih => simp only [ks]; rw [(kw_len _ _ _ _ _).2, ih]
def U8 (l : List Int) : Prop := ∀ i, 0 ≤ l.getD i 0 ∧ l.getD i 0 < 256
def mixR (b : List Int) (k : Nat) (all first : Int) : Nat → List Int
  | 0 => b
  | i + 1 => (mixR b k all first i).set (k + i) (xorK .u8 ((mixR b k all first i).getD (k + i) 0) (xorK .u8 all (twiceI (xorK .u8 ((mixR b k all first i).getD (k + i) 0) (if i < 3 then (mixR b k all first i).getD (k + i + 1) 0 else first)))))
theorem mixR_len (b : List Int) (k : Nat) (all first : Int) (i : Nat) : (mixR b k all first i).length = b.length := by
  induction i with
  | zero => rfl
  | succ i ih => simp [mixR, ih]
def mixC (b : List Int) (k : Nat) : List Int :=
  mixR b k (xorK .u8 (xorK .u8 (xorK .u8 (b.getD k 0) (b.getD (k + 1) 0)) (b.getD (k + 2) 0)) (b.getD (k + 3) 0)) (b.getD k 0) 4
def mixN (b : List Int) : Nat → List Int
  | 0 => b
  | j + 1 => mixC (mixN b j) (4 * j)
theorem mixN_len (b : List Int) (j : Nat) : (mixN b j).length = b.length := by
  induction j with
  | zero => rfl
  | succ j ih => simp [mixN, mixC, mixR_len, ih]
def mixI (b : List Int) : List Int := mixN b 4
def subTo (S b : List Int) : Nat → List Int
  | 0 => z 16
  | i + 1 => (subTo S b i).set i (S.getD (b.getD ((i + 4 * (i % 4)) % 16) 0).toNat 0)
theorem subTo_len (S b : List Int) (i : Nat) : (subTo S b i).length = 16 := by
  induction i with
  | zero => exact z_len _
  | succ i ih => simp [subTo, ih]
def xor16 (a b : List Int) : List Int := xorTo a b 16
theorem xor16_len (a b : List Int) : (xor16 a b).length = a.length := xorTo_len _ _ _
def rk (K : List Int) (n : Nat) : List Int := kwas K n
def enc (S K b : List Int) : Nat → List Int
  | 0 => xor16 b (rk K 0)
  | n + 1 => xor16 (mixI (subTo S (enc S K b n) 16)) (rk K (n + 1))
theorem enc_len (S K b : List Int) (h : b.length = 16) (n : Nat) : (enc S K b n).length = 16 := by
  cases n with
  | zero => simp [enc, xor16_len, h]
  | succ n => simp [enc, xor16_len, mixI, mixN_len, subTo_len]
def blockL (S K b : List Int) : List Int := xor16 (subTo S (enc S K b 9) 16) (rk K 10)
theorem blockL_len (S K b : List Int) : (blockL S K b).length = 16 := by simp [blockL, xor16_len, subTo_len]
def subBack (S b : List Int) : Nat → List Int
  | 0 => z 16
  | i + 1 => (subBack S b i).set ((i + 4 * (i % 4)) % 16) (S.getD (b.getD i 0).toNat 0)
def keysOf (key : List Int) : List Int := (ks SB key 10).2
def blockI (key b : List Int) : List Int := blockL SB (keysOf key) b
theorem blockI_len (key b : List Int) : (blockI key b).length = 16 := blockL_len _ _ _
theorem getD_set (l : List Int) (i : Nat) (v : Int) (j : Nat) : (l.set i v).getD j 0 = if i = j ∧ i < l.length then v else l.getD j 0 := by
  simp only [List.getD_eq_getElem?_getD, List.getElem?_set]
  by_cases h : i = j
  · subst h
    by_cases h2 : i < l.length
    · simp [h2]
    · simp [h2, List.getElem?_eq_none (show l.length ≤ i by omega)]
  · simp [h]
theorem U8.set {l : List Int} (h : U8 l) (i : Nat) {v : Int} (hv : 0 ≤ v ∧ v < 256) : U8 (l.set i v) := fun j => by
  rw [getD_set]; split
  · exact hv
  · exact h j
theorem U8_z (n : Nat) : U8 (z n) := fun j => by
  simp only [z, List.getD_eq_getElem?_getD, List.getElem?_replicate]
  split <;> simp
theorem U8_mem {l : List Int} (h : ∀ x ∈ l, 0 ≤ x ∧ x < 256) : U8 l := fun j => by
  simp only [List.getD_eq_getElem?_getD]
  cases hj : l[j]? with
  | none => simp
  | some x => exact h x (List.mem_of_getElem? hj)
theorem U8.mem {l : List Int} (h : U8 l) {x : Int} (hx : x ∈ l) : 0 ≤ x ∧ x < 256 := by
  obtain ⟨j, hj⟩ := List.getElem?_of_mem hx
  have := h j
  simp only [List.getD_eq_getElem?_getD, hj] at this
  exact this
theorem U8.cut {l : List Int} (h : U8 l) (a n : Nat) : U8 ((l.drop a).take n) := U8_mem fun x hx => h.mem (List.mem_of_mem_drop (List.mem_of_mem_take hx))
theorem U8_xorTo {a b : List Int} (h : U8 a) (k : Nat) : U8 (xorTo a b k) := by
  induction k with
  | zero => exact h
  | succ k ih => exact ih.set _ (xorK_u8_range _ _)
theorem U8_spl {xs ys : List Int} (hx : U8 xs) (hy : U8 ys) (i n m : Nat) : U8 (spl xs ys i n m) := U8_mem fun x h => by
  simp only [spl, List.mem_map, List.mem_range] at h
  obtain ⟨j, _, rfl⟩ := h
  split
  · exact hy _
  · exact hx _
theorem U8_kw {was wd K : List Int} (h1 : U8 wd) (h2 : U8 K) (n i : Nat) : U8 (kw was wd K n i).1 ∧ U8 (kw was wd K n i).2 := by
  induction i with
  | zero => exact ⟨h1, h2⟩
  | succ i ih =>
    have h3 : U8 ((kw was wd K n i).1.set (i % 4) (xorK .u8 ((kw was wd K n i).1.getD (i % 4) 0) (was.getD i 0))) := ih.1.set _ (xorK_u8_range _ _)
    exact ⟨h3, ih.2.set _ (h3 _)⟩
theorem U8_word {S K : List Int} (hS : U8 S) (n : Nat) (by_ : Int) : U8 (word S K n by_) := U8_mem fun x hx => by
  simp only [word, List.mem_cons, List.not_mem_nil, or_false] at hx
  rcases hx with rfl | rfl | rfl | rfl
  · exact xorK_u8_range _ _
  all_goals exact hS _
theorem U8_ks {S key : List Int} (hS : U8 S) (hk : U8 key) (n : Nat) : U8 (ks S key n).2 := by
  induction n with
  | zero => exact U8_spl (U8_z _) hk _ _ _
  | succ n ih => exact (U8_kw (U8_word hS _ _) ih _ _).2
theorem U8_mixR {b : List Int} (h : U8 b) (k : Nat) (all first : Int) (i : Nat) : U8 (mixR b k all first i) := by
  induction i with
  | zero => exact h
  | succ i ih => exact ih.set _ (xorK_u8_range _ _)
theorem U8_mixN {b : List Int} (h : U8 b) (j : Nat) : U8 (mixN b j) := by
  induction j with
  | zero => exact h
  | succ j ih => exact U8_mixR ih _ _ _ _
theorem U8_subTo {S b : List Int} (h : U8 S) (i : Nat) : U8 (subTo S b i) := by
  induction i with
  | zero => exact U8_z _
  | succ i ih => exact ih.set _ (h _)
theorem U8_enc {S K b : List Int} (hS : U8 S) (hb : U8 b) (n : Nat) : U8 (enc S K b n) := by
  cases n with
  | zero => exact U8_xorTo hb _
  | succ n => exact U8_xorTo (U8_mixN (U8_subTo hS _) _) _
def u8B (l : List Int) : Bool := l.all fun x => decide (0 ≤ x) && decide (x < 256)
theorem u8B_U8 {l : List Int} (h : u8B l = true) : U8 l := U8_mem fun x hx => by
  have := List.all_eq_true.1 h x hx
  simpa using this
theorem U8_SB : U8 SB := u8B_U8 (by decide +kernel)
theorem blockL_def (S K b : List Int) : blockL S K b = xor16 (subTo S (enc S K b 9) 16) (kwas K 10) := rfl
theorem mixI_len (b : List Int) : (mixI b).length = b.length := mixN_len _ _
def decX (y : List Int) (r : Nat) : List Int := if 0 < r then mixI (mixI (mixI y)) else y
def dec (S K b : List Int) : Nat → List Int
  | 0 => b
  | r + 1 => subBack S (decX (xor16 (dec S K b r) (kwas K (10 - r))) r) 16
def backL (S K b : List Int) : List Int := xor16 (dec S K b 10) (kwas K 0)
def backI (key b : List Int) : List Int := backL BK (keysOf key) b
attribute [irreducible] xor16 mixI blockL keysOf decX
def incF (l : List Int) : Nat → List Int
  | 0 => l
  | i + 1 => if (l.set i (IntKind.u8.wrap (l.getD i 0 + 1))).getD i 0 = 0 then incF (l.set i (IntKind.u8.wrap (l.getD i 0 + 1))) i else l.set i (IntKind.u8.wrap (l.getD i 0 + 1))
def inc16 (l : List Int) : List Int := incF l 16
theorem incF_len (l : List Int) (i : Nat) : (incF l i).length = l.length := by
  induction i generalizing l with
  | zero => rfl
  | succ i ih => simp only [incF]; split <;> simp [ih]
theorem U8_incF {l : List Int} (h : U8 l) (i : Nat) : U8 (incF l i) := by
  induction i generalizing l with
  | zero => exact h
  | succ i ih =>
    have h2 := h.set i (wrap_u8_range (l.getD i 0 + 1))
    simp only [incF]; split
    · exact ih h2
    · exact h2
def ctr (first : List Int) : Nat → List Int
  | 0 => first
  | q + 1 => inc16 (ctr first q)
theorem ctr_len (first : List Int) (q : Nat) : (ctr first q).length = first.length := by
  induction q with
  | zero => rfl
  | succ q ih => simp [ctr, inc16, incF_len, ih]
theorem U8_ctr {first : List Int} (h : U8 first) (q : Nat) : U8 (ctr first q) := by
  induction q with
  | zero => exact h
  | succ q ih => exact U8_incF ih _
def str1 (B s out : List Int) (at_ : Nat) : Nat → List Int
  | 0 => out
  | r + 1 => (str1 B s out at_ r).set (at_ + r) (xorK .u8 (B.getD (at_ + r) 0) (s.getD r 0))
theorem str1_len (B s out : List Int) (at_ r : Nat) : (str1 B s out at_ r).length = out.length := by
  induction r with
  | zero => rfl
  | succ r ih => simp [str1, ih]
def strN (key first B : List Int) (n : Nat) : Nat → List Int
  | 0 => z n
  | q + 1 => str1 B (blockI key (ctr first q)) (strN key first B n q) (16 * q) (min 16 (n - 16 * q))
theorem strN_len (key first B : List Int) (n q : Nat) : (strN key first B n q).length = n := by
  induction q with
  | zero => exact z_len _
  | succ q ih => simp [strN, str1_len, ih]
def streamI (key first B : List Int) : List Int := strN key first B B.length ((B.length + 15) / 16)

end Go.Proofs.X
end

section
/- Types and functions of ciphers, as instances. -/
open Go Go.Bx Go.Proofs
namespace Go.Proofs.X
instance : Clb Tryz.prog 113 := ⟨_, Tryz.func113, by kernel_rfl, rfl⟩
instance : Clb Tryz.prog 115 := ⟨_, Tryz.func115, by kernel_rfl, rfl⟩
instance : Clb Tryz.prog 114 := ⟨_, Tryz.func114, by kernel_rfl, rfl⟩
instance : Clb Tryz.prog 112 := ⟨_, Tryz.func112, by kernel_rfl, rfl⟩
instance : Clb Tryz.prog 116 := ⟨_, Tryz.func116, by kernel_rfl, rfl⟩
instance : Clb Tryz.prog 43 := ⟨_, Tryz.func43, by kernel_rfl, rfl⟩
instance : Clb Tryz.prog 44 := ⟨_, Tryz.func44, by kernel_rfl, rfl⟩
instance : Clb Tryz.prog 9 := ⟨_, Tryz.func9, by kernel_rfl, rfl⟩
instance : Und Tryz.prog 22 (.array 16 5) := ⟨Tryz.underlying22⟩
instance : Sz Tryz.prog 22 16 := ⟨Tryz.sizeOf22⟩
instance : Ag Tryz.prog 22 true := ⟨Tryz.isAgg22⟩
instance : Zv Tryz.prog 22 [.ints .u8 16 (zs (List.replicate 16 0))] := ⟨_, Tryz.zeroValue22, by kernel_rfl⟩
instance : Zb Tryz.prog 22 .u8 16 := ⟨_, Tryz.zeroValue22, by kernel_rfl⟩
instance : Inf Tryz.prog 22 Tryz.t22 := ⟨by kernel_rfl⟩
instance : Und Tryz.prog 96 (.pointer 129) := ⟨Tryz.underlying96⟩
instance : Sz Tryz.prog 96 1 := ⟨Tryz.sizeOf96⟩
instance : Ag Tryz.prog 96 false := ⟨Tryz.isAgg96⟩
instance : Zv Tryz.prog 96 [.one .nilp] := ⟨_, Tryz.zeroValue96, by kernel_rfl⟩
instance : Inf Tryz.prog 96 Tryz.t96 := ⟨by kernel_rfl⟩
instance : Und Tryz.prog 126 (.array 256 5) := ⟨Tryz.underlying126⟩
instance : Sz Tryz.prog 126 256 := ⟨Tryz.sizeOf126⟩
instance : Ag Tryz.prog 126 true := ⟨Tryz.isAgg126⟩
instance : Zv Tryz.prog 126 [.ints .u8 256 (zs (List.replicate 256 0))] := ⟨_, Tryz.zeroValue126, by kernel_rfl⟩
instance : Inf Tryz.prog 126 Tryz.t126 := ⟨by kernel_rfl⟩
instance : Und Tryz.prog 127 (.array 11 22) := ⟨Tryz.underlying127⟩
instance : Sz Tryz.prog 127 176 := ⟨Tryz.sizeOf127⟩
instance : Ag Tryz.prog 127 true := ⟨Tryz.isAgg127⟩
instance : Zv Tryz.prog 127 [.ints .u8 176 (zs (List.replicate 176 0))] := ⟨_, Tryz.zeroValue127, by kernel_rfl⟩
instance : Inf Tryz.prog 127 Tryz.t127 := ⟨by kernel_rfl⟩
instance : Und Tryz.prog 129 (.struct #[{ name := "s", type := 126, offset := 0, embedded := false, tag := "", pkgPath := "burrow/ciphers", byteOffset := 0 }, { name := "back", type := 126, offset := 256, embedded := false, tag := "", pkgPath := "burrow/ciphers", byteOffset := 256 }, { name := "keys", type := 127, offset := 512, embedded := false, tag := "", pkgPath := "burrow/ciphers", byteOffset := 512 }]) := ⟨Tryz.underlying129⟩
instance : Sz Tryz.prog 129 688 := ⟨Tryz.sizeOf129⟩
instance : Ag Tryz.prog 129 true := ⟨Tryz.isAgg129⟩
instance : Zv Tryz.prog 129 [.ints .u8 256 (zs (List.replicate 256 0)), .ints .u8 256 (zs (List.replicate 256 0)), .ints .u8 176 (zs (List.replicate 176 0))] := ⟨_, Tryz.zeroValue129, by kernel_rfl⟩
instance : FldC Tryz.prog 129 0 0 := ⟨_, _, _, Tryz.underlying129, rfl, Tryz.sizeOf126, by decide, rfl⟩
instance : FldC Tryz.prog 129 1 256 := ⟨_, _, _, Tryz.underlying129, rfl, Tryz.sizeOf126, by decide, rfl⟩
instance : FldC Tryz.prog 129 2 512 := ⟨_, _, _, Tryz.underlying129, rfl, Tryz.sizeOf127, by decide, rfl⟩
instance : Pl Tryz.prog 129 #[(0, 256), (256, 256), (512, 176)] := ⟨_, Tryz.underlying129, fun w => by kernel_rfl⟩
instance : Inf Tryz.prog 129 Tryz.t129 := ⟨by kernel_rfl⟩
instance : Und Tryz.prog 132 (.array 4 5) := ⟨Tryz.underlying132⟩
instance : Sz Tryz.prog 132 4 := ⟨Tryz.sizeOf132⟩
instance : Ag Tryz.prog 132 true := ⟨Tryz.isAgg132⟩
instance : Zv Tryz.prog 132 [.ints .u8 4 (zs (List.replicate 4 0))] := ⟨_, Tryz.zeroValue132, by kernel_rfl⟩
instance : Zb Tryz.prog 132 .u8 4 := ⟨_, Tryz.zeroValue132, by kernel_rfl⟩
instance : Inf Tryz.prog 132 Tryz.t132 := ⟨by kernel_rfl⟩
end Go.Proofs.X
end

section
set_option maxRecDepth 100000
set_option maxHeartbeats 4000000
open Go Go.Bx Go.Proofs
namespace Go.Proofs.X
theorem twiceA_c (x : Int) (h : shrK .u8 x 7 = 1) : Con Tryz.prog 113 [.s (.int .u8 x)] [] (.s (.int .u8 (xorK .u8 (shlK .u8 x 1) 27))) [] := by
 refine con_in 11 Tryz.func113 rfl rfl (m := 0) rfl ?_
 intro E hP hn hE
 refine qz hP hn ?_
 refine s_op k_as ?_
 refine s_nil trivial (n_wp (w_seq (qz hP hn ?_)))
 refine o3 ?_
 refine s_nil trivial (n_wp ?_)
 refine w_T rfl ?_ (decide_eq_true h)
 refine qz hP hn ?_
 refine o4 ?_
 refine s_nil trivial (n_wp (w_ret (r_thn ?_)))
 exact d_ret hP hn hE [] (by first | exact r_tmp Tryz.results113 | exact r_tmpa Tryz.results113)

theorem twiceB_c (x : Int) (h : ¬ shrK .u8 x 7 = 1) : Con Tryz.prog 113 [.s (.int .u8 x)] [] (.s (.int .u8 (shlK .u8 x 1))) [] := by
 refine con_in 11 Tryz.func113 rfl rfl (m := 0) rfl ?_
 intro E hP hn hE
 refine qz hP hn ?_
 refine s_op k_as ?_
 refine s_nil trivial (n_wp (w_seq (qz hP hn ?_)))
 refine o3 ?_
 refine s_nil trivial (n_wp ?_)
 refine w_F rfl ?_ (decide_eq_false h)
 refine w_skip (n_wp (qz hP hn ?_))
 refine o3 ?_
 refine s_nil trivial (n_wp (w_ret ?_))
 exact d_ret hP hn hE [] (by first | exact r_tmp Tryz.results113 | exact r_tmpa Tryz.results113)

theorem twice_c (x : Int) : Con Tryz.prog 113 [.s (.int .u8 x)] [] (.s (.int .u8 (twiceI x))) [] := by
 unfold twiceI; split
 · exact twiceA_c x ‹_›
 · exact twiceB_c x ‹_›

theorem place_c (i : Nat) (hi : i < 1000) : Con Tryz.prog 115 [.s (.int .i64 ((i : Nat) : Int))] [] (.s (.int .i64 (((i + 4 * (i % 4)) % 16 : Nat) : Int))) [] := by
 refine con_in 9 Tryz.func115 rfl rfl (m := 0) rfl ?_
 intro E hP hn hE
 refine qz hP hn ?_
 refine s_op k_as ?_
 refine qx hP hn ?_
 refine o4 ?_
 refine o3 ?_
 refine s_nil trivial (n_wp (w_ret ?_))
 exact d_ret hP hn hE [] (by first | exact r_tmp Tryz.results115 | exact r_tmpa Tryz.results115)

theorem against_c (a b : List Int) (ha : a.length = 16) : Con Tryz.prog 114 [.agg [.ints .u8 16 a], .agg [.ints .u8 16 b]] [] (.agg [.ints .u8 16 (xor16 a b)]) [] := by
 refine con_in 19 Tryz.func114 rfl rfl (m := 0) rfl ?_
 intro E hP hn hE
 refine qz hP hn ?_
 refine s_op k_bx ?_
 refine s_op k_bx ?_
 refine s_op k_al ?_
 refine s_nil trivial (n_wp (w_seq (qz hP hn ?_)))
 refine s_op k_mv ?_
 refine s_nil trivial (n_wp (w_block ?_))
 refine c_loop (fun m T H => ∃ i, i ≤ 16 ∧ m = 16 - i ∧ T = [(2, .s (.ptr 0 0 0)), (3, .s (.ptr 1 0 0)), (4, .s (.ptr 2 0 0)), (6, .s (.int .i64 ((i : Nat) : Int)))] ∧ H = [some ⟨true, [.ints .u8 16 (xorTo a b i)]⟩, some ⟨true, [.ints .u8 16 b]⟩, some ⟨true, [.ints .u8 16 (z 16)]⟩]) (16) ⟨0, by omega, rfl, rfl, rfl⟩ (wk hE []) ?_
 rintro n_ T_ H_ ⟨i, hi, rfl, rfl, rfl⟩
 have hx := (xorTo_len a b i).trans ha
 refine qz hP hn ?_
 refine s_op k_lss ?_
 refine s_nil trivial (n_wp (w_seq ?_))
 refine w_if rfl (fun h_t7 => ?_) (fun h_t7 => ?_)
 · refine w_skip (n_wp (w_seq (w_block (qz hP hn ?_))))
   refine o2 ?_
   refine s_nil trivial (n_wp ?_)
   refine g_any hP hn ?_
   refine o4 ?_
   refine o4 ?_
   refine s_st k_st ?_
   refine s_nil (by kernel_rfl) ?_
   refine n_blo (n_wp (g_reg hP hn ?_))
   refine o2 ?_
   refine s_nil trivial ?_
   exact n_round (16 - (i + 1)) (by omega) ⟨i + 1, by omega, rfl, rfl, rfl⟩ (wk hE [])
 · have hi : i = 16 := by omega
   rw [show xorTo a b i = xor16 a b by rw [hi, xor16]]
   refine w_exit (x_thn (x_thn (x_eq (n_wp (qz hP hn ?_)))))
   refine s_op k_ld ?_
   refine s_st k_st ?_
   refine s_nil trivial (n_wp (w_ret ?_))
   exact d_ret hP hn hE [] (r_cell Tryz.results114)

theorem mixed_c (b : List Int) (hb : b.length = 16) : Con Tryz.prog 116 [.agg [.ints .u8 16 b]] [] (.agg [.ints .u8 16 (mixI b)]) [] := by
 refine con_in 64 Tryz.func116 rfl rfl (m := 0) rfl ?_
 intro E hP hn hE
 refine qz hP hn ?_
 refine s_op k_bx ?_
 refine s_op k_al ?_
 refine s_nil trivial (n_wp (w_seq (qz hP hn ?_)))
 refine s_op k_as ?_
 refine s_nil trivial (n_wp (w_block ?_))
 refine c_loop (fun m T H => ∃ j, j ≤ 4 ∧ m = 4 - j ∧ T = [(1, .s (.ptr 0 0 0)), (2, .s (.ptr 1 0 0)), (3, .s (.int .i64 ((4 * j : Nat) : Int)))] ∧ H = [some ⟨true, [.ints .u8 16 (mixN b j)]⟩, some ⟨true, [.ints .u8 16 (z 16)]⟩]) (4) ⟨0, by omega, rfl, rfl, rfl⟩ (wk hE []) ?_
 rintro n_ T_ H_ ⟨j, hj, rfl, rfl, rfl⟩
 have hx := (mixN_len b j).trans hb
 refine w_seq (qz hP hn ?_)
 refine o2 ?_
 refine s_nil trivial (n_wp ?_)
 refine w_if rfl (fun h_t9 => ?_) (fun h_t9 => ?_)
 · refine w_skip (n_wp (w_seq (w_block (w_seq ?_))))
   refine g_any hP hn ?_
   refine o4 ?_
   refine o4 ?_
   refine o4 ?_
   refine o4 ?_
   refine o3 ?_
   refine s_nil (by kernel_rfl) ?_
   refine n_wp (qz hP hn ?_)
   refine o4 ?_
   refine qx hP hn ?_
   refine s_op k_mv ?_
   refine s_nil trivial (n_wp (w_block ?_))
   refine c_loop (fun m T H => ∃ i, i ≤ 4 ∧ m = 4 - i ∧ T = [(1, .s (.ptr 0 0 0)), (2, .s (.ptr 1 0 0)), (3, .s (.int .i64 ((4 * j : Nat) : Int))), (4, .s (.int .u8 (xorK .u8 (xorK .u8 (xorK .u8 ((mixN b j).getD (4 * j) 0) ((mixN b j).getD (4 * j + 1) 0)) ((mixN b j).getD (4 * j + 2) 0)) ((mixN b j).getD (4 * j + 3) 0)))), (5, .s (.int .u8 ((mixN b j).getD (4 * j) 0))), (33, .s (.int .i64 ((i : Nat) : Int)))] ∧ H = [some ⟨true, [.ints .u8 16 (mixR (mixN b j) (4 * j) (xorK .u8 (xorK .u8 (xorK .u8 ((mixN b j).getD (4 * j) 0) ((mixN b j).getD (4 * j + 1) 0)) ((mixN b j).getD (4 * j + 2) 0)) ((mixN b j).getD (4 * j + 3) 0)) ((mixN b j).getD (4 * j) 0) i)]⟩, some ⟨true, [.ints .u8 16 (z 16)]⟩]) (4) ⟨0, by omega, rfl, rfl, rfl⟩ (wk hE []) ?_
   rintro n_ T_ H_ ⟨i, hi, rfl, rfl, rfl⟩
   have hy := (mixR_len (mixN b j) (4 * j) (xorK .u8 (xorK .u8 (xorK .u8 ((mixN b j).getD (4 * j) 0) ((mixN b j).getD (4 * j + 1) 0)) ((mixN b j).getD (4 * j + 2) 0)) ((mixN b j).getD (4 * j + 3) 0)) ((mixN b j).getD (4 * j) 0) i).trans hx
   refine qz hP hn ?_
   refine s_op k_lss ?_
   refine s_nil trivial (n_wp (w_seq ?_))
   refine w_if rfl (fun h_t34 => ?_) (fun h_t34 => ?_)
   · refine w_skip (n_wp (w_seq (w_block (qz hP hn ?_))))
     refine o2 ?_
     refine qx hP hn ?_
     refine o2 ?_
     refine s_nil trivial (n_wp (w_seq (qz hP hn ?_)))
     refine o2 ?_
     refine s_nil trivial (n_wp ?_)
     refine w_if rfl (fun h_t38 => ?_) (fun h_t38 => ?_)
     · have hsel : ∀ x y : Int, (if i < 3 then x else y) = x := fun x y => if_pos h_t38
       refine g_reg hP hn ?_
       refine o4 ?_
       refine o3 ?_
       refine s_nil trivial (n_wp ?_)
       refine g_any hP hn ?_
       refine o4 ?_
       refine o4 ?_
       refine o3 ?_
       refine o2 ?_
       refine s_op (k_call [] (con := twice_c _)) ?_
       refine o3 ?_
       refine s_st k_st ?_
       refine s_nil (by kernel_rfl) ?_
       refine n_blo (n_wp (g_reg hP hn ?_))
       refine o2 ?_
       refine s_nil trivial ?_
       exact n_round (4 - (i + 1)) (by omega) ⟨i + 1, by omega, rfl, rfl, by rw [mixR, hsel]⟩ (wk hE [])
     · have hsel : ∀ x y : Int, (if i < 3 then x else y) = y := fun x y => if_neg h_t38
       refine w_skip (n_wp ?_)
       refine g_any hP hn ?_
       refine o4 ?_
       refine o4 ?_
       refine o3 ?_
       refine o2 ?_
       refine s_op (k_call [] (con := twice_c _)) ?_
       refine o3 ?_
       refine s_st k_st ?_
       refine s_nil (by kernel_rfl) ?_
       refine n_blo (n_wp (g_reg hP hn ?_))
       refine o2 ?_
       refine s_nil trivial ?_
       exact n_round (4 - (i + 1)) (by omega) ⟨i + 1, by omega, rfl, rfl, by rw [mixR, hsel]⟩ (wk hE [])
   · have hi4 : i = 4 := by omega
     rw [show mixR (mixN b j) (4 * j) _ _ i = mixN b (j + 1) by rw [hi4, mixN, mixC]]
     refine w_exit (x_thn (x_thn (x_eq (n_blo (n_wp (g_reg hP hn ?_))))))
     refine o3 ?_
     refine s_nil trivial ?_
     exact n_round (4 - (j + 1)) (by omega) ⟨j + 1, by omega, rfl, rfl, rfl⟩ (wk hE [])
 · have hj4 : j = 4 := by omega
   rw [show mixN b j = mixI b by rw [hj4, mixI]]
   refine w_exit (x_thn (x_thn (x_eq (n_wp (qz hP hn ?_)))))
   refine s_op k_ld ?_
   refine s_st k_st ?_
   refine s_nil trivial (n_wp (w_ret ?_))
   exact d_ret hP hn hE [] (r_cell Tryz.results116)

end Go.Proofs.X
end
