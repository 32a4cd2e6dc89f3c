/- The types and functions of sums, as instances. -/
import Derived.Test.YthjccanlmhbecaaBShaS
import Derived.Test.YthjccanlmhbecaaProg
import Derived.KernelRfl
set_option linter.unusedVariables false
set_option linter.unusedSimpArgs false
open Go Go.Bx Go.Proofs
namespace Go.Proofs.X
instance : Mix Try.prog := ⟨by kernel_rfl⟩
instance : Clb Try.prog 50 := ⟨_, Try.func50, by kernel_rfl, rfl⟩
instance : Clb Try.prog 48 := ⟨_, Try.func48, by kernel_rfl, rfl⟩
instance : Clb Try.prog 25 := ⟨_, Try.func25, by kernel_rfl, rfl⟩
instance : Clb Try.prog 47 := ⟨_, Try.func47, by kernel_rfl, rfl⟩
instance : Clb Try.prog 46 := ⟨_, Try.func46, by kernel_rfl, rfl⟩
instance : Clb Try.prog 49 := ⟨_, Try.func49, by kernel_rfl, rfl⟩
instance : Clb Try.prog 45 := ⟨_, Try.func45, by kernel_rfl, rfl⟩
instance : Clb Try.prog 34 := ⟨_, Try.func34, by kernel_rfl, rfl⟩
instance : Clb Try.prog 43 := ⟨_, Try.func43, by kernel_rfl, rfl⟩
instance : Clb Try.prog 35 := ⟨_, Try.func35, by kernel_rfl, rfl⟩
instance : Clb Try.prog 36 := ⟨_, Try.func36, by kernel_rfl, rfl⟩
instance : Clb Try.prog 32 := ⟨_, Try.func32, by kernel_rfl, rfl⟩
instance : Und Try.prog 3 (.int .i64) := ⟨Try.underlying3⟩
instance : Sz Try.prog 3 1 := ⟨Try.sizeOf3⟩
instance : Ag Try.prog 3 false := ⟨Try.isAgg3⟩
instance : Zv Try.prog 3 [.one (.int .i64 0)] := ⟨_, Try.zeroValue3, by kernel_rfl⟩
instance : Zi Try.prog 3 .i64 := ⟨Try.zeroValue3⟩
instance : Inf Try.prog 3 Try.t3 := ⟨by kernel_rfl⟩
instance : Und Try.prog 5 (.int .u8) := ⟨Try.underlying5⟩
instance : Sz Try.prog 5 1 := ⟨Try.sizeOf5⟩
instance : Ag Try.prog 5 false := ⟨Try.isAgg5⟩
instance : Zv Try.prog 5 [.one (.int .u8 0)] := ⟨_, Try.zeroValue5, by kernel_rfl⟩
instance : Zi Try.prog 5 .u8 := ⟨Try.zeroValue5⟩
instance : Inf Try.prog 5 Try.t5 := ⟨by kernel_rfl⟩
instance : Und Try.prog 23 (.array 32 5) := ⟨Try.underlying23⟩
instance : Sz Try.prog 23 32 := ⟨Try.sizeOf23⟩
instance : Ag Try.prog 23 true := ⟨Try.isAgg23⟩
instance : Zv Try.prog 23 [.ints .u8 32 (zs (List.replicate 32 0))] := ⟨_, Try.zeroValue23, by kernel_rfl⟩
instance : Zb Try.prog 23 .u8 32 := ⟨_, Try.zeroValue23, by kernel_rfl⟩
instance : Inf Try.prog 23 Try.t23 := ⟨by kernel_rfl⟩
instance : Und Try.prog 27 (.slice 28) := ⟨Try.underlying27⟩
instance : Sz Try.prog 27 1 := ⟨Try.sizeOf27⟩
instance : Ag Try.prog 27 false := ⟨Try.isAgg27⟩
instance : Zv Try.prog 27 [.one .nils] := ⟨_, Try.zeroValue27, by kernel_rfl⟩
instance : Zn Try.prog 27 := ⟨Try.zeroValue27⟩
instance : Inf Try.prog 27 Try.t27 := ⟨by kernel_rfl⟩
instance : Und Try.prog 28 (.slice 5) := ⟨Try.underlying28⟩
instance : Sz Try.prog 28 1 := ⟨Try.sizeOf28⟩
instance : Ag Try.prog 28 false := ⟨Try.isAgg28⟩
instance : Zv Try.prog 28 [.one .nils] := ⟨_, Try.zeroValue28, by kernel_rfl⟩
instance : Zn Try.prog 28 := ⟨Try.zeroValue28⟩
instance : Inf Try.prog 28 Try.t28 := ⟨by kernel_rfl⟩
instance : Und Try.prog 33 (.int .u32) := ⟨Try.underlying33⟩
instance : Sz Try.prog 33 1 := ⟨Try.sizeOf33⟩
instance : Ag Try.prog 33 false := ⟨Try.isAgg33⟩
instance : Zv Try.prog 33 [.one (.int .u32 0)] := ⟨_, Try.zeroValue33, by kernel_rfl⟩
instance : Zi Try.prog 33 .u32 := ⟨Try.zeroValue33⟩
instance : Inf Try.prog 33 Try.t33 := ⟨by kernel_rfl⟩
instance : Und Try.prog 37 (.int .u64) := ⟨Try.underlying37⟩
instance : Sz Try.prog 37 1 := ⟨Try.sizeOf37⟩
instance : Ag Try.prog 37 false := ⟨Try.isAgg37⟩
instance : Zv Try.prog 37 [.one (.int .u64 0)] := ⟨_, Try.zeroValue37, by kernel_rfl⟩
instance : Zi Try.prog 37 .u64 := ⟨Try.zeroValue37⟩
instance : Inf Try.prog 37 Try.t37 := ⟨by kernel_rfl⟩
instance : Und Try.prog 78 (.array 64 5) := ⟨Try.underlying78⟩
instance : Sz Try.prog 78 64 := ⟨Try.sizeOf78⟩
instance : Ag Try.prog 78 true := ⟨Try.isAgg78⟩
instance : Zv Try.prog 78 [.ints .u8 64 (zs (List.replicate 64 0))] := ⟨_, Try.zeroValue78, by kernel_rfl⟩
instance : Zb Try.prog 78 .u8 64 := ⟨_, Try.zeroValue78, by kernel_rfl⟩
instance : Inf Try.prog 78 Try.t78 := ⟨by kernel_rfl⟩
instance : Und Try.prog 81 (.pointer 107) := ⟨Try.underlying81⟩
instance : Sz Try.prog 81 1 := ⟨Try.sizeOf81⟩
instance : Ag Try.prog 81 false := ⟨Try.isAgg81⟩
instance : Zv Try.prog 81 [.one .nilp] := ⟨_, Try.zeroValue81, by kernel_rfl⟩
instance : Inf Try.prog 81 Try.t81 := ⟨by kernel_rfl⟩
instance : Und Try.prog 85 (.array 8 5) := ⟨Try.underlying85⟩
instance : Sz Try.prog 85 8 := ⟨Try.sizeOf85⟩
instance : Ag Try.prog 85 true := ⟨Try.isAgg85⟩
instance : Zv Try.prog 85 [.ints .u8 8 (zs (List.replicate 8 0))] := ⟨_, Try.zeroValue85, by kernel_rfl⟩
instance : Zb Try.prog 85 .u8 8 := ⟨_, Try.zeroValue85, by kernel_rfl⟩
instance : Inf Try.prog 85 Try.t85 := ⟨by kernel_rfl⟩
instance : Und Try.prog 101 (.pointer 103) := ⟨Try.underlying101⟩
instance : Sz Try.prog 101 1 := ⟨Try.sizeOf101⟩
instance : Ag Try.prog 101 false := ⟨Try.isAgg101⟩
instance : Zv Try.prog 101 [.one .nilp] := ⟨_, Try.zeroValue101, by kernel_rfl⟩
instance : Inf Try.prog 101 Try.t101 := ⟨by kernel_rfl⟩
instance : Und Try.prog 103 (.array 8 33) := ⟨Try.underlying103⟩
instance : Sz Try.prog 103 8 := ⟨Try.sizeOf103⟩
instance : Ag Try.prog 103 true := ⟨Try.isAgg103⟩
instance : Zv Try.prog 103 [.ints .u32 8 (zs (List.replicate 8 0))] := ⟨_, Try.zeroValue103, by kernel_rfl⟩
instance : Zb Try.prog 103 .u32 8 := ⟨_, Try.zeroValue103, by kernel_rfl⟩
instance : Inf Try.prog 103 Try.t103 := ⟨by kernel_rfl⟩
instance : Und Try.prog 105 (.struct #[{ name := "b", type := 78, offset := 0, embedded := false, tag := "", pkgPath := "burrow/shas", byteOffset := 0 }, { name := "many", type := 3, offset := 64, embedded := false, tag := "", pkgPath := "burrow/shas", byteOffset := 64 }]) := ⟨Try.underlying105⟩
instance : Sz Try.prog 105 65 := ⟨Try.sizeOf105⟩
instance : Ag Try.prog 105 true := ⟨Try.isAgg105⟩
instance : Zv Try.prog 105 [.ints .u8 64 (zs (List.replicate 64 0)), .one (.int .i64 0)] := ⟨.agg (List.replicate 64 (Value.int .u8 0) ++ [Value.int .i64 0]).toArray, fun w => by kernel_rfl, by kernel_rfl⟩
instance : FldC Try.prog 105 0 0 := ⟨_, _, _, Try.underlying105, rfl, Try.sizeOf78, by decide, rfl⟩
instance : FldC Try.prog 105 1 64 := ⟨_, _, _, Try.underlying105, rfl, Try.sizeOf3, by decide, rfl⟩
instance : Pl Try.prog 105 #[(0, 64), (64, 1)] := ⟨_, Try.underlying105, fun w => by kernel_rfl⟩
instance : Inf Try.prog 105 Try.t105 := ⟨by kernel_rfl⟩
instance : Und Try.prog 107 (.struct #[{ name := "s", type := 101, offset := 0, embedded := false, tag := "", pkgPath := "burrow/shas", byteOffset := 0 }, { name := "x", type := 105, offset := 1, embedded := false, tag := "", pkgPath := "burrow/shas", byteOffset := 8 }, { name := "many", type := 37, offset := 66, embedded := false, tag := "", pkgPath := "burrow/shas", byteOffset := 80 }]) := ⟨Try.underlying107⟩
instance : Sz Try.prog 107 67 := ⟨Try.sizeOf107⟩
instance : Ag Try.prog 107 true := ⟨Try.isAgg107⟩
instance : Zv Try.prog 107 [.one .nilp, .ints .u8 64 (zs (List.replicate 64 0)), .one (.int .i64 0), .one (.int .u64 0)] := ⟨.agg ([Value.pointer none] ++ List.replicate 64 (Value.int .u8 0) ++ [Value.int .i64 0] ++ [Value.int .u64 0]).toArray, fun w => by kernel_rfl, by kernel_rfl⟩
instance : FldC Try.prog 107 0 0 := ⟨_, _, _, Try.underlying107, rfl, Try.sizeOf101, by decide, rfl⟩
instance : FldC Try.prog 107 1 1 := ⟨_, _, _, Try.underlying107, rfl, Try.sizeOf105, by decide, rfl⟩
instance : FldC Try.prog 107 2 66 := ⟨_, _, _, Try.underlying107, rfl, Try.sizeOf37, by decide, rfl⟩
instance : Pl Try.prog 107 #[(0, 1), (1, 65), (66, 1)] := ⟨_, Try.underlying107, fun w => by kernel_rfl⟩
instance : Inf Try.prog 107 Try.t107 := ⟨by kernel_rfl⟩
instance : Und Try.prog 109 (.int .u64) := ⟨Try.underlying109⟩
instance : Sz Try.prog 109 1 := ⟨Try.sizeOf109⟩
instance : Ag Try.prog 109 false := ⟨Try.isAgg109⟩
instance : Zv Try.prog 109 [.one (.int .u64 0)] := ⟨_, Try.zeroValue109, by kernel_rfl⟩
instance : Zi Try.prog 109 .u64 := ⟨Try.zeroValue109⟩
instance : Inf Try.prog 109 Try.t109 := ⟨by kernel_rfl⟩
instance : Und Try.prog 111 (.pointer 105) := ⟨Try.underlying111⟩
instance : Sz Try.prog 111 1 := ⟨Try.sizeOf111⟩
instance : Ag Try.prog 111 false := ⟨Try.isAgg111⟩
instance : Zv Try.prog 111 [.one .nilp] := ⟨_, Try.zeroValue111, by kernel_rfl⟩
instance : Inf Try.prog 111 Try.t111 := ⟨by kernel_rfl⟩
instance : Und Try.prog 113 (.array 64 33) := ⟨Try.underlying113⟩
instance : Sz Try.prog 113 64 := ⟨Try.sizeOf113⟩
instance : Ag Try.prog 113 true := ⟨Try.isAgg113⟩
instance : Zv Try.prog 113 [.ints .u32 64 (zs (List.replicate 64 0))] := ⟨_, Try.zeroValue113, by kernel_rfl⟩
instance : Zb Try.prog 113 .u32 64 := ⟨_, Try.zeroValue113, by kernel_rfl⟩
instance : Inf Try.prog 113 Try.t113 := ⟨by kernel_rfl⟩
instance : Und Try.prog 116 (.slice 33) := ⟨Try.underlying116⟩
instance : Sz Try.prog 116 1 := ⟨Try.sizeOf116⟩
instance : Ag Try.prog 116 false := ⟨Try.isAgg116⟩
instance : Zv Try.prog 116 [.one .nils] := ⟨_, Try.zeroValue116, by kernel_rfl⟩
instance : Zn Try.prog 116 := ⟨Try.zeroValue116⟩
instance : Inf Try.prog 116 Try.t116 := ⟨by kernel_rfl⟩
instance : Und Try.prog 117 (.array 16 33) := ⟨Try.underlying117⟩
instance : Sz Try.prog 117 16 := ⟨Try.sizeOf117⟩
instance : Ag Try.prog 117 true := ⟨Try.isAgg117⟩
instance : Zv Try.prog 117 [.ints .u32 16 (zs (List.replicate 16 0))] := ⟨_, Try.zeroValue117, by kernel_rfl⟩
instance : Zb Try.prog 117 .u32 16 := ⟨_, Try.zeroValue117, by kernel_rfl⟩
instance : Inf Try.prog 117 Try.t117 := ⟨by kernel_rfl⟩
instance : Und Try.prog 119 (.slice 3) := ⟨Try.underlying119⟩
instance : Sz Try.prog 119 1 := ⟨Try.sizeOf119⟩
instance : Ag Try.prog 119 false := ⟨Try.isAgg119⟩
instance : Zv Try.prog 119 [.one .nils] := ⟨_, Try.zeroValue119, by kernel_rfl⟩
instance : Zn Try.prog 119 := ⟨Try.zeroValue119⟩
instance : Inf Try.prog 119 Try.t119 := ⟨by kernel_rfl⟩
end Go.Proofs.X
