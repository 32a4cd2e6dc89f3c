/- A part of the proofs of this claim: BBokT, Bx48, Bx49, Bx50, BR5T, BNumS, BByteS, BRShaP. No conditions. -/
import Derived.Test.YtokgpammicpahaaGreatDoorK4
import Derived.Test.YtokgpammicpahaaGreatDoorK3
set_option linter.unusedVariables false
set_option linter.unusedSimpArgs false
section
/- Types and functions of twins and of the Book, as instances. -/
open Go Go.Bx Go.Proofs
namespace Go.Proofs.X
instance : Clb Tryz.prog 8 := ⟨_, Tryz.func8, by kernel_rfl, rfl⟩
instance : Clb Tryz.prog 13 := ⟨_, Tryz.func13, by kernel_rfl, rfl⟩
instance : Clb Tryz.prog 11 := ⟨_, Tryz.func11, by kernel_rfl, rfl⟩
instance : Clb Tryz.prog 120 := ⟨_, Tryz.func120, by kernel_rfl, rfl⟩
instance : Clb Tryz.prog 135 := ⟨_, Tryz.func135, by kernel_rfl, rfl⟩
instance : Clb Tryz.prog 10 := ⟨_, Tryz.func10, by kernel_rfl, rfl⟩
instance : Clb Tryz.prog 45 := ⟨_, Tryz.func45, by kernel_rfl, rfl⟩
instance : Clb Tryz.prog 14 := ⟨_, Tryz.func14, by kernel_rfl, rfl⟩
instance : Clb Tryz.prog 48 := ⟨_, Tryz.func48, by kernel_rfl, rfl⟩
instance : Clb Tryz.prog 49 := ⟨_, Tryz.func49, by kernel_rfl, rfl⟩
instance : Clb Tryz.prog 50 := ⟨_, Tryz.func50, by kernel_rfl, rfl⟩
instance : Clb Tryz.prog 51 := ⟨_, Tryz.func51, by kernel_rfl, rfl⟩
instance : Clb Tryz.prog 52 := ⟨_, Tryz.func52, by kernel_rfl, rfl⟩
instance : Clb Tryz.prog 53 := ⟨_, Tryz.func53, by kernel_rfl, rfl⟩
instance : Clb Tryz.prog 54 := ⟨_, Tryz.func54, by kernel_rfl, rfl⟩
instance : Clb Tryz.prog 55 := ⟨_, Tryz.func55, by kernel_rfl, rfl⟩
instance : Clb Tryz.prog 56 := ⟨_, Tryz.func56, by kernel_rfl, rfl⟩
instance : Clb Tryz.prog 57 := ⟨_, Tryz.func57, by kernel_rfl, rfl⟩
instance : Clb Tryz.prog 58 := ⟨_, Tryz.func58, by kernel_rfl, rfl⟩
instance : Clb Tryz.prog 59 := ⟨_, Tryz.func59, by kernel_rfl, rfl⟩
instance : Clb Tryz.prog 60 := ⟨_, Tryz.func60, by kernel_rfl, rfl⟩
instance : Clb Tryz.prog 61 := ⟨_, Tryz.func61, by kernel_rfl, rfl⟩
instance : Clb Tryz.prog 62 := ⟨_, Tryz.func62, by kernel_rfl, rfl⟩
instance : Clb Tryz.prog 63 := ⟨_, Tryz.func63, by kernel_rfl, rfl⟩
instance : Clb Tryz.prog 64 := ⟨_, Tryz.func64, by kernel_rfl, rfl⟩
instance : Clb Tryz.prog 65 := ⟨_, Tryz.func65, by kernel_rfl, rfl⟩
instance : Clb Tryz.prog 66 := ⟨_, Tryz.func66, by kernel_rfl, rfl⟩
instance : Clb Tryz.prog 67 := ⟨_, Tryz.func67, by kernel_rfl, rfl⟩
instance : Clb Tryz.prog 68 := ⟨_, Tryz.func68, by kernel_rfl, rfl⟩
instance : Clb Tryz.prog 69 := ⟨_, Tryz.func69, by kernel_rfl, rfl⟩
instance : Clb Tryz.prog 70 := ⟨_, Tryz.func70, by kernel_rfl, rfl⟩
instance : Clb Tryz.prog 71 := ⟨_, Tryz.func71, by kernel_rfl, rfl⟩
instance : Clb Tryz.prog 72 := ⟨_, Tryz.func72, by kernel_rfl, rfl⟩
instance : Clb Tryz.prog 73 := ⟨_, Tryz.func73, by kernel_rfl, rfl⟩
instance : Clb Tryz.prog 74 := ⟨_, Tryz.func74, by kernel_rfl, rfl⟩
instance : Clb Tryz.prog 75 := ⟨_, Tryz.func75, by kernel_rfl, rfl⟩
instance : Clb Tryz.prog 76 := ⟨_, Tryz.func76, by kernel_rfl, rfl⟩
instance : Clb Tryz.prog 77 := ⟨_, Tryz.func77, by kernel_rfl, rfl⟩
instance : Clb Tryz.prog 78 := ⟨_, Tryz.func78, by kernel_rfl, rfl⟩
instance : Clb Tryz.prog 79 := ⟨_, Tryz.func79, by kernel_rfl, rfl⟩
instance : Clb Tryz.prog 80 := ⟨_, Tryz.func80, by kernel_rfl, rfl⟩
instance : Clb Tryz.prog 81 := ⟨_, Tryz.func81, by kernel_rfl, rfl⟩
instance : Clb Tryz.prog 82 := ⟨_, Tryz.func82, by kernel_rfl, rfl⟩
instance : Clb Tryz.prog 83 := ⟨_, Tryz.func83, by kernel_rfl, rfl⟩
instance : Clb Tryz.prog 84 := ⟨_, Tryz.func84, by kernel_rfl, rfl⟩
instance : Clb Tryz.prog 85 := ⟨_, Tryz.func85, by kernel_rfl, rfl⟩
instance : Clb Tryz.prog 86 := ⟨_, Tryz.func86, by kernel_rfl, rfl⟩
instance : Clb Tryz.prog 87 := ⟨_, Tryz.func87, by kernel_rfl, rfl⟩
instance : Clb Tryz.prog 88 := ⟨_, Tryz.func88, by kernel_rfl, rfl⟩
instance : Clb Tryz.prog 89 := ⟨_, Tryz.func89, by kernel_rfl, rfl⟩
instance : Clb Tryz.prog 90 := ⟨_, Tryz.func90, by kernel_rfl, rfl⟩
instance : Clb Tryz.prog 91 := ⟨_, Tryz.func91, by kernel_rfl, rfl⟩
instance : Clb Tryz.prog 92 := ⟨_, Tryz.func92, by kernel_rfl, rfl⟩
instance : Und Tryz.prog 9 (.string) := ⟨Tryz.underlying9⟩
instance : Sz Tryz.prog 9 1 := ⟨Tryz.sizeOf9⟩
instance : Ag Tryz.prog 9 false := ⟨Tryz.isAgg9⟩
instance : Zv Tryz.prog 9 [.one (.val (.string ⟨#[]⟩))] := ⟨_, Tryz.zeroValue9, by kernel_rfl⟩
instance : Inf Tryz.prog 9 Tryz.t9 := ⟨by kernel_rfl⟩
instance : Und Tryz.prog 27 (.slice 136) := ⟨Tryz.underlying27⟩
instance : Sz Tryz.prog 27 1 := ⟨Tryz.sizeOf27⟩
instance : Ag Tryz.prog 27 false := ⟨Tryz.isAgg27⟩
instance : Zv Tryz.prog 27 [.one .nils] := ⟨_, Tryz.zeroValue27, by kernel_rfl⟩
instance : Zn Tryz.prog 27 := ⟨Tryz.zeroValue27⟩
instance : Inf Tryz.prog 27 Tryz.t27 := ⟨by kernel_rfl⟩
instance : Und Tryz.prog 28 (.slice 146) := ⟨Tryz.underlying28⟩
instance : Sz Tryz.prog 28 1 := ⟨Tryz.sizeOf28⟩
instance : Ag Tryz.prog 28 false := ⟨Tryz.isAgg28⟩
instance : Zv Tryz.prog 28 [.one .nils] := ⟨_, Tryz.zeroValue28, by kernel_rfl⟩
instance : Zn Tryz.prog 28 := ⟨Tryz.zeroValue28⟩
instance : Inf Tryz.prog 28 Tryz.t28 := ⟨by kernel_rfl⟩
instance : Und Tryz.prog 29 (.slice 149) := ⟨Tryz.underlying29⟩
instance : Sz Tryz.prog 29 1 := ⟨Tryz.sizeOf29⟩
instance : Ag Tryz.prog 29 false := ⟨Tryz.isAgg29⟩
instance : Zv Tryz.prog 29 [.one .nils] := ⟨_, Tryz.zeroValue29, by kernel_rfl⟩
instance : Zn Tryz.prog 29 := ⟨Tryz.zeroValue29⟩
instance : Inf Tryz.prog 29 Tryz.t29 := ⟨by kernel_rfl⟩
instance : Und Tryz.prog 30 (.slice 153) := ⟨Tryz.underlying30⟩
instance : Sz Tryz.prog 30 1 := ⟨Tryz.sizeOf30⟩
instance : Ag Tryz.prog 30 false := ⟨Tryz.isAgg30⟩
instance : Zv Tryz.prog 30 [.one .nils] := ⟨_, Tryz.zeroValue30, by kernel_rfl⟩
instance : Zn Tryz.prog 30 := ⟨Tryz.zeroValue30⟩
instance : Inf Tryz.prog 30 Tryz.t30 := ⟨by kernel_rfl⟩
instance : Und Tryz.prog 31 (.slice 157) := ⟨Tryz.underlying31⟩
instance : Sz Tryz.prog 31 1 := ⟨Tryz.sizeOf31⟩
instance : Ag Tryz.prog 31 false := ⟨Tryz.isAgg31⟩
instance : Zv Tryz.prog 31 [.one .nils] := ⟨_, Tryz.zeroValue31, by kernel_rfl⟩
instance : Zn Tryz.prog 31 := ⟨Tryz.zeroValue31⟩
instance : Inf Tryz.prog 31 Tryz.t31 := ⟨by kernel_rfl⟩
instance : Und Tryz.prog 32 (.slice 161) := ⟨Tryz.underlying32⟩
instance : Sz Tryz.prog 32 1 := ⟨Tryz.sizeOf32⟩
instance : Ag Tryz.prog 32 false := ⟨Tryz.isAgg32⟩
instance : Zv Tryz.prog 32 [.one .nils] := ⟨_, Tryz.zeroValue32, by kernel_rfl⟩
instance : Zn Tryz.prog 32 := ⟨Tryz.zeroValue32⟩
instance : Inf Tryz.prog 32 Tryz.t32 := ⟨by kernel_rfl⟩
instance : Und Tryz.prog 33 (.slice 166) := ⟨Tryz.underlying33⟩
instance : Sz Tryz.prog 33 1 := ⟨Tryz.sizeOf33⟩
instance : Ag Tryz.prog 33 false := ⟨Tryz.isAgg33⟩
instance : Zv Tryz.prog 33 [.one .nils] := ⟨_, Tryz.zeroValue33, by kernel_rfl⟩
instance : Zn Tryz.prog 33 := ⟨Tryz.zeroValue33⟩
instance : Inf Tryz.prog 33 Tryz.t33 := ⟨by kernel_rfl⟩
instance : Und Tryz.prog 34 (.slice 171) := ⟨Tryz.underlying34⟩
instance : Sz Tryz.prog 34 1 := ⟨Tryz.sizeOf34⟩
instance : Ag Tryz.prog 34 false := ⟨Tryz.isAgg34⟩
instance : Zv Tryz.prog 34 [.one .nils] := ⟨_, Tryz.zeroValue34, by kernel_rfl⟩
instance : Zn Tryz.prog 34 := ⟨Tryz.zeroValue34⟩
instance : Inf Tryz.prog 34 Tryz.t34 := ⟨by kernel_rfl⟩
instance : Und Tryz.prog 35 (.slice 175) := ⟨Tryz.underlying35⟩
instance : Sz Tryz.prog 35 1 := ⟨Tryz.sizeOf35⟩
instance : Ag Tryz.prog 35 false := ⟨Tryz.isAgg35⟩
instance : Zv Tryz.prog 35 [.one .nils] := ⟨_, Tryz.zeroValue35, by kernel_rfl⟩
instance : Zn Tryz.prog 35 := ⟨Tryz.zeroValue35⟩
instance : Inf Tryz.prog 35 Tryz.t35 := ⟨by kernel_rfl⟩
instance : Und Tryz.prog 36 (.slice 179) := ⟨Tryz.underlying36⟩
instance : Sz Tryz.prog 36 1 := ⟨Tryz.sizeOf36⟩
instance : Ag Tryz.prog 36 false := ⟨Tryz.isAgg36⟩
instance : Zv Tryz.prog 36 [.one .nils] := ⟨_, Tryz.zeroValue36, by kernel_rfl⟩
instance : Zn Tryz.prog 36 := ⟨Tryz.zeroValue36⟩
instance : Inf Tryz.prog 36 Tryz.t36 := ⟨by kernel_rfl⟩
instance : Und Tryz.prog 37 (.slice 185) := ⟨Tryz.underlying37⟩
instance : Sz Tryz.prog 37 1 := ⟨Tryz.sizeOf37⟩
instance : Ag Tryz.prog 37 false := ⟨Tryz.isAgg37⟩
instance : Zv Tryz.prog 37 [.one .nils] := ⟨_, Tryz.zeroValue37, by kernel_rfl⟩
instance : Zn Tryz.prog 37 := ⟨Tryz.zeroValue37⟩
instance : Inf Tryz.prog 37 Tryz.t37 := ⟨by kernel_rfl⟩
instance : Und Tryz.prog 38 (.slice 192) := ⟨Tryz.underlying38⟩
instance : Sz Tryz.prog 38 1 := ⟨Tryz.sizeOf38⟩
instance : Ag Tryz.prog 38 false := ⟨Tryz.isAgg38⟩
instance : Zv Tryz.prog 38 [.one .nils] := ⟨_, Tryz.zeroValue38, by kernel_rfl⟩
instance : Zn Tryz.prog 38 := ⟨Tryz.zeroValue38⟩
instance : Inf Tryz.prog 38 Tryz.t38 := ⟨by kernel_rfl⟩
instance : Und Tryz.prog 39 (.slice 198) := ⟨Tryz.underlying39⟩
instance : Sz Tryz.prog 39 1 := ⟨Tryz.sizeOf39⟩
instance : Ag Tryz.prog 39 false := ⟨Tryz.isAgg39⟩
instance : Zv Tryz.prog 39 [.one .nils] := ⟨_, Tryz.zeroValue39, by kernel_rfl⟩
instance : Zn Tryz.prog 39 := ⟨Tryz.zeroValue39⟩
instance : Inf Tryz.prog 39 Tryz.t39 := ⟨by kernel_rfl⟩
instance : Und Tryz.prog 40 (.slice 204) := ⟨Tryz.underlying40⟩
instance : Sz Tryz.prog 40 1 := ⟨Tryz.sizeOf40⟩
instance : Ag Tryz.prog 40 false := ⟨Tryz.isAgg40⟩
instance : Zv Tryz.prog 40 [.one .nils] := ⟨_, Tryz.zeroValue40, by kernel_rfl⟩
instance : Zn Tryz.prog 40 := ⟨Tryz.zeroValue40⟩
instance : Inf Tryz.prog 40 Tryz.t40 := ⟨by kernel_rfl⟩
instance : Und Tryz.prog 41 (.slice 209) := ⟨Tryz.underlying41⟩
instance : Sz Tryz.prog 41 1 := ⟨Tryz.sizeOf41⟩
instance : Ag Tryz.prog 41 false := ⟨Tryz.isAgg41⟩
instance : Zv Tryz.prog 41 [.one .nils] := ⟨_, Tryz.zeroValue41, by kernel_rfl⟩
instance : Zn Tryz.prog 41 := ⟨Tryz.zeroValue41⟩
instance : Inf Tryz.prog 41 Tryz.t41 := ⟨by kernel_rfl⟩
instance : Und Tryz.prog 43 (.struct #[{ name := "n", type := 3, offset := 0, embedded := false, tag := "", pkgPath := "burrow/burrowlaw01", byteOffset := 0 }, { name := "bytes", type := 27, offset := 1, embedded := false, tag := "", pkgPath := "burrow/burrowlaw01", byteOffset := 8 }, { name := "ints", type := 28, offset := 2, embedded := false, tag := "", pkgPath := "burrow/burrowlaw01", byteOffset := 32 }, { name := "texts", type := 29, offset := 3, embedded := false, tag := "", pkgPath := "burrow/burrowlaw01", byteOffset := 56 }, { name := "nums", type := 30, offset := 4, embedded := false, tag := "", pkgPath := "burrow/burrowlaw01", byteOffset := 80 }, { name := "sums", type := 31, offset := 5, embedded := false, tag := "", pkgPath := "burrow/burrowlaw01", byteOffset := 104 }, { name := "tags", type := 32, offset := 6, embedded := false, tag := "", pkgPath := "burrow/burrowlaw01", byteOffset := 128 }, { name := "spots", type := 33, offset := 7, embedded := false, tag := "", pkgPath := "burrow/burrowlaw01", byteOffset := 152 }, { name := "gens", type := 34, offset := 8, embedded := false, tag := "", pkgPath := "burrow/burrowlaw01", byteOffset := 176 }, { name := "lanes", type := 35, offset := 9, embedded := false, tag := "", pkgPath := "burrow/burrowlaw01", byteOffset := 200 }, { name := "params", type := 36, offset := 10, embedded := false, tag := "", pkgPath := "burrow/burrowlaw01", byteOffset := 224 }, { name := "packets", type := 37, offset := 11, embedded := false, tag := "", pkgPath := "burrow/burrowlaw01", byteOffset := 248 }, { name := "frames", type := 38, offset := 12, embedded := false, tag := "", pkgPath := "burrow/burrowlaw01", byteOffset := 272 }, { name := "mails", type := 39, offset := 13, embedded := false, tag := "", pkgPath := "burrow/burrowlaw01", byteOffset := 296 }, { name := "sessions", type := 40, offset := 14, embedded := false, tag := "", pkgPath := "burrow/burrowlaw01", byteOffset := 320 }, { name := "records", type := 41, offset := 15, embedded := false, tag := "", pkgPath := "burrow/burrowlaw01", byteOffset := 344 }]) := ⟨Tryz.underlying43⟩
instance : Sz Tryz.prog 43 16 := ⟨Tryz.sizeOf43⟩
instance : Ag Tryz.prog 43 true := ⟨Tryz.isAgg43⟩
instance : Zv Tryz.prog 43 [.one (.int .i64 0), .one .nils, .one .nils, .one .nils, .one .nils, .one .nils, .one .nils, .one .nils, .one .nils, .one .nils, .one .nils, .one .nils, .one .nils, .one .nils, .one .nils, .one .nils] := ⟨_, Tryz.zeroValue43, by kernel_rfl⟩
instance : FldC Tryz.prog 43 0 0 := ⟨_, _, _, Tryz.underlying43, rfl, Tryz.sizeOf3, by decide, rfl⟩
instance : FldC Tryz.prog 43 1 1 := ⟨_, _, _, Tryz.underlying43, rfl, Tryz.sizeOf27, by decide, rfl⟩
instance : FldC Tryz.prog 43 2 2 := ⟨_, _, _, Tryz.underlying43, rfl, Tryz.sizeOf28, by decide, rfl⟩
instance : FldC Tryz.prog 43 3 3 := ⟨_, _, _, Tryz.underlying43, rfl, Tryz.sizeOf29, by decide, rfl⟩
instance : FldC Tryz.prog 43 4 4 := ⟨_, _, _, Tryz.underlying43, rfl, Tryz.sizeOf30, by decide, rfl⟩
instance : FldC Tryz.prog 43 5 5 := ⟨_, _, _, Tryz.underlying43, rfl, Tryz.sizeOf31, by decide, rfl⟩
instance : FldC Tryz.prog 43 6 6 := ⟨_, _, _, Tryz.underlying43, rfl, Tryz.sizeOf32, by decide, rfl⟩
instance : FldC Tryz.prog 43 7 7 := ⟨_, _, _, Tryz.underlying43, rfl, Tryz.sizeOf33, by decide, rfl⟩
instance : FldC Tryz.prog 43 8 8 := ⟨_, _, _, Tryz.underlying43, rfl, Tryz.sizeOf34, by decide, rfl⟩
instance : FldC Tryz.prog 43 9 9 := ⟨_, _, _, Tryz.underlying43, rfl, Tryz.sizeOf35, by decide, rfl⟩
instance : FldC Tryz.prog 43 10 10 := ⟨_, _, _, Tryz.underlying43, rfl, Tryz.sizeOf36, by decide, rfl⟩
instance : FldC Tryz.prog 43 11 11 := ⟨_, _, _, Tryz.underlying43, rfl, Tryz.sizeOf37, by decide, rfl⟩
instance : FldC Tryz.prog 43 12 12 := ⟨_, _, _, Tryz.underlying43, rfl, Tryz.sizeOf38, by decide, rfl⟩
instance : FldC Tryz.prog 43 13 13 := ⟨_, _, _, Tryz.underlying43, rfl, Tryz.sizeOf39, by decide, rfl⟩
instance : FldC Tryz.prog 43 14 14 := ⟨_, _, _, Tryz.underlying43, rfl, Tryz.sizeOf40, by decide, rfl⟩
instance : FldC Tryz.prog 43 15 15 := ⟨_, _, _, Tryz.underlying43, rfl, Tryz.sizeOf41, by decide, rfl⟩
instance : Pl Tryz.prog 43 #[(0, 1), (1, 1), (2, 1), (3, 1), (4, 1), (5, 1), (6, 1), (7, 1), (8, 1), (9, 1), (10, 1), (11, 1), (12, 1), (13, 1), (14, 1), (15, 1)] := ⟨_, Tryz.underlying43, fun w => by kernel_rfl⟩
instance : Inf Tryz.prog 43 Tryz.t43 := ⟨by kernel_rfl⟩
instance : Und Tryz.prog 49 (.array 4 47) := ⟨Tryz.underlying49⟩
instance : Sz Tryz.prog 49 4 := ⟨Tryz.sizeOf49⟩
instance : Ag Tryz.prog 49 true := ⟨Tryz.isAgg49⟩
instance : Zv Tryz.prog 49 [.ints .u64 4 (zs (List.replicate 4 0))] := ⟨_, Tryz.zeroValue49, by kernel_rfl⟩
instance : Zb Tryz.prog 49 .u64 4 := ⟨_, Tryz.zeroValue49, by kernel_rfl⟩
instance : Inf Tryz.prog 49 Tryz.t49 := ⟨by kernel_rfl⟩
instance : Und Tryz.prog 58 (.struct #[{ name := "Mac", type := 51, offset := 0, embedded := false, tag := "", pkgPath := "", byteOffset := 0 }, { name := "Cipher", type := 22, offset := 32, embedded := false, tag := "", pkgPath := "", byteOffset := 32 }]) := ⟨Tryz.underlying58⟩
instance : Sz Tryz.prog 58 48 := ⟨Tryz.sizeOf58⟩
instance : Ag Tryz.prog 58 true := ⟨Tryz.isAgg58⟩
instance : Zv Tryz.prog 58 [.ints .u8 32 (zs (List.replicate 32 0)), .ints .u8 16 (zs (List.replicate 16 0))] := ⟨_, Tryz.zeroValue58, by kernel_rfl⟩
instance : FldC Tryz.prog 58 0 0 := ⟨_, _, _, Tryz.underlying58, rfl, Tryz.sizeOf51, by decide, rfl⟩
instance : FldC Tryz.prog 58 1 32 := ⟨_, _, _, Tryz.underlying58, rfl, Tryz.sizeOf22, by decide, rfl⟩
instance : Pl Tryz.prog 58 #[(0, 32), (32, 16)] := ⟨_, Tryz.underlying58, fun w => by kernel_rfl⟩
instance : Inf Tryz.prog 58 Tryz.t58 := ⟨by kernel_rfl⟩
instance : Und Tryz.prog 84 (.int .u16) := ⟨Tryz.underlying84⟩
instance : Sz Tryz.prog 84 1 := ⟨Tryz.sizeOf84⟩
instance : Ag Tryz.prog 84 false := ⟨Tryz.isAgg84⟩
instance : Zv Tryz.prog 84 [.one (.int .u16 0)] := ⟨_, Tryz.zeroValue84, by kernel_rfl⟩
instance : Zi Tryz.prog 84 .u16 := ⟨Tryz.zeroValue84⟩
instance : Inf Tryz.prog 84 Tryz.t84 := ⟨by kernel_rfl⟩
instance : Und Tryz.prog 99 (.pointer 43) := ⟨Tryz.underlying99⟩
instance : Sz Tryz.prog 99 1 := ⟨Tryz.sizeOf99⟩
instance : Ag Tryz.prog 99 false := ⟨Tryz.isAgg99⟩
instance : Zv Tryz.prog 99 [.one .nilp] := ⟨_, Tryz.zeroValue99, by kernel_rfl⟩
instance : Inf Tryz.prog 99 Tryz.t99 := ⟨by kernel_rfl⟩
instance : Und Tryz.prog 136 (.struct #[{ name := "l", type := 23, offset := 0, embedded := false, tag := "", pkgPath := "burrow/burrowlaw01", byteOffset := 0 }, { name := "long", type := 23, offset := 1, embedded := false, tag := "", pkgPath := "burrow/burrowlaw01", byteOffset := 24 }, { name := "n", type := 3, offset := 2, embedded := false, tag := "", pkgPath := "burrow/burrowlaw01", byteOffset := 48 }]) := ⟨Tryz.underlying136⟩
instance : Sz Tryz.prog 136 3 := ⟨Tryz.sizeOf136⟩
instance : Ag Tryz.prog 136 true := ⟨Tryz.isAgg136⟩
instance : Zv Tryz.prog 136 [.one .nils, .one .nils, .one (.int .i64 0)] := ⟨_, Tryz.zeroValue136, by kernel_rfl⟩
instance : FldC Tryz.prog 136 0 0 := ⟨_, _, _, Tryz.underlying136, rfl, Tryz.sizeOf23, by decide, rfl⟩
instance : FldC Tryz.prog 136 1 1 := ⟨_, _, _, Tryz.underlying136, rfl, Tryz.sizeOf23, by decide, rfl⟩
instance : FldC Tryz.prog 136 2 2 := ⟨_, _, _, Tryz.underlying136, rfl, Tryz.sizeOf3, by decide, rfl⟩
instance : Pl Tryz.prog 136 #[(0, 1), (1, 1), (2, 1)] := ⟨_, Tryz.underlying136, fun w => by kernel_rfl⟩
instance : Inf Tryz.prog 136 Tryz.t136 := ⟨by kernel_rfl⟩
instance : Und Tryz.prog 146 (.struct #[{ name := "l", type := 144, offset := 0, embedded := false, tag := "", pkgPath := "burrow/burrowlaw01", byteOffset := 0 }, { name := "long", type := 144, offset := 1, embedded := false, tag := "", pkgPath := "burrow/burrowlaw01", byteOffset := 24 }, { name := "n", type := 3, offset := 2, embedded := false, tag := "", pkgPath := "burrow/burrowlaw01", byteOffset := 48 }]) := ⟨Tryz.underlying146⟩
instance : Sz Tryz.prog 146 3 := ⟨Tryz.sizeOf146⟩
instance : Ag Tryz.prog 146 true := ⟨Tryz.isAgg146⟩
instance : Zv Tryz.prog 146 [.one .nils, .one .nils, .one (.int .i64 0)] := ⟨_, Tryz.zeroValue146, by kernel_rfl⟩
instance : FldC Tryz.prog 146 0 0 := ⟨_, _, _, Tryz.underlying146, rfl, Tryz.sizeOf144, by decide, rfl⟩
instance : FldC Tryz.prog 146 1 1 := ⟨_, _, _, Tryz.underlying146, rfl, Tryz.sizeOf144, by decide, rfl⟩
instance : FldC Tryz.prog 146 2 2 := ⟨_, _, _, Tryz.underlying146, rfl, Tryz.sizeOf3, by decide, rfl⟩
instance : Pl Tryz.prog 146 #[(0, 1), (1, 1), (2, 1)] := ⟨_, Tryz.underlying146, fun w => by kernel_rfl⟩
instance : Inf Tryz.prog 146 Tryz.t146 := ⟨by kernel_rfl⟩
instance : Und Tryz.prog 147 (.slice 9) := ⟨Tryz.underlying147⟩
instance : Sz Tryz.prog 147 1 := ⟨Tryz.sizeOf147⟩
instance : Ag Tryz.prog 147 false := ⟨Tryz.isAgg147⟩
instance : Zv Tryz.prog 147 [.one .nils] := ⟨_, Tryz.zeroValue147, by kernel_rfl⟩
instance : Zn Tryz.prog 147 := ⟨Tryz.zeroValue147⟩
instance : Inf Tryz.prog 147 Tryz.t147 := ⟨by kernel_rfl⟩
instance : Und Tryz.prog 149 (.struct #[{ name := "l", type := 147, offset := 0, embedded := false, tag := "", pkgPath := "burrow/burrowlaw01", byteOffset := 0 }, { name := "long", type := 147, offset := 1, embedded := false, tag := "", pkgPath := "burrow/burrowlaw01", byteOffset := 24 }, { name := "n", type := 3, offset := 2, embedded := false, tag := "", pkgPath := "burrow/burrowlaw01", byteOffset := 48 }]) := ⟨Tryz.underlying149⟩
instance : Sz Tryz.prog 149 3 := ⟨Tryz.sizeOf149⟩
instance : Ag Tryz.prog 149 true := ⟨Tryz.isAgg149⟩
instance : Zv Tryz.prog 149 [.one .nils, .one .nils, .one (.int .i64 0)] := ⟨_, Tryz.zeroValue149, by kernel_rfl⟩
instance : FldC Tryz.prog 149 0 0 := ⟨_, _, _, Tryz.underlying149, rfl, Tryz.sizeOf147, by decide, rfl⟩
instance : FldC Tryz.prog 149 1 1 := ⟨_, _, _, Tryz.underlying149, rfl, Tryz.sizeOf147, by decide, rfl⟩
instance : FldC Tryz.prog 149 2 2 := ⟨_, _, _, Tryz.underlying149, rfl, Tryz.sizeOf3, by decide, rfl⟩
instance : Pl Tryz.prog 149 #[(0, 1), (1, 1), (2, 1)] := ⟨_, Tryz.underlying149, fun w => by kernel_rfl⟩
instance : Inf Tryz.prog 149 Tryz.t149 := ⟨by kernel_rfl⟩
instance : Und Tryz.prog 151 (.slice 49) := ⟨Tryz.underlying151⟩
instance : Sz Tryz.prog 151 1 := ⟨Tryz.sizeOf151⟩
instance : Ag Tryz.prog 151 false := ⟨Tryz.isAgg151⟩
instance : Zv Tryz.prog 151 [.one .nils] := ⟨_, Tryz.zeroValue151, by kernel_rfl⟩
instance : Zn Tryz.prog 151 := ⟨Tryz.zeroValue151⟩
instance : Inf Tryz.prog 151 Tryz.t151 := ⟨by kernel_rfl⟩
instance : Und Tryz.prog 153 (.struct #[{ name := "l", type := 151, offset := 0, embedded := false, tag := "", pkgPath := "burrow/burrowlaw01", byteOffset := 0 }, { name := "long", type := 151, offset := 1, embedded := false, tag := "", pkgPath := "burrow/burrowlaw01", byteOffset := 24 }, { name := "n", type := 3, offset := 2, embedded := false, tag := "", pkgPath := "burrow/burrowlaw01", byteOffset := 48 }]) := ⟨Tryz.underlying153⟩
instance : Sz Tryz.prog 153 3 := ⟨Tryz.sizeOf153⟩
instance : Ag Tryz.prog 153 true := ⟨Tryz.isAgg153⟩
instance : Zv Tryz.prog 153 [.one .nils, .one .nils, .one (.int .i64 0)] := ⟨_, Tryz.zeroValue153, by kernel_rfl⟩
instance : FldC Tryz.prog 153 0 0 := ⟨_, _, _, Tryz.underlying153, rfl, Tryz.sizeOf151, by decide, rfl⟩
instance : FldC Tryz.prog 153 1 1 := ⟨_, _, _, Tryz.underlying153, rfl, Tryz.sizeOf151, by decide, rfl⟩
instance : FldC Tryz.prog 153 2 2 := ⟨_, _, _, Tryz.underlying153, rfl, Tryz.sizeOf3, by decide, rfl⟩
instance : Pl Tryz.prog 153 #[(0, 1), (1, 1), (2, 1)] := ⟨_, Tryz.underlying153, fun w => by kernel_rfl⟩
instance : Inf Tryz.prog 153 Tryz.t153 := ⟨by kernel_rfl⟩
instance : Und Tryz.prog 155 (.slice 51) := ⟨Tryz.underlying155⟩
instance : Sz Tryz.prog 155 1 := ⟨Tryz.sizeOf155⟩
instance : Ag Tryz.prog 155 false := ⟨Tryz.isAgg155⟩
instance : Zv Tryz.prog 155 [.one .nils] := ⟨_, Tryz.zeroValue155, by kernel_rfl⟩
instance : Zn Tryz.prog 155 := ⟨Tryz.zeroValue155⟩
instance : Inf Tryz.prog 155 Tryz.t155 := ⟨by kernel_rfl⟩
instance : Und Tryz.prog 157 (.struct #[{ name := "l", type := 155, offset := 0, embedded := false, tag := "", pkgPath := "burrow/burrowlaw01", byteOffset := 0 }, { name := "long", type := 155, offset := 1, embedded := false, tag := "", pkgPath := "burrow/burrowlaw01", byteOffset := 24 }, { name := "n", type := 3, offset := 2, embedded := false, tag := "", pkgPath := "burrow/burrowlaw01", byteOffset := 48 }]) := ⟨Tryz.underlying157⟩
instance : Sz Tryz.prog 157 3 := ⟨Tryz.sizeOf157⟩
instance : Ag Tryz.prog 157 true := ⟨Tryz.isAgg157⟩
instance : Zv Tryz.prog 157 [.one .nils, .one .nils, .one (.int .i64 0)] := ⟨_, Tryz.zeroValue157, by kernel_rfl⟩
instance : FldC Tryz.prog 157 0 0 := ⟨_, _, _, Tryz.underlying157, rfl, Tryz.sizeOf155, by decide, rfl⟩
instance : FldC Tryz.prog 157 1 1 := ⟨_, _, _, Tryz.underlying157, rfl, Tryz.sizeOf155, by decide, rfl⟩
instance : FldC Tryz.prog 157 2 2 := ⟨_, _, _, Tryz.underlying157, rfl, Tryz.sizeOf3, by decide, rfl⟩
instance : Pl Tryz.prog 157 #[(0, 1), (1, 1), (2, 1)] := ⟨_, Tryz.underlying157, fun w => by kernel_rfl⟩
instance : Inf Tryz.prog 157 Tryz.t157 := ⟨by kernel_rfl⟩
instance : Und Tryz.prog 159 (.slice 162) := ⟨Tryz.underlying159⟩
instance : Sz Tryz.prog 159 1 := ⟨Tryz.sizeOf159⟩
instance : Ag Tryz.prog 159 false := ⟨Tryz.isAgg159⟩
instance : Zv Tryz.prog 159 [.one .nils] := ⟨_, Tryz.zeroValue159, by kernel_rfl⟩
instance : Zn Tryz.prog 159 := ⟨Tryz.zeroValue159⟩
instance : Inf Tryz.prog 159 Tryz.t159 := ⟨by kernel_rfl⟩
instance : Und Tryz.prog 161 (.struct #[{ name := "l", type := 159, offset := 0, embedded := false, tag := "", pkgPath := "burrow/burrowlaw01", byteOffset := 0 }, { name := "long", type := 159, offset := 1, embedded := false, tag := "", pkgPath := "burrow/burrowlaw01", byteOffset := 24 }, { name := "n", type := 3, offset := 2, embedded := false, tag := "", pkgPath := "burrow/burrowlaw01", byteOffset := 48 }]) := ⟨Tryz.underlying161⟩
instance : Sz Tryz.prog 161 3 := ⟨Tryz.sizeOf161⟩
instance : Ag Tryz.prog 161 true := ⟨Tryz.isAgg161⟩
instance : Zv Tryz.prog 161 [.one .nils, .one .nils, .one (.int .i64 0)] := ⟨_, Tryz.zeroValue161, by kernel_rfl⟩
instance : FldC Tryz.prog 161 0 0 := ⟨_, _, _, Tryz.underlying161, rfl, Tryz.sizeOf159, by decide, rfl⟩
instance : FldC Tryz.prog 161 1 1 := ⟨_, _, _, Tryz.underlying161, rfl, Tryz.sizeOf159, by decide, rfl⟩
instance : FldC Tryz.prog 161 2 2 := ⟨_, _, _, Tryz.underlying161, rfl, Tryz.sizeOf3, by decide, rfl⟩
instance : Pl Tryz.prog 161 #[(0, 1), (1, 1), (2, 1)] := ⟨_, Tryz.underlying161, fun w => by kernel_rfl⟩
instance : Inf Tryz.prog 161 Tryz.t161 := ⟨by kernel_rfl⟩
instance : Und Tryz.prog 162 (.array 16 5) := ⟨Tryz.underlying162⟩
instance : Sz Tryz.prog 162 16 := ⟨Tryz.sizeOf162⟩
instance : Ag Tryz.prog 162 true := ⟨Tryz.isAgg162⟩
instance : Zv Tryz.prog 162 [.ints .u8 16 (zs (List.replicate 16 0))] := ⟨_, Tryz.zeroValue162, by kernel_rfl⟩
instance : Zb Tryz.prog 162 .u8 16 := ⟨_, Tryz.zeroValue162, by kernel_rfl⟩
instance : Inf Tryz.prog 162 Tryz.t162 := ⟨by kernel_rfl⟩
instance : Und Tryz.prog 164 (.slice 167) := ⟨Tryz.underlying164⟩
instance : Sz Tryz.prog 164 1 := ⟨Tryz.sizeOf164⟩
instance : Ag Tryz.prog 164 false := ⟨Tryz.isAgg164⟩
instance : Zv Tryz.prog 164 [.one .nils] := ⟨_, Tryz.zeroValue164, by kernel_rfl⟩
instance : Zn Tryz.prog 164 := ⟨Tryz.zeroValue164⟩
instance : Inf Tryz.prog 164 Tryz.t164 := ⟨by kernel_rfl⟩
instance : Und Tryz.prog 166 (.struct #[{ name := "l", type := 164, offset := 0, embedded := false, tag := "", pkgPath := "burrow/burrowlaw01", byteOffset := 0 }, { name := "long", type := 164, offset := 1, embedded := false, tag := "", pkgPath := "burrow/burrowlaw01", byteOffset := 24 }, { name := "n", type := 3, offset := 2, embedded := false, tag := "", pkgPath := "burrow/burrowlaw01", byteOffset := 48 }]) := ⟨Tryz.underlying166⟩
instance : Sz Tryz.prog 166 3 := ⟨Tryz.sizeOf166⟩
instance : Ag Tryz.prog 166 true := ⟨Tryz.isAgg166⟩
instance : Zv Tryz.prog 166 [.one .nils, .one .nils, .one (.int .i64 0)] := ⟨_, Tryz.zeroValue166, by kernel_rfl⟩
instance : FldC Tryz.prog 166 0 0 := ⟨_, _, _, Tryz.underlying166, rfl, Tryz.sizeOf164, by decide, rfl⟩
instance : FldC Tryz.prog 166 1 1 := ⟨_, _, _, Tryz.underlying166, rfl, Tryz.sizeOf164, by decide, rfl⟩
instance : FldC Tryz.prog 166 2 2 := ⟨_, _, _, Tryz.underlying166, rfl, Tryz.sizeOf3, by decide, rfl⟩
instance : Pl Tryz.prog 166 #[(0, 1), (1, 1), (2, 1)] := ⟨_, Tryz.underlying166, fun w => by kernel_rfl⟩
instance : Inf Tryz.prog 166 Tryz.t166 := ⟨by kernel_rfl⟩
instance : Und Tryz.prog 167 (.int .u32) := ⟨Tryz.underlying167⟩
instance : Sz Tryz.prog 167 1 := ⟨Tryz.sizeOf167⟩
instance : Ag Tryz.prog 167 false := ⟨Tryz.isAgg167⟩
instance : Zv Tryz.prog 167 [.one (.int .u32 0)] := ⟨_, Tryz.zeroValue167, by kernel_rfl⟩
instance : Zi Tryz.prog 167 .u32 := ⟨Tryz.zeroValue167⟩
instance : Inf Tryz.prog 167 Tryz.t167 := ⟨by kernel_rfl⟩
instance : Und Tryz.prog 171 (.struct #[{ name := "l", type := 169, offset := 0, embedded := false, tag := "", pkgPath := "burrow/burrowlaw01", byteOffset := 0 }, { name := "long", type := 169, offset := 1, embedded := false, tag := "", pkgPath := "burrow/burrowlaw01", byteOffset := 24 }, { name := "n", type := 3, offset := 2, embedded := false, tag := "", pkgPath := "burrow/burrowlaw01", byteOffset := 48 }]) := ⟨Tryz.underlying171⟩
instance : Sz Tryz.prog 171 3 := ⟨Tryz.sizeOf171⟩
instance : Ag Tryz.prog 171 true := ⟨Tryz.isAgg171⟩
instance : Zv Tryz.prog 171 [.one .nils, .one .nils, .one (.int .i64 0)] := ⟨_, Tryz.zeroValue171, by kernel_rfl⟩
instance : FldC Tryz.prog 171 0 0 := ⟨_, _, _, Tryz.underlying171, rfl, Tryz.sizeOf169, by decide, rfl⟩
instance : FldC Tryz.prog 171 1 1 := ⟨_, _, _, Tryz.underlying171, rfl, Tryz.sizeOf169, by decide, rfl⟩
instance : FldC Tryz.prog 171 2 2 := ⟨_, _, _, Tryz.underlying171, rfl, Tryz.sizeOf3, by decide, rfl⟩
instance : Pl Tryz.prog 171 #[(0, 1), (1, 1), (2, 1)] := ⟨_, Tryz.underlying171, fun w => by kernel_rfl⟩
instance : Inf Tryz.prog 171 Tryz.t171 := ⟨by kernel_rfl⟩
instance : Und Tryz.prog 175 (.struct #[{ name := "l", type := 173, offset := 0, embedded := false, tag := "", pkgPath := "burrow/burrowlaw01", byteOffset := 0 }, { name := "long", type := 173, offset := 1, embedded := false, tag := "", pkgPath := "burrow/burrowlaw01", byteOffset := 24 }, { name := "n", type := 3, offset := 2, embedded := false, tag := "", pkgPath := "burrow/burrowlaw01", byteOffset := 48 }]) := ⟨Tryz.underlying175⟩
instance : Sz Tryz.prog 175 3 := ⟨Tryz.sizeOf175⟩
instance : Ag Tryz.prog 175 true := ⟨Tryz.isAgg175⟩
instance : Zv Tryz.prog 175 [.one .nils, .one .nils, .one (.int .i64 0)] := ⟨_, Tryz.zeroValue175, by kernel_rfl⟩
instance : FldC Tryz.prog 175 0 0 := ⟨_, _, _, Tryz.underlying175, rfl, Tryz.sizeOf173, by decide, rfl⟩
instance : FldC Tryz.prog 175 1 1 := ⟨_, _, _, Tryz.underlying175, rfl, Tryz.sizeOf173, by decide, rfl⟩
instance : FldC Tryz.prog 175 2 2 := ⟨_, _, _, Tryz.underlying175, rfl, Tryz.sizeOf3, by decide, rfl⟩
instance : Pl Tryz.prog 175 #[(0, 1), (1, 1), (2, 1)] := ⟨_, Tryz.underlying175, fun w => by kernel_rfl⟩
instance : Inf Tryz.prog 175 Tryz.t175 := ⟨by kernel_rfl⟩
instance : Und Tryz.prog 177 (.slice 181) := ⟨Tryz.underlying177⟩
instance : Sz Tryz.prog 177 1 := ⟨Tryz.sizeOf177⟩
instance : Ag Tryz.prog 177 false := ⟨Tryz.isAgg177⟩
instance : Zv Tryz.prog 177 [.one .nils] := ⟨_, Tryz.zeroValue177, by kernel_rfl⟩
instance : Zn Tryz.prog 177 := ⟨Tryz.zeroValue177⟩
instance : Inf Tryz.prog 177 Tryz.t177 := ⟨by kernel_rfl⟩
instance : Und Tryz.prog 179 (.struct #[{ name := "l", type := 177, offset := 0, embedded := false, tag := "", pkgPath := "burrow/burrowlaw01", byteOffset := 0 }, { name := "long", type := 177, offset := 1, embedded := false, tag := "", pkgPath := "burrow/burrowlaw01", byteOffset := 24 }, { name := "n", type := 3, offset := 2, embedded := false, tag := "", pkgPath := "burrow/burrowlaw01", byteOffset := 48 }]) := ⟨Tryz.underlying179⟩
instance : Sz Tryz.prog 179 3 := ⟨Tryz.sizeOf179⟩
instance : Ag Tryz.prog 179 true := ⟨Tryz.isAgg179⟩
instance : Zv Tryz.prog 179 [.one .nils, .one .nils, .one (.int .i64 0)] := ⟨_, Tryz.zeroValue179, by kernel_rfl⟩
instance : FldC Tryz.prog 179 0 0 := ⟨_, _, _, Tryz.underlying179, rfl, Tryz.sizeOf177, by decide, rfl⟩
instance : FldC Tryz.prog 179 1 1 := ⟨_, _, _, Tryz.underlying179, rfl, Tryz.sizeOf177, by decide, rfl⟩
instance : FldC Tryz.prog 179 2 2 := ⟨_, _, _, Tryz.underlying179, rfl, Tryz.sizeOf3, by decide, rfl⟩
instance : Pl Tryz.prog 179 #[(0, 1), (1, 1), (2, 1)] := ⟨_, Tryz.underlying179, fun w => by kernel_rfl⟩
instance : Inf Tryz.prog 179 Tryz.t179 := ⟨by kernel_rfl⟩
instance : Und Tryz.prog 181 (.struct #[{ name := "Type", type := 84, offset := 0, embedded := false, tag := "", pkgPath := "", byteOffset := 0 }, { name := "Body", type := 23, offset := 1, embedded := false, tag := "", pkgPath := "", byteOffset := 8 }]) := ⟨Tryz.underlying181⟩
instance : Sz Tryz.prog 181 2 := ⟨Tryz.sizeOf181⟩
instance : Ag Tryz.prog 181 true := ⟨Tryz.isAgg181⟩
instance : Zv Tryz.prog 181 [.one (.int .u16 0), .one .nils] := ⟨_, Tryz.zeroValue181, by kernel_rfl⟩
instance : FldC Tryz.prog 181 0 0 := ⟨_, _, _, Tryz.underlying181, rfl, Tryz.sizeOf84, by decide, rfl⟩
instance : FldC Tryz.prog 181 1 1 := ⟨_, _, _, Tryz.underlying181, rfl, Tryz.sizeOf23, by decide, rfl⟩
instance : Pl Tryz.prog 181 #[(0, 1), (1, 1)] := ⟨_, Tryz.underlying181, fun w => by kernel_rfl⟩
instance : Inf Tryz.prog 181 Tryz.t181 := ⟨by kernel_rfl⟩
instance : Und Tryz.prog 183 (.slice 188) := ⟨Tryz.underlying183⟩
instance : Sz Tryz.prog 183 1 := ⟨Tryz.sizeOf183⟩
instance : Ag Tryz.prog 183 false := ⟨Tryz.isAgg183⟩
instance : Zv Tryz.prog 183 [.one .nils] := ⟨_, Tryz.zeroValue183, by kernel_rfl⟩
instance : Zn Tryz.prog 183 := ⟨Tryz.zeroValue183⟩
instance : Inf Tryz.prog 183 Tryz.t183 := ⟨by kernel_rfl⟩
instance : Und Tryz.prog 185 (.struct #[{ name := "l", type := 183, offset := 0, embedded := false, tag := "", pkgPath := "burrow/burrowlaw01", byteOffset := 0 }, { name := "long", type := 183, offset := 1, embedded := false, tag := "", pkgPath := "burrow/burrowlaw01", byteOffset := 24 }, { name := "n", type := 3, offset := 2, embedded := false, tag := "", pkgPath := "burrow/burrowlaw01", byteOffset := 48 }]) := ⟨Tryz.underlying185⟩
instance : Sz Tryz.prog 185 3 := ⟨Tryz.sizeOf185⟩
instance : Ag Tryz.prog 185 true := ⟨Tryz.isAgg185⟩
instance : Zv Tryz.prog 185 [.one .nils, .one .nils, .one (.int .i64 0)] := ⟨_, Tryz.zeroValue185, by kernel_rfl⟩
instance : FldC Tryz.prog 185 0 0 := ⟨_, _, _, Tryz.underlying185, rfl, Tryz.sizeOf183, by decide, rfl⟩
instance : FldC Tryz.prog 185 1 1 := ⟨_, _, _, Tryz.underlying185, rfl, Tryz.sizeOf183, by decide, rfl⟩
instance : FldC Tryz.prog 185 2 2 := ⟨_, _, _, Tryz.underlying185, rfl, Tryz.sizeOf3, by decide, rfl⟩
instance : Pl Tryz.prog 185 #[(0, 1), (1, 1), (2, 1)] := ⟨_, Tryz.underlying185, fun w => by kernel_rfl⟩
instance : Inf Tryz.prog 185 Tryz.t185 := ⟨by kernel_rfl⟩
instance : Und Tryz.prog 186 (.int .u8) := ⟨Tryz.underlying186⟩
instance : Sz Tryz.prog 186 1 := ⟨Tryz.sizeOf186⟩
instance : Ag Tryz.prog 186 false := ⟨Tryz.isAgg186⟩
instance : Zv Tryz.prog 186 [.one (.int .u8 0)] := ⟨_, Tryz.zeroValue186, by kernel_rfl⟩
instance : Zi Tryz.prog 186 .u8 := ⟨Tryz.zeroValue186⟩
instance : Inf Tryz.prog 186 Tryz.t186 := ⟨by kernel_rfl⟩
instance : Und Tryz.prog 188 (.struct #[{ name := "Kind", type := 186, offset := 0, embedded := false, tag := "", pkgPath := "", byteOffset := 0 }, { name := "From", type := 162, offset := 1, embedded := false, tag := "", pkgPath := "", byteOffset := 1 }, { name := "To", type := 162, offset := 17, embedded := false, tag := "", pkgPath := "", byteOffset := 17 }, { name := "Params", type := 177, offset := 33, embedded := false, tag := "", pkgPath := "", byteOffset := 40 }]) := ⟨Tryz.underlying188⟩
instance : Sz Tryz.prog 188 34 := ⟨Tryz.sizeOf188⟩
instance : Ag Tryz.prog 188 true := ⟨Tryz.isAgg188⟩
instance : Zv Tryz.prog 188 [.one (.int .u8 0), .ints .u8 16 (zs (List.replicate 16 0)), .ints .u8 16 (zs (List.replicate 16 0)), .one .nils] := ⟨_, Tryz.zeroValue188, by kernel_rfl⟩
instance : FldC Tryz.prog 188 0 0 := ⟨_, _, _, Tryz.underlying188, rfl, Tryz.sizeOf186, by decide, rfl⟩
instance : FldC Tryz.prog 188 1 1 := ⟨_, _, _, Tryz.underlying188, rfl, Tryz.sizeOf162, by decide, rfl⟩
instance : FldC Tryz.prog 188 2 17 := ⟨_, _, _, Tryz.underlying188, rfl, Tryz.sizeOf162, by decide, rfl⟩
instance : FldC Tryz.prog 188 3 33 := ⟨_, _, _, Tryz.underlying188, rfl, Tryz.sizeOf177, by decide, rfl⟩
instance : Pl Tryz.prog 188 #[(0, 1), (1, 16), (17, 16), (33, 1)] := ⟨_, Tryz.underlying188, fun w => by kernel_rfl⟩
instance : Inf Tryz.prog 188 Tryz.t188 := ⟨by kernel_rfl⟩
instance : Und Tryz.prog 190 (.slice 194) := ⟨Tryz.underlying190⟩
instance : Sz Tryz.prog 190 1 := ⟨Tryz.sizeOf190⟩
instance : Ag Tryz.prog 190 false := ⟨Tryz.isAgg190⟩
instance : Zv Tryz.prog 190 [.one .nils] := ⟨_, Tryz.zeroValue190, by kernel_rfl⟩
instance : Zn Tryz.prog 190 := ⟨Tryz.zeroValue190⟩
instance : Inf Tryz.prog 190 Tryz.t190 := ⟨by kernel_rfl⟩
instance : Und Tryz.prog 192 (.struct #[{ name := "l", type := 190, offset := 0, embedded := false, tag := "", pkgPath := "burrow/burrowlaw01", byteOffset := 0 }, { name := "long", type := 190, offset := 1, embedded := false, tag := "", pkgPath := "burrow/burrowlaw01", byteOffset := 24 }, { name := "n", type := 3, offset := 2, embedded := false, tag := "", pkgPath := "burrow/burrowlaw01", byteOffset := 48 }]) := ⟨Tryz.underlying192⟩
instance : Sz Tryz.prog 192 3 := ⟨Tryz.sizeOf192⟩
instance : Ag Tryz.prog 192 true := ⟨Tryz.isAgg192⟩
instance : Zv Tryz.prog 192 [.one .nils, .one .nils, .one (.int .i64 0)] := ⟨_, Tryz.zeroValue192, by kernel_rfl⟩
instance : FldC Tryz.prog 192 0 0 := ⟨_, _, _, Tryz.underlying192, rfl, Tryz.sizeOf190, by decide, rfl⟩
instance : FldC Tryz.prog 192 1 1 := ⟨_, _, _, Tryz.underlying192, rfl, Tryz.sizeOf190, by decide, rfl⟩
instance : FldC Tryz.prog 192 2 2 := ⟨_, _, _, Tryz.underlying192, rfl, Tryz.sizeOf3, by decide, rfl⟩
instance : Pl Tryz.prog 192 #[(0, 1), (1, 1), (2, 1)] := ⟨_, Tryz.underlying192, fun w => by kernel_rfl⟩
instance : Inf Tryz.prog 192 Tryz.t192 := ⟨by kernel_rfl⟩
instance : Und Tryz.prog 194 (.struct #[{ name := "From", type := 167, offset := 0, embedded := false, tag := "", pkgPath := "", byteOffset := 0 }, { name := "To", type := 167, offset := 1, embedded := false, tag := "", pkgPath := "", byteOffset := 4 }, { name := "B", type := 23, offset := 2, embedded := false, tag := "", pkgPath := "", byteOffset := 8 }]) := ⟨Tryz.underlying194⟩
instance : Sz Tryz.prog 194 3 := ⟨Tryz.sizeOf194⟩
instance : Ag Tryz.prog 194 true := ⟨Tryz.isAgg194⟩
instance : Zv Tryz.prog 194 [.one (.int .u32 0), .one (.int .u32 0), .one .nils] := ⟨_, Tryz.zeroValue194, by kernel_rfl⟩
instance : FldC Tryz.prog 194 0 0 := ⟨_, _, _, Tryz.underlying194, rfl, Tryz.sizeOf167, by decide, rfl⟩
instance : FldC Tryz.prog 194 1 1 := ⟨_, _, _, Tryz.underlying194, rfl, Tryz.sizeOf167, by decide, rfl⟩
instance : FldC Tryz.prog 194 2 2 := ⟨_, _, _, Tryz.underlying194, rfl, Tryz.sizeOf23, by decide, rfl⟩
instance : Pl Tryz.prog 194 #[(0, 1), (1, 1), (2, 1)] := ⟨_, Tryz.underlying194, fun w => by kernel_rfl⟩
instance : Inf Tryz.prog 194 Tryz.t194 := ⟨by kernel_rfl⟩
instance : Und Tryz.prog 196 (.slice 200) := ⟨Tryz.underlying196⟩
instance : Sz Tryz.prog 196 1 := ⟨Tryz.sizeOf196⟩
instance : Ag Tryz.prog 196 false := ⟨Tryz.isAgg196⟩
instance : Zv Tryz.prog 196 [.one .nils] := ⟨_, Tryz.zeroValue196, by kernel_rfl⟩
instance : Zn Tryz.prog 196 := ⟨Tryz.zeroValue196⟩
instance : Inf Tryz.prog 196 Tryz.t196 := ⟨by kernel_rfl⟩
instance : Und Tryz.prog 198 (.struct #[{ name := "l", type := 196, offset := 0, embedded := false, tag := "", pkgPath := "burrow/burrowlaw01", byteOffset := 0 }, { name := "long", type := 196, offset := 1, embedded := false, tag := "", pkgPath := "burrow/burrowlaw01", byteOffset := 24 }, { name := "n", type := 3, offset := 2, embedded := false, tag := "", pkgPath := "burrow/burrowlaw01", byteOffset := 48 }]) := ⟨Tryz.underlying198⟩
instance : Sz Tryz.prog 198 3 := ⟨Tryz.sizeOf198⟩
instance : Ag Tryz.prog 198 true := ⟨Tryz.isAgg198⟩
instance : Zv Tryz.prog 198 [.one .nils, .one .nils, .one (.int .i64 0)] := ⟨_, Tryz.zeroValue198, by kernel_rfl⟩
instance : FldC Tryz.prog 198 0 0 := ⟨_, _, _, Tryz.underlying198, rfl, Tryz.sizeOf196, by decide, rfl⟩
instance : FldC Tryz.prog 198 1 1 := ⟨_, _, _, Tryz.underlying198, rfl, Tryz.sizeOf196, by decide, rfl⟩
instance : FldC Tryz.prog 198 2 2 := ⟨_, _, _, Tryz.underlying198, rfl, Tryz.sizeOf3, by decide, rfl⟩
instance : Pl Tryz.prog 198 #[(0, 1), (1, 1), (2, 1)] := ⟨_, Tryz.underlying198, fun w => by kernel_rfl⟩
instance : Inf Tryz.prog 198 Tryz.t198 := ⟨by kernel_rfl⟩
instance : Und Tryz.prog 200 (.struct #[{ name := "From", type := 162, offset := 0, embedded := false, tag := "", pkgPath := "", byteOffset := 0 }, { name := "ID", type := 51, offset := 16, embedded := false, tag := "", pkgPath := "", byteOffset := 16 }, { name := "Num", type := 47, offset := 48, embedded := false, tag := "", pkgPath := "", byteOffset := 48 }, { name := "B", type := 23, offset := 49, embedded := false, tag := "", pkgPath := "", byteOffset := 56 }]) := ⟨Tryz.underlying200⟩
instance : Sz Tryz.prog 200 50 := ⟨Tryz.sizeOf200⟩
instance : Ag Tryz.prog 200 true := ⟨Tryz.isAgg200⟩
instance : Zv Tryz.prog 200 [.ints .u8 16 (zs (List.replicate 16 0)), .ints .u8 32 (zs (List.replicate 32 0)), .one (.int .u64 0), .one .nils] := ⟨_, Tryz.zeroValue200, by kernel_rfl⟩
instance : FldC Tryz.prog 200 0 0 := ⟨_, _, _, Tryz.underlying200, rfl, Tryz.sizeOf162, by decide, rfl⟩
instance : FldC Tryz.prog 200 1 16 := ⟨_, _, _, Tryz.underlying200, rfl, Tryz.sizeOf51, by decide, rfl⟩
instance : FldC Tryz.prog 200 2 48 := ⟨_, _, _, Tryz.underlying200, rfl, Tryz.sizeOf47, by decide, rfl⟩
instance : FldC Tryz.prog 200 3 49 := ⟨_, _, _, Tryz.underlying200, rfl, Tryz.sizeOf23, by decide, rfl⟩
instance : Pl Tryz.prog 200 #[(0, 16), (16, 32), (48, 1), (49, 1)] := ⟨_, Tryz.underlying200, fun w => by kernel_rfl⟩
instance : Inf Tryz.prog 200 Tryz.t200 := ⟨by kernel_rfl⟩
instance : Und Tryz.prog 202 (.slice 206) := ⟨Tryz.underlying202⟩
instance : Sz Tryz.prog 202 1 := ⟨Tryz.sizeOf202⟩
instance : Ag Tryz.prog 202 false := ⟨Tryz.isAgg202⟩
instance : Zv Tryz.prog 202 [.one .nils] := ⟨_, Tryz.zeroValue202, by kernel_rfl⟩
instance : Zn Tryz.prog 202 := ⟨Tryz.zeroValue202⟩
instance : Inf Tryz.prog 202 Tryz.t202 := ⟨by kernel_rfl⟩
instance : Und Tryz.prog 204 (.struct #[{ name := "l", type := 202, offset := 0, embedded := false, tag := "", pkgPath := "burrow/burrowlaw01", byteOffset := 0 }, { name := "long", type := 202, offset := 1, embedded := false, tag := "", pkgPath := "burrow/burrowlaw01", byteOffset := 24 }, { name := "n", type := 3, offset := 2, embedded := false, tag := "", pkgPath := "burrow/burrowlaw01", byteOffset := 48 }]) := ⟨Tryz.underlying204⟩
instance : Sz Tryz.prog 204 3 := ⟨Tryz.sizeOf204⟩
instance : Ag Tryz.prog 204 true := ⟨Tryz.isAgg204⟩
instance : Zv Tryz.prog 204 [.one .nils, .one .nils, .one (.int .i64 0)] := ⟨_, Tryz.zeroValue204, by kernel_rfl⟩
instance : FldC Tryz.prog 204 0 0 := ⟨_, _, _, Tryz.underlying204, rfl, Tryz.sizeOf202, by decide, rfl⟩
instance : FldC Tryz.prog 204 1 1 := ⟨_, _, _, Tryz.underlying204, rfl, Tryz.sizeOf202, by decide, rfl⟩
instance : FldC Tryz.prog 204 2 2 := ⟨_, _, _, Tryz.underlying204, rfl, Tryz.sizeOf3, by decide, rfl⟩
instance : Pl Tryz.prog 204 #[(0, 1), (1, 1), (2, 1)] := ⟨_, Tryz.underlying204, fun w => by kernel_rfl⟩
instance : Inf Tryz.prog 204 Tryz.t204 := ⟨by kernel_rfl⟩
instance : Und Tryz.prog 206 (.struct #[{ name := "ID", type := 51, offset := 0, embedded := false, tag := "", pkgPath := "", byteOffset := 0 }, { name := "Peer", type := 162, offset := 32, embedded := false, tag := "", pkgPath := "", byteOffset := 32 }, { name := "Epoch", type := 62, offset := 48, embedded := false, tag := "", pkgPath := "", byteOffset := 48 }, { name := "Out", type := 58, offset := 49, embedded := false, tag := "", pkgPath := "", byteOffset := 52 }, { name := "In", type := 58, offset := 97, embedded := false, tag := "", pkgPath := "", byteOffset := 100 }, { name := "Say", type := 51, offset := 145, embedded := false, tag := "", pkgPath := "", byteOffset := 148 }, { name := "Hear", type := 51, offset := 177, embedded := false, tag := "", pkgPath := "", byteOffset := 180 }]) := ⟨Tryz.underlying206⟩
instance : Sz Tryz.prog 206 209 := ⟨Tryz.sizeOf206⟩
instance : Ag Tryz.prog 206 true := ⟨Tryz.isAgg206⟩
instance : Zv Tryz.prog 206 [.ints .u8 32 (zs (List.replicate 32 0)), .ints .u8 16 (zs (List.replicate 16 0)), .one (.int .u32 0), .ints .u8 32 (zs (List.replicate 32 0)), .ints .u8 16 (zs (List.replicate 16 0)), .ints .u8 32 (zs (List.replicate 32 0)), .ints .u8 16 (zs (List.replicate 16 0)), .ints .u8 32 (zs (List.replicate 32 0)), .ints .u8 32 (zs (List.replicate 32 0))] := ⟨_, Tryz.zeroValue206, by kernel_rfl⟩
instance : FldC Tryz.prog 206 0 0 := ⟨_, _, _, Tryz.underlying206, rfl, Tryz.sizeOf51, by decide, rfl⟩
instance : FldC Tryz.prog 206 1 32 := ⟨_, _, _, Tryz.underlying206, rfl, Tryz.sizeOf162, by decide, rfl⟩
instance : FldC Tryz.prog 206 2 48 := ⟨_, _, _, Tryz.underlying206, rfl, Tryz.sizeOf62, by decide, rfl⟩
instance : FldC Tryz.prog 206 3 49 := ⟨_, _, _, Tryz.underlying206, rfl, Tryz.sizeOf58, by decide, rfl⟩
instance : FldC Tryz.prog 206 4 97 := ⟨_, _, _, Tryz.underlying206, rfl, Tryz.sizeOf58, by decide, rfl⟩
instance : FldC Tryz.prog 206 5 145 := ⟨_, _, _, Tryz.underlying206, rfl, Tryz.sizeOf51, by decide, rfl⟩
instance : FldC Tryz.prog 206 6 177 := ⟨_, _, _, Tryz.underlying206, rfl, Tryz.sizeOf51, by decide, rfl⟩
instance : Pl Tryz.prog 206 #[(0, 32), (32, 16), (48, 1), (49, 48), (97, 48), (145, 32), (177, 32)] := ⟨_, Tryz.underlying206, fun w => by kernel_rfl⟩
instance : Inf Tryz.prog 206 Tryz.t206 := ⟨by kernel_rfl⟩
instance : Und Tryz.prog 209 (.struct #[{ name := "l", type := 83, offset := 0, embedded := false, tag := "", pkgPath := "burrow/burrowlaw01", byteOffset := 0 }, { name := "long", type := 83, offset := 1, embedded := false, tag := "", pkgPath := "burrow/burrowlaw01", byteOffset := 24 }, { name := "n", type := 3, offset := 2, embedded := false, tag := "", pkgPath := "burrow/burrowlaw01", byteOffset := 48 }]) := ⟨Tryz.underlying209⟩
instance : Sz Tryz.prog 209 3 := ⟨Tryz.sizeOf209⟩
instance : Ag Tryz.prog 209 true := ⟨Tryz.isAgg209⟩
instance : Zv Tryz.prog 209 [.one .nils, .one .nils, .one (.int .i64 0)] := ⟨_, Tryz.zeroValue209, by kernel_rfl⟩
instance : FldC Tryz.prog 209 0 0 := ⟨_, _, _, Tryz.underlying209, rfl, Tryz.sizeOf83, by decide, rfl⟩
instance : FldC Tryz.prog 209 1 1 := ⟨_, _, _, Tryz.underlying209, rfl, Tryz.sizeOf83, by decide, rfl⟩
instance : FldC Tryz.prog 209 2 2 := ⟨_, _, _, Tryz.underlying209, rfl, Tryz.sizeOf3, by decide, rfl⟩
instance : Pl Tryz.prog 209 #[(0, 1), (1, 1), (2, 1)] := ⟨_, Tryz.underlying209, fun w => by kernel_rfl⟩
instance : Inf Tryz.prog 209 Tryz.t209 := ⟨by kernel_rfl⟩
end Go.Proofs.X
end

section
/- Structs with memory of their own put behind others. No program. -/
open Go
namespace Go.Bx
theorem Joins.app {l sub : List Seg} {n m : Nat} (h1 : sizeS l = n) (h2 : sizeS sub = m) : Joins l n sub m (l ++ sub) := by
  subst h1; subst h2
  refine ⟨sizeS_append _ _, fun i y hy => ?_⟩
  rw [atS_append] at hy
  refine ⟨fun hi => ⟨y, ?_, .inl rfl⟩, fun hi => ⟨y, ?_, .inl rfl⟩⟩
  · rwa [if_pos hi] at hy
  · rwa [if_neg (by omega)] at hy
theorem row_mid {pre post : List Seg} {y y' : SV} {ρ : Rho} {get : Nat → Option Value} (h : ∀ v, y.rep ρ v → y'.rep ρ v) (hr : RowRep ρ (pre ++ .one y :: post) get) : RowRep ρ (pre ++ .one y' :: post) get := fun i x hx => by
  have hc : ∀ z : SV, ∀ j, atS (.one z :: post) j = if j < 1 then some z else atS post (j - 1) := fun z j => rfl
  rw [atS_append, hc] at hx
  by_cases h1 : i < sizeS pre
  · rw [if_pos h1] at hx
    exact hr i x (by rw [atS_append, if_pos h1]; exact hx)
  · rw [if_neg h1] at hx
    by_cases h2 : i - sizeS pre < 1
    · rw [if_pos h2] at hx
      obtain rfl := Option.some.inj hx
      obtain ⟨v, k1, k2, k3⟩ := hr i y (by rw [atS_append, if_neg h1, hc, if_pos h2])
      exact ⟨v, k1, h v k2, k3⟩
    · rw [if_neg h2] at hx
      exact hr i x (by rw [atS_append, if_neg h1, hc, if_neg h2]; exact hx)
theorem row_groM {pre post : List Seg} {n wd : Nat} {ρ : Rho} {get : Nat → Option Value} (hr : RowRep ρ (pre ++ .one .nils :: post) get) : RowRep ρ (pre ++ .one (.gro n wd 0) :: post) get := row_mid (y := .nils) (fun _ h => .inl ⟨rfl, h⟩) hr
section
variable {P : Program} {T : Tm} {H : Heap} {d : Option Tmp} {ty : TypeId} {pos : String} {af : Array Edge} {g : Option (Nat × Bool)}
theorem k_bs1 {t e : TypeId} {n0 w : Nat} {parts : Array (Nat × Operand)} {ps : List (Nat × Operand)} {l : List (Nat × AV)} {Z row : List Seg} {H' : Heap} [hu : Und P t (.slice e)] [he : Sz P e w] [hz : Zv P e Z] [hN : LenN H n0] (hps : parts.toList = ps := by rfl) (hl : PartL T ps l := by exact (pc (k := .nil))) (hbig : 1 * w ≤ 16777216 := by exact Nat.le_of_ble_eq_true rfl) (hZn : sizeS Z = w := by rfl) (hs : fillS (fun i => some (i * w, w)) (List.replicate 1 Z).flatten l = some row := by exact rfl) (h0 : 0 < 1 * w := by exact Nat.le_of_ble_eq_true rfl) (hH : H ++ [some (Blk.mk true row)] = H' := by repeat (first | exact happ_0 | apply happ_s)) : LOk P ⟨d, .buildSlice t 1 parts, ty, pos, af, g⟩ T H H' (.s (.slice n0 0 0 1 1)) [] [] := by
  obtain ⟨z, hz1, hz2⟩ := hz.h
  have hzs : z.cells.size = w := by rw [(rowOk_rep hz2).1, hZn]
  have hZ1 : rowOk (List.replicate 1 Z).flatten ((Array.range (1 * w)).map fun i => z.cells[i % z.cells.size]!) = true := by
    have := range_rep z.cells 1
    rw [hzs] at this
    rw [hzs, this]
    exact rowOk_rep_n hz2 1
  exact l_bsl hps hl hu.h he.h hbig hz1 hZ1 hs h0 (fun ρ get h => h) hN.h hH
theorem k_ap1 {x y : Operand} {t tx e rt : TypeId} {id id2 n c w n0 : Nat} {b2 : Bool} {segs row segs' : List Seg} {inf : TypeInfo} {z : Value} {H1 H' : Heap} [hu : Und P t (.slice e)] [hux : Und P tx (.slice e)] [hi : Inf P e inf] [hN : LenN H n0] (hx : ev T x = .s (.gro id w n) := by rfl) (hy : ev T y = .s (.slice id2 0 0 1 1) := by rfl) (hb : hget H id = some ⟨true, segs⟩ := by rfl) (hb2 : hget H id2 = some ⟨b2, row⟩ := by rfl) (hsz : inf.size = w := by exact rfl) (hz : inf.zero = some z := by exact rfl) (hzs : z.cells.size = w := by exact rfl) (hs1 : sizeS segs = n * w := by exact rfl) (hs2 : sizeS row = 1 * w := by exact rfl) (hc : n + 1 = c := by exact rfl) (hbig : n + 1 ≤ 1000000 := by exact Nat.le_of_ble_eq_true rfl) (hbb : Nat.ble (1000000 * inf.bytes) 140737488355328 = true := by exact rfl) (hb1 : 0 < inf.bytes := by exact Nat.le_of_ble_eq_true rfl) (hr : segs ++ row = segs' := by exact rfl) (hH1 : H.set id none = H1 := by repeat (first | exact hset_0 | apply hset_s)) (hH : H1 ++ [some (Blk.mk true segs')] = H' := by repeat (first | exact happ_0 | apply happ_s)) :
    LOk P ⟨d, .call ⟨.builtin .append, #[x, y], #[t, tx]⟩, rt, pos, af, g⟩ T H H' (.s (.gro n0 w c)) [id, id2] [id] := by
  subst hc; subst hr; subst hH1
  exact a_app (sub := row) hx hy hb hsz hz hzs (asrc_sl hux.h hb2 (.whole hs2)) (by omega) (.app hs1 hs2) (big_ok hbig hbb) hb1 (fun i hi => by simp at hi; subst hi; exact hget_lt hb2) hN.h hH
theorem k_ixG (q : Nat) (j' : Nat) {t e : TypeId} {x i : Operand} {id wd len sz : Nat} {k : IntKind} {j : Int} [hu : Und P t (.slice e)] [hs : Sz P e sz] (hx : ev T x = .s (.gro id wd len) := by rfl) (hi : ev T i = .s (.int k j) := by rfl) (hj : j = (j' : Int) := by rfl) (h1 : j' < len := by exact Nat.le_of_ble_eq_true rfl) (hq : j' * sz = q := by rfl) : LOk P ⟨d, .indexAddr t x i, ty, pos, af, g⟩ T H H (.s (.ptr id q 0)) [] [] :=
  (l_ixg hx hi hu.h hs.h (by rw [hj]; omega) (by rw [hj]; omega) rfl).conv (R := []) (fun _ W ρ w u _ _ h => by
    subst hq; subst hj
    obtain ⟨b, o, h1, h2⟩ := h
    exact ⟨b, o, h1, by rw [h2, Int.toNat_natCast]; simp [Nat.add_assoc]⟩) (fun _ h => by cases h)
end
end Go.Bx
end

section
/- A block that may be written, told as a value for one call's time; the call gives new memory. No program. -/
namespace Go.Bx
theorem msk_appN (F : List Nat) (H N : Heap) : msk F H.length (H ++ N) = msk F H.length H ++ N := by
  unfold msk
  rw [List.mapIdx_append]
  congr 1
  apply List.ext_getElem?
  intro i
  rw [List.getElem?_mapIdx]
  cases h : N[i]? with
  | none => rfl
  | some k => simp
def newOk (N : Heap) : Bool := N.all fun | some b => b.rw && b.segs.all Seg.plainB | none => true
theorem newOk_at {N : Heap} (h : newOk N = true) {j : Nat} {b : Blk} (hb : hget N j = some b) : b.rw = true ∧ b.segs.all Seg.plainB = true := by
  have hlt := hget_lt hb
  have hm : some b ∈ N := by
    unfold hget at hb
    rw [List.getElem?_eq_getElem hlt] at hb
    have hb : N[j] = some b := hb
    rw [← hb]; exact List.getElem_mem hlt
  have := List.all_eq_true.1 h _ hm
  simpa [Bool.and_eq_true] using this
theorem lok_tmpN {P : Program} {o : Oper} {T : Tm} {H N : Heap} {v : AV} {F : List Nat} (id : Nat) {segs : List Seg} (hb : hget H id = some ⟨true, segs⟩) (h : LOk P o T (H.set id (some ⟨false, segs⟩)) (H.set id (some ⟨false, segs⟩) ++ N) v F []) (hF : id ∈ F) (ho : othersOk H id F = true) (hN : newOk N = true) (hv : v.plainB = true) : LOk P o T H (H ++ N) v F [] := by
  have hlt := hget_lt hb
  refine ⟨by simp, fun j hj _ => by rw [hget_app, if_pos hj], fun _ h => (by cases h), fun j hj => by have := h.lt j hj; simpa using this, ?_⟩
  have hrun := h.run
  have hls : (H.set id (some ⟨false, segs⟩)).length = H.length := List.length_set
  rw [msk_appN, hls, msk_set _ _ _ hF] at hrun
  rw [msk_appN]
  have hbm : hget (msk F H.length H) id = some ⟨true, segs⟩ := by rw [hget_msk, if_pos (.inl hF)]; exact hb
  have hom : ∀ j b, j ≠ id → hget (msk F H.length H) j = some b → b.rw = false ∨ b.segs.all Seg.plainB = true := by
    intro j b hj hg
    rw [hget_msk] at hg
    split at hg
    · rename_i h1
      rcases h1 with h1 | h1
      · exact othersOk_at ho h1 hj hg
      · have := hget_lt hg; omega
    · cases hg
  generalize hH0 : msk F H.length H = H0 at *
  clear h hb hlt hls ho
  have hlt0 := hget_lt hbm
  have hls0 : (H0.set id (some ⟨false, segs⟩)).length = H0.length := List.length_set
  have hg' : ∀ j k, j ≠ id → hget (H0 ++ N) j = some k → hget (H0.set id (some ⟨false, segs⟩) ++ N) j = some k := by
    intro j k hj e
    rw [hget_app] at e ⊢
    rw [hls0]
    split
    · rename_i h1
      rw [if_pos h1] at e
      rw [hget_set hlt0, if_neg hj]; exact e
    · rename_i h1
      rw [if_neg h1] at e; exact e
  intro W ρ a w hH hn hW hops next Q hq
  cases hm : ρ.m id with
  | none =>
    have hHf : HRep W ρ (hget (H0.set id (some ⟨false, segs⟩))) w := by
      refine ⟨hH.lt, fun j b o k e1 e2 => ?_, fun j j' b o o' k k' hne e1 e2 e3 e4 => ?_, hH.fz, hH.sz⟩
      · rw [hget_set hlt0] at e2
        by_cases hj : j = id
        · subst hj; rw [hm] at e1; cases e1
        · rw [if_neg hj] at e2; exact hH.rep j b o k e1 e2
      · rw [hget_set hlt0] at e3 e4
        by_cases hj : j = id
        · subst hj; rw [hm] at e1; cases e1
        · by_cases hj' : j' = id
          · subst hj'; rw [hm] at e2; cases e2
          · rw [if_neg hj] at e3; rw [if_neg hj'] at e4; exact hH.apart j j' b o o' k k' hne e1 e2 e3 e4
    refine hrun W ρ a w hHf (fun i a1 a2 => hn i (by rwa [hls0] at a1) (by simpa using a2)) hW hops next Q ?_
    rintro v' w' ⟨ρ', W', k, hv'⟩
    have hnone : ρ'.m id = none := by
      cases h7 : ρ'.m id with
      | none => rfl
      | some x =>
        rcases k.old id x h7 with h8 | ⟨h8, _⟩
        · rw [hm] at h8; cases h8
        · rw [hls0] at h8; omega
    refine hq v' w' ⟨ρ', W', ⟨k.le, fun i x e => by have := k.old i x e; simpa [hls0] using this, ⟨k.rep.lt, fun j b o k' e1 e2 => ?_, fun j j' b o o' k1 k2 hne e1 e2 e3 e4 => ?_, k.rep.fz, k.rep.sz⟩, k.fr, k.sub, k.fresh, k.fzn⟩, hv'⟩
    · have hj : j ≠ id := by intro e; subst e; rw [hnone] at e1; cases e1
      exact k.rep.rep j b o k' e1 (hg' j k' hj e2)
    · have hj : j ≠ id := by intro e; subst e; rw [hnone] at e1; cases e1
      have hj' : j' ≠ id := by intro e; subst e; rw [hnone] at e2; cases e2
      exact k.rep.apart j j' b o o' k1 k2 hne e1 e2 (hg' j k1 hj e3) (hg' j' k2 hj' e4)
  | some x =>
    obtain ⟨b0, o0⟩ := x
    obtain ⟨hB0, hW0⟩ := hH.rep id b0 o0 _ hm hbm
    have hW0 := hW0 rfl
    have hnone : ρ.fz b0 = none := by
      cases h : ρ.fz b0 with
      | none => rfl
      | some c => exact absurd hW0 (hH.fz b0 c h).1
    obtain ⟨ρ1, W1, h1, h2, h3, h4, h5, h6⟩ := hrep_frz hH hbm hW
    have hf1 : ∃ cells, ρ1.fz b0 = some cells := by
      obtain ⟨⟨cells, t, fr, g1, g2, g3, g4⟩, _⟩ := h3.rep id b0 o0 ⟨false, segs⟩ (by rw [h2]; exact hm) (by rw [hget_set hlt0, if_pos rfl])
      exact ⟨cells, g3 rfl⟩
    obtain ⟨cells1, hf1⟩ := hf1
    have hnW1 : ¬ W1 b0 := (h3.fz b0 _ hf1).1
    refine hrun W1 ρ1 a w h3 (fun i a1 a2 => by rw [h2]; exact hn i (by rwa [hls0] at a1) (by simpa using a2)) h5 (fun x hx => AV.rep_le h1 (hops x hx)) next Q ?_
    rintro v' w' ⟨ρ', W', k, hv'⟩
    have hm1 : ∀ i x, ρ.m i = some x → ρ'.m i = some x := fun i x e => k.le.m i x (h1.m i x e)
    have hm2 : ∀ i x, ρ'.m i = some x → ρ.m i = some x ∨ (H0.length ≤ i ∧ i < (H0 ++ N).length ∧ W1 x.1) := fun i x e => by
      rcases k.old i x e with h7 | h7
      · rw [h2] at h7; exact .inl h7
      · right; simpa [hls0] using h7
    let ρ2 : Rho := ⟨ρ'.m, fun b => if b = b0 then none else ρ'.fz b, ρ'.sz⟩
    have hle2 : Rle ρ ρ2 := ⟨fun i x e => hm1 i x e, fun b x e => by
      show (if b = b0 then none else ρ'.fz b) = some x
      by_cases hbb : b = b0
      · subst hbb; rw [hnone] at e; cases e
      · rw [if_neg hbb]; exact k.le.fz b x (h1.fz b x e), fun b x e => k.le.sz b x (h1.sz b x e)⟩
    have hfz2 : ∀ b x, ρ2.fz b = some x → b ≠ b0 ∧ ρ'.fz b = some x := fun b x e => by
      have e : (if b = b0 then none else ρ'.fz b) = some x := e
      by_cases hbb : b = b0
      · rw [if_pos hbb] at e; cases e
      · rw [if_neg hbb] at e; exact ⟨hbb, e⟩
    have hsame : ∀ b, b < w.heap.size → ¬ W1 b → w'.heap[b]? = w.heap[b]? := fun b h7 h8 => k.fr.block b h7 h8
    have hold : ∀ j kk, j < H0.length → hget (H0 ++ N) j = some kk → hget H0 j = some kk := fun j kk hj e => by rwa [hget_app, if_pos hj] at e
    refine hq v' w' ⟨ρ2, fun b => W' b ∨ b = b0, ⟨hle2, fun i x e => (hm2 i x e).imp (fun q => q) fun ⟨q1, q2, q3⟩ => ⟨q1, q2, h4 _ q3⟩, ⟨fun j b o e => k.rep.lt j b o e, fun j b o kk e1 e2 => ?_, fun j j' b o o' k1 k2 hne e1 e2 e3 e4 => ?_, fun b cs e => ?_, k.rep.sz⟩, k.fr.mono h4, fun b hb => ?_, fun b hb => .inl (k.fresh b hb), fun b c e => ?_⟩, AV.rep_plain (ρ := ρ') (ρ' := ρ2) rfl rfl hv hv'⟩
    · have e1 : ρ'.m j = some (b, o) := e1
      rcases hm2 j _ e1 with e1' | ⟨hjn, hjn2, hjW⟩
      · by_cases hjl : j < H0.length
        · have e2 := hold j kk hjl e2
          by_cases hj : j = id
          · subst hj
            rw [hm] at e1'; cases e1'
            obtain ⟨q1, q2⟩ := hH.rep j b0 o0 kk hm e2
            exact ⟨(q1.world (hsame b0 (hH.lt _ _ _ hm) hnW1)).le hle2, fun _ => .inr rfl⟩
          · rcases hom j kk hj e2 with hk | hk
            · obtain ⟨q1, q2⟩ := hH.rep j b o kk e1' e2
              obtain ⟨cells, t, fr, g1, g2, g3, g4⟩ := q1
              have hnW : ¬ W1 b := fun h7 => (hH.fz b _ (g3 hk)).1 (h4 b h7)
              have q1 : BRep ρ kk w b o := ⟨cells, t, fr, g1, g2, g3, g4⟩
              exact ⟨(q1.world (hsame b (hH.lt _ _ _ e1') hnW)).le hle2, fun h7 => (by rw [hk] at h7; cases h7)⟩
            · obtain ⟨⟨cells, t, fr, g1, g2, g3, g4⟩, q2⟩ := k.rep.rep j b o kk e1 (hg' j kk hj (by rw [hget_app, if_pos hjl]; exact e2))
              refine ⟨⟨cells, t, fr, g1, g2, fun h7 => ?_, g4.plain (ρ := ρ') (ρ' := ρ2) rfl rfl hk⟩, fun h7 => .inl (q2 h7)⟩
              show (if b = b0 then none else ρ'.fz b) = some cells
              rw [if_neg ?_]; exact g3 h7
              intro e
              subst e
              have := (hH.apart j id b o o0 kk _ hj e1' hm e2 hbm).2
              cases this
        · exfalso
          have hjlt := hget_lt e2
          have := hn j (by omega) (by simpa using hjlt)
          rw [this] at e1'; cases e1'
      · have hj : j ≠ id := by omega
        obtain ⟨⟨cells, t, fr, g1, g2, g3, g4⟩, q2⟩ := k.rep.rep j b o kk e1 (hg' j kk hj e2)
        have e2N : hget N (j - H0.length) = some kk := by rwa [hget_app, if_neg (by omega)] at e2
        obtain ⟨n1, n2⟩ := newOk_at hN e2N
        exact ⟨⟨cells, t, fr, g1, g2, fun h7 => (by rw [n1] at h7; cases h7), g4.plain (ρ := ρ') (ρ' := ρ2) rfl rfl n2⟩, fun h7 => .inl (q2 h7)⟩
    · have e1 : ρ'.m j = some (b, o) := e1
      have e2 : ρ'.m j' = some (b, o') := e2
      by_cases hj : j = id
      · subst hj
        obtain ⟨rfl, rfl⟩ := Prod.mk.inj (Option.some.inj ((hm1 _ _ hm).symm.trans e1))
        rcases hm2 j' _ e2 with e2' | ⟨_, _, hw⟩
        · have hjl : j' < H0.length := by
            rcases Nat.lt_or_ge j' H0.length with h | h
            · exact h
            · have := hn j' h (hget_lt e4); rw [this] at e2'; cases e2'
          exact hH.apart j j' _ _ o' k1 k2 hne hm e2' (hold j k1 hlt0 e3) (hold j' k2 hjl e4)
        · exact absurd hw hnW1
      · by_cases hj' : j' = id
        · subst hj'
          obtain ⟨rfl, rfl⟩ := Prod.mk.inj (Option.some.inj ((hm1 _ _ hm).symm.trans e2))
          rcases hm2 j _ e1 with e1' | ⟨_, _, hw⟩
          · have hjl : j < H0.length := by
              rcases Nat.lt_or_ge j H0.length with h | h
              · exact h
              · have := hn j h (hget_lt e3); rw [this] at e1'; cases e1'
            exact hH.apart j j' _ o _ k1 k2 hne e1' hm (hold j k1 hjl e3) (hold j' k2 hlt0 e4)
          · exact absurd hw hnW1
        · exact k.rep.apart j j' b o o' k1 k2 hne e1 e2 (hg' j k1 hj e3) (hg' j' k2 hj' e4)
    · obtain ⟨h7, h8⟩ := hfz2 b cs e
      exact ⟨fun h9 => h9.elim (k.rep.fz b cs h8).1 h7, (k.rep.fz b cs h8).2⟩
    · rcases hb with h7 | h7
      · exact h4 b (k.sub b h7)
      · subst h7; exact hW0
    · obtain ⟨h7, h8⟩ := hfz2 b c e
      rcases k.fzn b c h8 with h9 | h9
      · exact h6 b c h9
      · exact .inr (h4 b h9)
theorem k_tmpN {P : Program} {o : Oper} {T : Tm} {H H' : Heap} {v : AV} {F : List Nat} (id : Nat) (N : Heap) {segs : List Seg} (hb : hget H id = some ⟨true, segs⟩ := by rfl) (h : LOk P o T (H.set id (some ⟨false, segs⟩)) (H.set id (some ⟨false, segs⟩) ++ N) v F []) (hF : List.elem id F = true := by rfl) (ho : othersOk H id F = true := by rfl) (hN : newOk N = true := by rfl) (hv : v.plainB = true := by rfl) (hH : H ++ N = H' := by repeat (first | exact happ_0 | apply happ_s)) : LOk P o T H H' v F [] := hH ▸ lok_tmpN id hb h (List.mem_of_elem_eq_true hF) ho hN hv
section
variable {P : Program} {T : Tm} {H : Heap} {d : Option Tmp} {ty : TypeId} {pos : String} {af : Array Edge} {g : Option (Nat × Bool)}
end
end Go.Bx
end

section
/- Values put behind nothing. No program. -/
namespace Go.Bx
section
variable {P : Program} {T : Tm} {H : Heap} {d : Option Tmp} {ty : TypeId} {pos : String} {af : Array Edge} {g : Option (Nat × Bool)}
theorem l_appN {x y : Operand} {t tx e rt : TypeId} {id len m size n0 : Nat} {u : SV} {segs sub segs' : List Seg} {inf : TypeInfo} {z : Value} {R : List Nat} {H' : Heap} (hx : ∀ (ρ : Rho) (v : Value), (ev T x).rep ρ v → (SV.gro id size len).rep ρ v) (hy : ev T y = .s u) (hb : hget H id = some ⟨true, segs⟩) (hsrc : ASrc P tx size R H u m sub)
    (hu : P.underlying t = some (.slice e)) (hi : P.info? e = some inf) (hsz : inf.size = size) (hz : inf.zero = some z) (hzs : z.cells.size = size) (h1 : len * size ≤ sizeS segs) (hj : Joins segs (len * size) sub (m * size) segs') (hbig : (len + m) * inf.bytes ≤ 140737488355328) (hb1 : 0 < inf.bytes)
    (hRi : ∀ i ∈ R, i < H.length) (hn : H.length = n0) (hH : H.set id none ++ [some (Blk.mk true segs')] = H') :
    LOk P ⟨d, .call ⟨.builtin .append, #[x, y], #[t, tx]⟩, rt, pos, af, g⟩ T H H' (.s (.gro n0 size (len + m))) (id :: R) [id] := by
  subst hn; subst hH
  have hlt := hget_lt hb
  refine ⟨by simp, fun j hj1 hj2 => ?_, fun j hj1 => by simp at hj1; subst hj1; simp, fun j hj1 => ?_, ?_⟩
  · rw [hget_app, if_pos (by simpa using hj1), hget_set hlt, if_neg (by simpa using hj2)]
  · rcases List.mem_cons.1 hj1 with rfl | h
    · exact hlt
    · exact hRi j h
  have hmk : msk (id :: R) H.length (H.set id none ++ [some (Blk.mk true segs')]) = (msk (id :: R) H.length H).set id none ++ [some (Blk.mk true segs')] := by
    have := msk_app (id :: R) (H.set id none) [some (Blk.mk true segs')]
    rw [List.length_set] at this
    rw [this, msk_set _ _ _ (by simp)]
  rw [hmk]
  have hgm : ∀ j ∈ id :: R, hget (msk (id :: R) H.length H) j = hget H j := fun j hj => by rw [hget_msk, if_pos (.inl hj)]
  generalize hH0 : msk (id :: R) H.length H = H0 at *
  have hl0 : H0.length = H.length := by rw [← hH0, msk_len]
  intro W ρ a w hH hnone hW ho next Q hq
  have k1 : (ev T x).rep ρ (a.eval x) := ho x (by simp [Op.operands, Call.operands])
  have k2 : (ev T y).rep ρ (a.eval y) := ho y (by simp [Op.operands, Call.operands])
  replace k1 := hx _ _ k1
  rw [hy] at k2
  obtain ⟨hss, hsrc⟩ := hsrc
  obtain ⟨news, hS, hnr, _⟩ := hsrc _ W ρ w _ (fun j hj => hgm j (List.mem_cons_of_mem _ hj)) hH k2
  have hnl : news.length = m * size := hS.newsLen
  have hb0 : hget H0 id = some ⟨true, segs⟩ := (hgm id (by simp)).trans hb
  have hnew : ρ.m H0.length = none := hnone _ (Nat.le_refl _) (by simp)
  have hget2 : ∀ (j : Nat) (k : Blk), hget (H0.set id none ++ [some (Blk.mk true segs')]) j = some k → (j = H0.length ∧ k = ⟨true, segs'⟩) ∨ (j ≠ id ∧ j ≠ H0.length ∧ hget H0 j = some k) := by
    intro j k hk
    rw [hget_app] at hk
    simp only [List.length_set] at hk
    split at hk
    · rename_i hj
      rw [hget_set (by omega)] at hk
      by_cases hji : j = id
      · rw [if_pos hji] at hk; cases hk
      · rw [if_neg hji] at hk; exact .inr ⟨hji, by omega, hk⟩
    · have := hget_lt hk
      simp at this
      have : j = H0.length := by omega
      subst this
      rw [Nat.sub_self] at hk
      exact .inl ⟨rfl, (Option.some.inj hk).symm⟩
  -- a new row
  have grows : ∀ (base : Option Addr) (sLen sCap : Nat) (olds : List Value), a.eval x = .slice base sLen sCap → sLen = len → sCap < sLen + m → (Builtin.firstCells size sLen (.slice base sLen sCap)).run P w.drew = .ok olds.toArray w.drew → olds.length = len * size → RowRep ρ segs (fun i => if i < len * size then olds[i]? else none) ∨ (∀ i x, i < len * size → atS segs i = some x → ∃ v, olds[i]? = some v ∧ x.cell ρ v) →
      Oper.upon P ⟨d, .call ⟨.builtin .append, #[x, y], #[t, tx]⟩, rt, pos, af, g⟩ a next Q ((execOp a.eval ⟨d, .call ⟨.builtin .append, #[x, y], #[t, tx]⟩, rt, pos, af, g⟩).run P w) := by
    intro base sLen sCap olds hev hsl hg hold holl hor
    subst hsl
    have hor' : ∀ i x, i < sLen * size → atS segs i = some x → ∃ v, olds[i]? = some v ∧ x.cell ρ v := by
      rcases hor with h | h
      · intro i x hi hx
        obtain ⟨v, hv, hc⟩ := h i x hx
        have hv : (if i < sLen * size then olds[i]? else none) = some v := hv
        rw [if_pos hi] at hv
        exact ⟨v, hv, hc⟩
      · exact h
    subst hsz
    have h63 : ((sLen + m : Nat) : Int) ≤ 9223372036854775807 := by
      have : sLen + m ≤ (sLen + m) * inf.bytes := Nat.le_mul_of_pos_right _ hb1
      omega
    have hr := run_append_grow_src (P := P) w t tx rt e inf z hu hi hz base sLen sCap olds hold _ m news hS hg h63 (growslice_fits hg hbig)
    generalize hcap : grownCap w (sLen + m) sCap e = cap at hr
    have hcap' : sLen + m ≤ cap := hcap ▸ grownCap_ge w _ _ _
    have hrun : (execOp a.eval ⟨d, .call ⟨.builtin .append, #[x, y], #[t, tx]⟩, rt, pos, af, g⟩).run P w = .ok (.value (.slice (some ⟨w.heap.size, 0, none⟩) (sLen + m) cap)) (w.drew.alloc (.cells ((olds ++ news).toArray ++ Builtin.zeroCells z.cells (cap - (sLen + m))) e)) := by
      simp only [execOp, resolve, invoke, builtin, List.map_toArray, List.map_cons, List.map_nil, hev]
      simp [Sem.run_bind, hr]
    rw [hrun]
    generalize hcells : (olds ++ news).toArray ++ Builtin.zeroCells z.cells (cap - (sLen + m)) = cells
    have hzc : z.cells.size = inf.size ∨ True := .inr trivial
    -- what the row holds
    have hrow : ∀ ρ', Rle ρ ρ' → RowRep ρ' segs' (fun i => cells[i]?) := by
      intro ρ' hle i q hqi
      have hil := atS_lt hqi
      rw [hj.1] at hil
      have hcell : ∀ v, (olds ++ news)[i]? = some v → cells[i]? = some v := fun v hv => by
        have hi' := (List.getElem?_eq_some_iff.1 hv).1
        rw [← hcells, Array.getElem?_append_left (by simpa using hi')]
        simpa using hv
      obtain ⟨c1, c2⟩ := hj.2 i q hqi
      rcases Nat.lt_or_ge i (sLen * inf.size) with h | h
      · obtain ⟨x0, hx0, he⟩ := c1 h
        obtain ⟨v, hv, hc⟩ := hor' i x0 h hx0
        refine ⟨v, hcell v (by rw [List.getElem?_append_left (by omega)]; exact hv), joined he ⟨SV.rep_le hle hc.1, hc.2⟩⟩
      · obtain ⟨x0, hx0, he⟩ := c2 h
        obtain ⟨v, hv, hc⟩ := hnr _ x0 hx0
        refine ⟨v, hcell v (by rw [List.getElem?_append_right (by omega), holl]; exact hv), joined he ⟨SV.rep_le hle hc.1, hc.2⟩⟩
    have hHd : HRep W ρ (hget (H0.set id none)) w.drew := (hH.sub fun j k hk => by
      rw [hget_set (by omega)] at hk
      split at hk
      · cases hk
      · exact hk).ext (.drew w)
    obtain ⟨ρ', k3, k4, k5⟩ := nx_alloc (t := e) (w := w.drew) (H0 := H0.set id none) hHd (by simpa using hnew) (fun b hb => hW b hb) hrow
    refine hq _ _ ⟨ρ', W, ?_, .inr ⟨w.heap.size, 0, cap, cells.size, ?_, rfl, hcap', k5, ?_⟩⟩
    · simp only [List.length_set] at k3
      exact ⟨k3.le, k3.old, k3.rep, ((Ext.drew w).fr W).trans k3.fr, k3.sub, k3.fresh, k3.fzn⟩
    · rw [← hl0]; simpa using k4
    · rw [← hcells]
      simp only [Array.size_append, List.size_toArray, List.length_append, holl, hnl, Builtin.zeroCells, Array.size_map, Array.size_range, Nat.zero_add]
      have e1 : (cap - (sLen + m)) * z.cells.size = (cap - (sLen + m)) * inf.size := by rw [hzs]
      have e2 : cap * inf.size = sLen * inf.size + m * inf.size + (cap - (sLen + m)) * inf.size := by
        rw [← Nat.add_mul, ← Nat.add_mul]; congr 1; omega
      omega
  rcases k1 with ⟨hl, hev⟩ | ⟨b, o, cap, q, hρ, hev, hlc, hszb, hroom⟩
  · -- nothing so far
    rcases Nat.eq_zero_or_pos m with hm | hm
    · -- nothing more
      have hl2 : news = [] := List.eq_nil_of_length_eq_zero (by rw [hnl, hm, Nat.zero_mul])
      have hrun : (execOp a.eval ⟨d, .call ⟨.builtin .append, #[x, y], #[t, tx]⟩, rt, pos, af, g⟩).run P w = .ok (.value (.slice none 0 0)) w := by
        simp only [execOp, resolve, invoke, builtin, List.map_toArray, List.map_cons, List.map_nil, hev]
        have hc := hS.cells
        rw [hm, hl2] at hc
        rcases hS.kind with ⟨e', hk⟩ | hk <;> (have hln := hS.len; rw [hm] at hln; simp [Builtin.append_, Sem.run_bind, run_underlying hu, run_underlying hk, sizeOf, typeInfo, hi, hsz, hln, hc])
      rw [hrun]
      let ρ' := ρ
      refine hq _ _ ⟨ρ, W, ⟨.refl _, fun _ _ h => .inl h, ⟨hH.lt, fun j b o k e1 e2 => ?_, fun j j' b o o' k k' hne e1 e2 e3 e4 => ?_, hH.fz, hH.sz⟩, .refl _ _, fun _ h => h, hW, fun _ _ h => .inl h⟩, .inl ⟨by rw [hl, hm], rfl⟩⟩
      · rcases hget2 j k e2 with ⟨rfl, _⟩ | ⟨_, _, h⟩
        · rw [hnew] at e1; cases e1
        · exact hH.rep j b o k e1 h
      · rcases hget2 j k e3 with ⟨rfl, _⟩ | ⟨_, _, h⟩
        · rw [hnew] at e1; cases e1
        · rcases hget2 j' k' e4 with ⟨rfl, _⟩ | ⟨_, _, h'⟩
          · rw [hnew] at e2; cases e2
          · exact hH.apart j j' b o o' k k' hne e1 e2 h h'
    · exact grows none 0 0 [] hev hl.symm (by omega) (by rw [run_firstCells_none]) (by simp [hl]) (.inr fun i x hi => by rw [hl, Nat.zero_mul] at hi; omega)
  · obtain ⟨⟨cells, tt, fr, g1, g2, _, g4⟩, hWb⟩ := hH.rep id b o _ hρ hb0
    have hfr := g2 rfl
    subst hfr
    have hWb := hWb rfl
    have hcs : cells.size = q := by
      obtain ⟨cs, t', fr', h2, h3⟩ := hH.sz b q hszb
      rw [g1] at h2
      cases h2; exact h3
    rcases Nat.lt_or_ge cap (len + m) with hg | hg
    · -- no room
      have hfit : o + len * size ≤ cells.size := by
        have := Nat.mul_le_mul_right size hlc
        omega
      have hget3 : ∀ i, ((cells.toList.drop o).take (len * size))[i]? = if i < len * size then cells[o + i]? else none := fun i => by
        rw [List.getElem?_take]
        by_cases h : i < len * size
        · rw [if_pos h, if_pos h, List.getElem?_drop]; simp
        · rw [if_neg h, if_neg h]
      refine grows (some ⟨b, o, none⟩) len cap ((cells.toList.drop o).take (len * size)) hev rfl hg ?_ (by simp; omega) (.inr fun i x0 hi2 hx0 => ?_)
      · refine run_firstCells_some w.drew size len ⟨b, o, none⟩ len cap _ (by simp; omega) fun i v hv => ?_
        rw [hget3] at hv
        split at hv
        · rw [addr_add]
          have g1' : w.drew.heap[b]? = some (.cells cells tt (0, 0)) := g1
          simp [World.cell?, g1']
          exact hv
        · cases hv
      · obtain ⟨v, hv, hc⟩ := g4 i x0 hx0
        exact ⟨v, by rw [hget3, if_pos hi2]; exact hv, hc⟩
    · -- there is room
      have hst := run_storeCells_at P b (o + len * size) tt news 0 cells w g1 (by
        have := Nat.mul_le_mul_right size hg
        rw [Nat.add_mul] at this
        simp; omega) hS.one
      rw [Nat.add_zero] at hst
      have hrun : (execOp a.eval ⟨d, .call ⟨.builtin .append, #[x, y], #[t, tx]⟩, rt, pos, af, g⟩).run P w = .ok (.value (.slice (some ⟨b, o, none⟩) (len + m) cap)) (w.setRow b (cells.toList.take (o + len * size) ++ news ++ cells.toList.drop (o + len * size + news.length)).toArray) := by
        simp only [execOp, resolve, invoke, builtin, List.map_toArray, List.map_cons, List.map_nil, hev]
        rcases hS.kind with ⟨e', hk⟩ | hk <;> (simp [Builtin.append_, Sem.run_bind, run_underlying hu, run_underlying hk, sizeOf, typeInfo, hi, hsz, hS.len, hS.cells, hg, addr_add]; rw [hst]; simp)
      rw [hrun]
      have hbl := hH.lt _ _ _ hρ
      have hsize : ((cells.toList.take (o + len * size) ++ news ++ cells.toList.drop (o + len * size + news.length)).toArray).size = cells.size := by
        have := Nat.mul_le_mul_right size hg
        rw [Nat.add_mul] at this
        simp; omega
      have hnewrow := setRow_heap w b cells (cells.toList.take (o + len * size) ++ news ++ cells.toList.drop (o + len * size + news.length)).toArray tt (0, 0) g1
      generalize hrw : (cells.toList.take (o + len * size) ++ news ++ cells.toList.drop (o + len * size + news.length)).toArray = row at *
      let ρ' : Rho := ⟨fun i => if i = H0.length then some (b, o) else ρ.m i, ρ.fz, ρ.sz⟩
      have hρ' : ∀ i x, ρ'.m i = some x → (i = H0.length ∧ x = (b, o)) ∨ (i ≠ H0.length ∧ ρ.m i = some x) := by
        intro i x hx
        have hx : (if i = H0.length then some (b, o) else ρ.m i) = some x := hx
        by_cases hi2 : i = H0.length
        · rw [if_pos hi2] at hx; exact .inl ⟨hi2, (Option.some.inj hx).symm⟩
        · rw [if_neg hi2] at hx; exact .inr ⟨hi2, hx⟩
      have hle : Rle ρ ρ' := by
        refine ⟨fun i x hx => ?_, fun _ _ h => h, fun _ _ h => h⟩
        show (if i = H0.length then some (b, o) else ρ.m i) = some x
        by_cases hi2 : i = H0.length
        · subst hi2; rw [hnew] at hx; cases hx
        · rw [if_neg hi2]; exact hx
      have hother : ∀ j b' o' k, j ≠ id → ρ.m j = some (b', o') → hget H0 j = some k → b' ≠ b := by
        intro j b' o' k hj e1 e2 e
        subst e
        have := (hH.apart j id b' o' o k _ hj e1 hρ e2 hb0).2
        cases this
      have hrowcell : ∀ i, (i < len * size → row[o + i]? = cells[o + i]?) ∧ (len * size ≤ i → i < len * size + news.length → row[o + i]? = news[i - len * size]?) := by
        have hle2 : o + len * size ≤ cells.size := by
          have := Nat.mul_le_mul_right size hlc
          omega
        intro i
        refine ⟨fun h => ?_, fun h h' => ?_⟩
        · rw [← hrw, List.getElem?_toArray, List.getElem?_append_left (by simp; omega), List.getElem?_append_left (by simp; omega), List.getElem?_take, if_pos (by omega)]
          simp
        · rw [← hrw, List.getElem?_toArray, List.getElem?_append_left (by simp; omega), List.getElem?_append_right (by simp; omega)]
          congr 1
          simp; omega
      refine hq _ _ ⟨ρ', W, ⟨hle, fun i x e => ?_, ⟨fun j b' o' e => ?_, fun j b' o' k e1 e2 => ?_, fun j j' b' o1 o2 k k' hne e1 e2 e3 e4 => ?_, fun b' cs e => ?_, fun b' n' e => ?_⟩, Fr.setRow _ hWb g1 hsize, fun _ h => h, fun b' hb' => hW b' (by simpa using hb'), fun _ _ h => .inl h⟩, .inr ⟨b, o, cap, q, ?_, rfl, hg, hszb, hroom⟩⟩
      · rcases hρ' i x e with ⟨rfl, rfl⟩ | ⟨_, h⟩
        · exact .inr ⟨Nat.le_refl _, by simp, hWb⟩
        · exact .inl h
      · rcases hρ' j _ e with ⟨rfl, h⟩ | ⟨_, h⟩
        · cases h; simpa using hbl
        · have := hH.lt _ _ _ h; simpa using this
      · rcases hget2 j k e2 with ⟨rfl, rfl⟩ | ⟨h1', h2', h3'⟩
        · rcases hρ' _ _ e1 with ⟨_, h⟩ | ⟨h, _⟩
          · cases h
            refine ⟨⟨row, tt, (0, 0), hnewrow, fun _ => rfl, fun h => (by cases h), fun i p hp => ?_⟩, fun _ => hWb⟩
            have hil := atS_lt hp
            rw [hj.1] at hil
            obtain ⟨c1, c2⟩ := hj.2 i p hp
            rcases Nat.lt_or_ge i (len * size) with h | h
            · obtain ⟨x0, hx0, he⟩ := c1 h
              obtain ⟨v, hv, hc⟩ := g4 i x0 hx0
              exact ⟨v, by show row[o + i]? = some v; rw [(hrowcell i).1 h]; exact hv, joined he ⟨SV.rep_le hle hc.1, hc.2⟩⟩
            · obtain ⟨x0, hx0, he⟩ := c2 h
              obtain ⟨v, hv, hc⟩ := hnr _ x0 hx0
              exact ⟨v, by show row[o + i]? = some v; rw [(hrowcell i).2 h (by rw [hnl]; exact hil)]; exact hv, joined he ⟨SV.rep_le hle hc.1, hc.2⟩⟩
          · exact absurd rfl h
        · rcases hρ' _ _ e1 with ⟨h, _⟩ | ⟨_, h⟩
          · exact absurd h h2'
          · have := hH.rep j b' o' k h h3'
            refine ⟨(this.1.world (setRow_other _ _ _ _ ?_)).le hle, this.2⟩
            exact fun e => (hother j b' o' k h1' h h3') e
      · rcases hget2 j k e3 with ⟨rfl, rfl⟩ | ⟨h1', h2', h3'⟩ <;> rcases hget2 j' k' e4 with ⟨rfl, rfl⟩ | ⟨h1'', h2'', h3''⟩
        · exact absurd rfl hne
        · rcases hρ' _ _ e1 with ⟨_, h⟩ | ⟨h, _⟩
          · cases h
            rcases hρ' _ _ e2 with ⟨h, _⟩ | ⟨_, h⟩
            · exact absurd h h2''
            · exact absurd rfl (hother j' b o2 k' h1'' h h3'')
          · exact absurd rfl h
        · rcases hρ' _ _ e2 with ⟨_, h⟩ | ⟨h, _⟩
          · cases h
            rcases hρ' _ _ e1 with ⟨h, _⟩ | ⟨_, h⟩
            · exact absurd h h2'
            · exact absurd rfl (hother j b o1 k h1' h h3')
          · exact absurd rfl h
        · rcases hρ' _ _ e1 with ⟨h, _⟩ | ⟨_, h⟩
          · exact absurd h h2'
          rcases hρ' _ _ e2 with ⟨h', _⟩ | ⟨_, h'⟩
          · exact absurd h' h2''
          exact hH.apart j j' b' o1 o2 k k' hne h h' h3' h3''
      · obtain ⟨q1, t', fr', q2⟩ := hH.fz b' cs e
        have hne : b' ≠ b := by intro e'; rw [e'] at q1; exact q1 hWb
        exact ⟨q1, t', fr', by rw [setRow_other _ _ _ _ hne]; exact q2⟩
      · exact sz_fr hH (Fr.setRow (W := W) row hWb g1 hsize) b' n' e
      · show (if H.length = H0.length then some (b, o) else ρ.m H.length) = some (b, o)
        rw [if_pos hl0.symm]
theorem k_apn (id : Nat) {x y : Operand} {t tx e rt : TypeId} {m n0 : Nat} {k : IntKind} {l2 : List Int} {segs : List Seg} {inf : TypeInfo} {z : Value} {H1 H' : Heap} [hu : Und P t (.slice e)] [hux : Und P tx (.slice e)] [hi : Inf P e inf] [hN : LenN H n0] (hx : ev T x = .s .nils := by rfl) (hy : ev T y = .s (.fzi k l2) := by rfl) (hb : hget H id = some ⟨true, segs⟩ := by rfl) (hsz : inf.size = 1 := by exact rfl) (hz : inf.zero = some z := by exact rfl) (hzs : z.cells.size = 1 := by exact rfl) (hm : l2.length = m := by rfl) (hbig : m ≤ 1000000 := by omega) (hbb : Nat.ble (1000000 * inf.bytes) 140737488355328 = true := by exact rfl) (hb1 : 0 < inf.bytes := by exact Nat.le_of_ble_eq_true rfl) (hH1 : H.set id none = H1 := by repeat (first | exact hset_0 | apply hset_s)) (hH : H1 ++ [some (Blk.mk true [.ints k m l2])] = H' := by repeat (first | exact happ_0 | apply happ_s)) :
    LOk P ⟨d, .call ⟨.builtin .append, #[x, y], #[t, tx]⟩, rt, pos, af, g⟩ T H H' (.s (.gro n0 1 m)) [id] [id] := by
  subst hm; subst hH1
  have h := l_appN (P := P) (T := T) (H := H) (d := d) (rt := rt) (pos := pos) (af := af) (g := g) (x := x) (y := y) (t := t) (tx := tx) (id := id) (len := 0) (m := l2.length) (size := 1) (segs := segs) (sub := [.ints k l2.length l2]) (segs' := [.ints k l2.length l2]) (H' := H') (fun ρ v hv => by rw [hx] at hv; exact .inl ⟨rfl, hv⟩) hy hb (asrc_fzi hux.h) hu.h hi.h hsz hz hzs (by omega) ?_ (big_ok (n := 0) (m := l2.length) (by omega) hbb) hb1 (fun _ h => by cases h) hN.h hH
  · rwa [Nat.zero_add] at h
  · refine ⟨by simp [sizeS, Seg.size], fun i y hy => ⟨fun hi => by omega, fun _ => ⟨y, ?_, .inl rfl⟩⟩⟩
    rw [Nat.zero_mul, Nat.sub_zero]; exact hy
end
end Go.Bx
end

section
/- Types and functions of the document's sums, as instances. -/
open Go Go.Bx Go.Proofs
namespace Go.Proofs.X
instance : Clb Tryz.prog 156 := ⟨_, Tryz.func156, by kernel_rfl, rfl⟩
instance : Clb Tryz.prog 168 := ⟨_, Tryz.func168, by kernel_rfl, rfl⟩
instance : Clb Tryz.prog 169 := ⟨_, Tryz.func169, by kernel_rfl, rfl⟩
instance : Clb Tryz.prog 173 := ⟨_, Tryz.func173, by kernel_rfl, rfl⟩
instance : Clb Tryz.prog 95 := ⟨_, Tryz.func95, by kernel_rfl, rfl⟩
instance : Clb Tryz.prog 96 := ⟨_, Tryz.func96, by kernel_rfl, rfl⟩
instance : Clb Tryz.prog 157 := ⟨_, Tryz.func157, by kernel_rfl, rfl⟩
instance : Clb Tryz.prog 158 := ⟨_, Tryz.func158, by kernel_rfl, rfl⟩
instance : Clb Tryz.prog 94 := ⟨_, Tryz.func94, by kernel_rfl, rfl⟩
instance : Und Tryz.prog 248 (.array 8 62) := ⟨Tryz.underlying248⟩
instance : Sz Tryz.prog 248 8 := ⟨Tryz.sizeOf248⟩
instance : Ag Tryz.prog 248 true := ⟨Tryz.isAgg248⟩
instance : Zv Tryz.prog 248 [.ints .u32 8 (zs (List.replicate 8 0))] := ⟨_, Tryz.zeroValue248, by kernel_rfl⟩
instance : Zb Tryz.prog 248 .u32 8 := ⟨_, Tryz.zeroValue248, by kernel_rfl⟩
instance : Inf Tryz.prog 248 Tryz.t248 := ⟨by kernel_rfl⟩
end Go.Proofs.X
end

section
/- Numbers of 256 bits, told by what they are: words, halves, sums, differences, products. No program. -/
open Go Go.Bx
namespace Go.Proofs.X
theorem map_getD (f : Nat → Nat) (m j : Nat) (h : j < m) : ((List.range m).map f).getD j 0 = f j := by
  simp [List.getD_eq_getElem?_getD, h]
theorem eqD {l k : List Nat} (hl : l.length = k.length) (h : ∀ i, i < l.length → l.getD i 0 = k.getD i 0) : l = k := by
  apply List.ext_getElem hl
  intro i h1 h2
  have := h i h1
  simpa [List.getD_eq_getElem?_getD, h1, h2] using this
def pf2 (f g : Nat → Nat) (m i : Nat) : List Nat := (List.range m).map fun j => if j < i then f j else g j
def dg (B n i : Nat) : Nat := n / B ^ i % B
def wd (n : Nat) : List Nat := (List.range 4).map (dg 18446744073709551616 n)
def hv (n : Nat) : List Nat := (List.range 8).map (dg 4294967296 n)
def hw (n : Nat) : List Nat := (List.range 16).map (dg 4294967296 n)
theorem wd_len (n : Nat) : (wd n).length = 4 := by simp [wd]
theorem wd_at (n i : Nat) (h : i < 4) : (wd n).getD i 0 = dg 18446744073709551616 n i := map_getD _ _ _ h
theorem dg_lt (B n i : Nat) (h : 0 < B) : dg B n i < B := Nat.mod_lt _ h
def val (l : List Nat) : Nat := l.getD 0 0 + 18446744073709551616 * (l.getD 1 0 + 18446744073709551616 * (l.getD 2 0 + 18446744073709551616 * l.getD 3 0))
def B64 (x : List Nat) : Prop := ∀ i, x.getD i 0 < 18446744073709551616
theorem wd_val (l : List Nat) (hl : l.length = 4) (h : B64 l) : wd (val l) = l := by
  apply eqD (by rw [wd_len, hl])
  intro i hi
  rw [wd_len] at hi
  rw [wd_at _ _ hi]
  have h0 := h 0
  have h1 := h 1
  have h2 := h 2
  have h3 := h 3
  match l, hl with
  | [a, b, c, d], _ =>
    unfold dg val
    simp at h0 h1 h2 h3
    match i, hi with
    | 0, _ => simp <;> omega
    | 1, _ => simp <;> omega
    | 2, _ => simp <;> omega
    | 3, _ => simp <;> omega
theorem wd_mod (n : Nat) : wd (n % 2 ^ 256) = wd n := by
  apply eqD (by rw [wd_len, wd_len])
  intro i hi
  rw [wd_len] at hi
  rw [wd_at _ _ hi, wd_at _ _ hi]
  unfold dg
  match i, hi with
  | 0, _ => simp <;> omega
  | 1, _ => simp <;> omega
  | 2, _ => simp <;> omega
  | 3, _ => simp <;> omega
theorem wd_B64 (n : Nat) : B64 (wd n) := by
  intro i
  by_cases h : i < 4
  · rw [wd_at _ _ h]; exact dg_lt _ _ _ (by omega)
  · rw [List.getD_eq_getElem?_getD, List.getElem?_eq_none (by rw [wd_len]; omega)]; simp
def cmpI (a b : Nat) : Int := if a = b then 0 else if a < b then -1 else 1
def cy (B a b c i : Nat) : Nat := (a % B ^ i + b % B ^ i + c) / B ^ i
def my (B v n at_ p : Nat) : Nat := (v % B ^ p + n * B ^ at_) / B ^ p
end Go.Proofs.X
end

section
/- Numbers as bytes, the highest first: what is put, what is read. No program. -/
open Go Go.Bx
namespace Go.Proofs.X
theorem eqI {l k : List Int} (hl : l.length = k.length) (h : ∀ i, i < l.length → l.getD i 0 = k.getD i 0) : l = k := by
  apply List.ext_getElem hl
  intro i h1 h2
  have := h i h1
  simpa [List.getD_eq_getElem?_getD, h1, h2] using this
theorem getD_app (A B : List Int) (i : Nat) : (A ++ B).getD i 0 = if i < A.length then A.getD i 0 else B.getD (i - A.length) 0 := by
  by_cases h : i < A.length
  · simp [List.getD_eq_getElem?_getD, List.getElem?_append_left h, h]
  · simp [List.getD_eq_getElem?_getD, List.getElem?_append_right (Nat.le_of_not_lt h), h]
theorem getD_rep (n i : Nat) : (List.replicate n (0 : Int)).getD i 0 = 0 := by
  by_cases h : i < n
  · simp [List.getD_eq_getElem?_getD, h]
  · simp [List.getD_eq_getElem?_getD, h]
theorem getD_take' (l : List Int) (n i : Nat) (h : i < n) : (l.take n).getD i 0 = l.getD i 0 := by
  simp [List.getD_eq_getElem?_getD, List.getElem?_take, h]
theorem getD_drop' (l : List Int) (n i : Nat) : (l.drop n).getD i 0 = l.getD (n + i) 0 := by
  simp [List.getD_eq_getElem?_getD, List.getElem?_drop]
theorem setDI (l : List Int) (i : Nat) (v : Int) (j : Nat) (hi : i < l.length) : (l.set i v).getD j 0 = if i = j then v else l.getD j 0 := by
  by_cases h : i = j
  · subst h; simp [List.getD_eq_getElem?_getD, hi]
  · simp [List.getD_eq_getElem?_getD, List.getElem?_set_ne h, h]
theorem eqI_n {l k : List Int} (n : Nat) (hl : l.length = n) (hk : k.length = n) (h : ∀ i, i < n → l.getD i 0 = k.getD i 0) : l = k := eqI (hl.trans hk.symm) fun i hi => h i (hl ▸ hi)
theorem spl_app (A Y Z : List Int) (a n m : Nat) (ha : A.length = a) (hn : Y.length = n) (hm : a + n ≤ m) (hz : A.length + Z.length = m) : spl (A ++ Z) Y a n m = A ++ Y ++ Z.drop n := by
  refine eqI_n m (Bx.spl_len _ _ _ _ _) (by simp; omega) fun i hi => ?_
  rw [spl_getD _ _ _ _ _ _ hi, getD_app, getD_app, getD_app, getD_drop', List.length_append]
  by_cases h1 : i < a
  · rw [if_neg (by omega), if_pos (by omega), if_pos (by omega), if_pos (by omega)]
  · by_cases h2 : i < a + n
    · rw [if_pos (by omega), if_pos (by omega), if_neg (by omega), ha]
    · rw [if_neg (by omega), if_neg (by omega), if_neg (by omega), ha, hn]
      congr 1; omega
def beN (n v : Nat) : List Nat := (List.range n).map fun i => v / 256 ^ (n - 1 - i) % 256
def be (n v : Nat) : List Int := zs (beN n v)
theorem be_len (n v : Nat) : (be n v).length = n := by simp [be, beN, zs]
theorem be_get (n v i : Nat) (h : i < n) : (be n v).getD i 0 = ((v / 256 ^ (n - 1 - i) % 256 : Nat) : Int) := by
  unfold be beN
  rw [zs_getD, map_getD _ _ _ h]
theorem wrap8 (v : Nat) : IntKind.u8.wrap (v : Int) = ((v % 256 : Nat) : Int) := by
  unfold IntKind.wrap; simp [IntKind.bits, IntKind.signed]
theorem wrap64' {v : Nat} (h : v < 18446744073709551616) : IntKind.u64.wrap (v : Int) = (v : Int) := by
  unfold IntKind.wrap; simp [IntKind.bits, IntKind.signed]; omega
theorem rb_n (out : List Int) (at_ v : Nat) (hv : v < 18446744073709551616) (ha : at_ ≤ out.length) (j : Nat) (hj : j ≤ at_) : (rb out at_ (v : Int) j).2 = ((v / 256 ^ j : Nat) : Int) ∧ ∀ i, (rb out at_ (v : Int) j).1.getD i 0 = if at_ - j ≤ i ∧ i < at_ then ((v / 256 ^ (at_ - 1 - i) % 256 : Nat) : Int) else out.getD i 0 := by
  induction j with
  | zero => exact ⟨by simp [rb], fun i => by rw [if_neg (by omega)]; rfl⟩
  | succ j ih =>
    obtain ⟨h1, h2⟩ := ih (by omega)
    constructor
    · rw [rb, h1]
      show IntKind.u64.wrap ((((v / 256 ^ j : Nat) : Int)).tdiv ((256 : Nat) : Int)) = _
      rw [show (((v / 256 ^ j : Nat) : Int)).tdiv ((256 : Nat) : Int) = ((v / 256 ^ j / 256 : Nat) : Int) from rfl, Nat.div_div_eq_div_mul, ← Nat.pow_succ, wrap64' (Nat.lt_of_le_of_lt (Nat.div_le_self _ _) hv)]
    · intro i
      rw [rb, h1, wrap8]
      show ((rb out at_ (v : Int) j).1.set (at_ - (j + 1)) _).getD i 0 = _
      rw [setDI _ _ _ _ (by rw [rb_len]; omega), h2]
      by_cases h : at_ - (j + 1) = i
      · rw [if_pos h, if_pos (by omega), show at_ - 1 - i = j by omega]
      · rw [if_neg h]
        by_cases h3 : at_ - j ≤ i ∧ i < at_
        · rw [if_pos h3, if_pos (by omega)]
        · rw [if_neg h3, if_neg (by omega)]
theorem rr_n (tot each N : Nat) (ws : List Nat) (h64 : B64 ws) (he : 0 < each) (k : Nat) (hk : each * k ≤ tot) (i : Nat) (hi : i < tot) : (rr tot each N (zs ws) k).getD i 0 = if tot - 1 - i < each * k then ((ws.getD (N - 1 - (tot - 1 - i) / each) 0 / 256 ^ ((tot - 1 - i) % each) % 256 : Nat) : Int) else 0 := by
  induction k with
  | zero => rw [if_neg (by omega), rr, getD_rep]
  | succ k ih =>
    rw [Nat.mul_succ] at hk
    rw [rr, zs_getD, (rb_n _ _ _ (h64 _) (by rw [rr_len]; omega) each (by omega)).2, ih (by omega), Nat.mul_succ]
    by_cases h1 : tot - 1 - i < each * k
    · rw [if_neg (by omega), if_pos h1, if_pos (by omega)]
    · rw [if_neg h1]
      by_cases h2 : tot - each * k - each ≤ i ∧ i < tot - each * k
      · rw [if_pos h2, if_pos (by omega)]
        have e1 : (tot - 1 - i) / each = k := by
          rw [Nat.div_eq_iff he]
          rw [Nat.mul_comm] at h1 h2
          omega
        have e2 : (tot - 1 - i) % each = tot - each * k - 1 - i := by
          have := Nat.div_add_mod (tot - 1 - i) each
          rw [e1] at this
          omega
        rw [e1, e2]
      · rw [if_neg h2, if_neg (by omega)]
theorem rowL_1 (B : List Int) (n v : Nat) (hn : 0 < n) (hv : v < 18446744073709551616) : rowL (B.length + n) B B.length n 1 [(v : Int)] = B ++ be n v := by
  have h64 : B64 [v] := fun i => by
    match i with
    | 0 => simpa using hv
    | i + 1 => simp
  have hr : ∀ i, i < B.length + n → (rr (B.length + n) n 1 [(v : Int)] 1).getD i 0 = if i < B.length then 0 else (be n v).getD (i - B.length) 0 := fun i hi => by
    have := rr_n (B.length + n) n 1 [v] h64 hn 1 (by omega) i hi
    rw [show zs [v] = [(v : Int)] from rfl] at this
    rw [this]
    by_cases h : i < B.length
    · rw [if_pos h, if_neg (by omega)]
    · rw [if_neg h, if_pos (by omega), be_get _ _ _ (by omega), show (B.length + n - 1 - i) / n = 0 from Nat.div_eq_of_lt (by omega), show (B.length + n - 1 - i) % n = n - 1 - (i - B.length) by rw [Nat.mod_eq_of_lt (by omega)]; omega]
      rfl
  refine eqI_n (B.length + n) (rowL_len _ _ _ _ _ _) (by simp [be_len]) fun i hi => ?_
  unfold rowL
  rw [getD_app]
  by_cases h0 : B.length = 0
  · rw [if_pos h0, hr i hi, if_neg (by omega), if_neg (by omega)]
  · rw [if_neg h0, spl_getD _ _ _ _ _ _ hi, hr i hi, List.take_length]
    by_cases h : i < B.length
    · rw [if_pos (by omega), if_pos h]; rfl
    · rw [if_neg (by omega), if_neg h, if_neg h]
theorem rowL_4 (B : List Int) (v : Nat) : rowL (B.length + 8 * 4) B B.length 8 4 (zs [(wd v).getD 3 0, (wd v).getD 2 0, (wd v).getD 1 0, (wd v).getD 0 0]) = B ++ be 32 v := by
  have h64 : B64 [(wd v).getD 3 0, (wd v).getD 2 0, (wd v).getD 1 0, (wd v).getD 0 0] := fun i => by
    match i with
    | 0 => exact wd_B64 v 3
    | 1 => exact wd_B64 v 2
    | 2 => exact wd_B64 v 1
    | 3 => exact wd_B64 v 0
    | i + 4 => simp
  have hd : ∀ q, q < 4 → [(wd v).getD 3 0, (wd v).getD 2 0, (wd v).getD 1 0, (wd v).getD 0 0].getD (3 - q) 0 = v / 18446744073709551616 ^ q % 18446744073709551616 := fun q hq => by
    rw [wd_at _ _ (by omega), wd_at _ _ (by omega), wd_at _ _ (by omega), wd_at _ _ (by omega)]
    match q, hq with
    | 0, _ => rfl
    | 1, _ => rfl
    | 2, _ => rfl
    | 3, _ => rfl
  have hr : ∀ i, i < B.length + 8 * 4 → (rr (B.length + 8 * 4) 8 4 (zs [(wd v).getD 3 0, (wd v).getD 2 0, (wd v).getD 1 0, (wd v).getD 0 0]) 4).getD i 0 = if i < B.length then 0 else (be 32 v).getD (i - B.length) 0 := fun i hi => by
    rw [rr_n _ _ _ _ h64 (by omega) 4 (by omega) i hi]
    by_cases h : i < B.length
    · rw [if_pos h, if_neg (by omega)]
    · rw [if_neg h, if_pos (by omega), be_get _ _ _ (by omega), show 4 - 1 - (B.length + 8 * 4 - 1 - i) / 8 = 3 - (B.length + 8 * 4 - 1 - i) / 8 by omega, hd _ (by omega), show 32 - 1 - (i - B.length) = B.length + 8 * 4 - 1 - i by omega]
      congr 1
      generalize B.length + 8 * 4 - 1 - i = p
      have e1 : (18446744073709551616 : Nat) ^ (p / 8) = 256 ^ (8 * (p / 8)) := by rw [Nat.pow_mul]
      have hp : p % 8 < 8 := Nat.mod_lt _ (by omega)
      have e2 : (18446744073709551616 : Nat) = 256 ^ (p % 8) * (256 * 256 ^ (7 - p % 8)) := by
        rw [← Nat.mul_assoc, ← Nat.pow_succ, ← Nat.pow_add, show p % 8 + 1 + (7 - p % 8) = 8 by omega]
      rw [e1]
      generalize hx : v / 256 ^ (8 * (p / 8)) = x
      rw [show x % 18446744073709551616 = x % (256 ^ (p % 8) * (256 * 256 ^ (7 - p % 8))) by rw [← e2], Nat.mod_mul_right_div_self, Nat.mod_mul_right_mod, ← hx, Nat.div_div_eq_div_mul, ← Nat.pow_add, show 8 * (p / 8) + p % 8 = p by omega]
  refine eqI_n (B.length + 8 * 4) (rowL_len _ _ _ _ _ _) (by simp [be_len]) fun i hi => ?_
  unfold rowL
  rw [getD_app]
  by_cases h0 : B.length = 0
  · rw [if_pos h0, hr i hi, if_neg (by omega), if_neg (by omega)]
  · rw [if_neg h0, spl_getD _ _ _ _ _ _ hi, hr i hi, List.take_length]
    by_cases h : i < B.length
    · rw [if_pos (by omega), if_pos h]; rfl
    · rw [if_neg (by omega), if_neg h, if_neg h]
def U8' (l : List Int) : Prop := ∀ i, 0 ≤ l.getD i 0 ∧ l.getD i 0 < 256
def gN (w : List Int) : Nat → Nat
  | 0 => 0
  | i + 1 => 256 * gN w i + (w.getD i 0).toNat
theorem gN_lt {w : List Int} (h : U8' w) (i : Nat) : gN w i < 256 ^ i := by
  induction i with
  | zero => simp [gN]
  | succ i ih => have := h i; rw [gN, Nat.pow_succ]; omega
theorem gI_gN {w : List Int} (h : U8' w) (i : Nat) (hi : i ≤ 8) : gI w i = (gN w i : Int) := by
  induction i with
  | zero => rfl
  | succ i ih =>
    have h1 := gN_lt h i
    have h2 := h i
    have hp : (256 : Nat) ^ i ≤ 256 ^ 7 := Nat.pow_le_pow_right (by omega) (by omega)
    rw [gI, ih (by omega), gN]
    obtain ⟨b, hb⟩ : ∃ b : Nat, w.getD i 0 = (b : Int) := ⟨(w.getD i 0).toNat, by omega⟩
    rw [hb] at h2 ⊢
    have e1 : (256 : Int) * (gN w i : Int) = ((256 * gN w i : Nat) : Int) := by simp
    rw [e1, wrap64' (by omega), wrap64' (by omega), ← Int.natCast_add, wrap64' (by omega)]
    simp
theorem gN_app (A B : List Int) (i : Nat) (h : i ≤ A.length) : gN (A ++ B) i = gN A i := by
  induction i with
  | zero => rfl
  | succ i ih => rw [gN, gN, ih (by omega), getD_app, if_pos (by omega)]
theorem gN_take (A : List Int) (n i : Nat) (h : i ≤ n) : gN (A.take n) i = gN A i := by
  induction i with
  | zero => rfl
  | succ i ih => rw [gN, gN, ih (by omega), getD_take' _ _ _ (by omega)]
theorem gN_rep (k : Nat) (B : List Int) (i : Nat) : gN (List.replicate k 0 ++ B) (k + i) = gN B i := by
  induction i with
  | zero =>
    rw [Nat.add_zero, gN_app _ _ _ (by simp)]
    show _ = 0
    induction k with
    | zero => rfl
    | succ k ih =>
      rw [gN, getD_rep]
      have : gN (List.replicate (k + 1) 0) k = gN (List.replicate k 0) k := by
        rw [← gN_take _ k k (Nat.le_refl _)]; simp
      rw [this, ih]; rfl
  | succ i ih =>
    rw [← Nat.add_assoc, gN, ih, gN, getD_app, if_neg (by simp)]
    simp
theorem U8'_app {A B : List Int} (ha : U8' A) (hb : U8' B) : U8' (A ++ B) := fun i => by
  rw [getD_app]; split
  · exact ha i
  · exact hb _
theorem U8'_take {A : List Int} (ha : U8' A) (n : Nat) : U8' (A.take n) := fun i => by
  by_cases h : i < n
  · rw [getD_take' _ _ _ h]; exact ha i
  · rw [List.getD_eq_getElem?_getD, List.getElem?_eq_none (by simp; omega)]; simp
theorem U8'_drop {A : List Int} (ha : U8' A) (n : Nat) : U8' (A.drop n) := fun i => by rw [getD_drop']; exact ha _
theorem U8'_rep (n : Nat) : U8' (List.replicate n 0) := fun i => by rw [getD_rep]; omega
theorem U8'_be (n v : Nat) : U8' (be n v) := fun i => by
  by_cases h : i < n
  · rw [be_get _ _ _ h]; omega
  · rw [List.getD_eq_getElem?_getD, List.getElem?_eq_none (by rw [be_len]; omega)]; simp
theorem getI_n {B : List Int} (h : U8' B) (m : Nat) (h8 : m ≤ 8) (hm : m ≤ B.length) : getI B m = (gN B m : Int) := by
  unfold getI
  have e : spl (z 8) (B.take m) (8 - m) m 8 = List.replicate (8 - m) 0 ++ B.take m := by
    have hz : z 8 = List.replicate (8 - m) 0 ++ List.replicate m 0 := by rw [List.replicate_append_replicate, show 8 - m + m = 8 by omega]; rfl
    rw [hz]
    have := spl_app (List.replicate (8 - m) 0) (B.take m) (List.replicate m 0) (8 - m) m 8 (by simp) (by simp; omega) (by omega) (by simp; omega)
    rw [this]
    simp
  rw [e, gI_gN (U8'_app (U8'_rep _) (U8'_take h _)) 8 (Nat.le_refl _)]
  have := gN_rep (8 - m) (B.take m) m
  rw [show 8 - m + m = 8 by omega] at this
  rw [this, gN_take _ _ _ (Nat.le_refl _)]
end Go.Proofs.X
end

section
/- What the document's sums compute, on lists; it is what the program's compute. No program. -/
open Go Go.Bx
namespace Go.Proofs.X
def rdI (x : Int) (n : Nat) : Int := orK .u32 (shrK .u32 x n) (shlK .u32 x (32 - n : Nat))
theorem orK_comm32 (a b : Int) : orK .u32 a b = orK .u32 b a := by
  show IntKind.u32.wrap ((BitVec.ofInt 32 a ||| BitVec.ofInt 32 b).toNat : Int) = IntKind.u32.wrap ((BitVec.ofInt 32 b ||| BitVec.ofInt 32 a).toNat : Int)
  rw [BitVec.or_comm]
theorem wrap_u32 {x : Int} (h0 : 0 ≤ x) (h1 : x < 4294967296) : IntKind.u32.wrap x = x := by
  show x % 4294967296 = x
  omega
theorem wrap_u32_bv (x : BitVec 32) : IntKind.u32.wrap (x.toNat : Int) = (x.toNat : Int) := by
  have := x.isLt
  exact wrap_u32 (by omega) (by omega)
theorem ofInt_bv (x : BitVec 32) : BitVec.ofInt 32 (x.toNat : Int) = x := by simp
theorem orK_e (a b : Int) : orK .u32 a b = ((BitVec.ofInt 32 a ||| BitVec.ofInt 32 b).toNat : Int) := wrap_u32_bv _
theorem andK_e (a b : Int) : andK .u32 a b = ((BitVec.ofInt 32 a &&& BitVec.ofInt 32 b).toNat : Int) := wrap_u32_bv _
theorem xorK_e (a b : Int) : xorK .u32 a b = ((BitVec.ofInt 32 a ^^^ BitVec.ofInt 32 b).toNat : Int) := wrap_u32_bv _
theorem xorK_0 (a b : Int) : xorK .u32 0 (orK .u32 a b) = orK .u32 a b := by
  rw [xorK_e, orK_e, ofInt_bv]; simp
theorem rot_rd (x : Int) (n : Nat) (k : Int) (h1 : rs k = ((32 - n : Nat) : Int)) (h2 : IntKind.u64.wrap (32 - rs k) = (n : Int)) : rotI x k = rdI x n := by
  rw [rotI, h1] 
  rw [h1] at h2
  rw [h2, orK_comm32, rdI]
theorem dn2 (x : Int) (a b : Nat) (ha : rotI x (IntKind.i64.wrap (0 - (a : Int))) = rdI x a) (hb : rotI x (IntKind.i64.wrap (0 - (b : Int))) = rdI x b) : dnI x [(a : Int), (b : Int)] 2 = xorK .u32 (rdI x a) (rdI x b) := by
  have e : dnI x [(a : Int), (b : Int)] 2 = xorK .u32 (xorK .u32 0 (rotI x (IntKind.i64.wrap (0 - (a : Int))))) (rotI x (IntKind.i64.wrap (0 - (b : Int)))) := rfl
  rw [e, ha, hb, rdI, xorK_0]
theorem dn3 (x : Int) (a b c : Nat) (ha : rotI x (IntKind.i64.wrap (0 - (a : Int))) = rdI x a) (hb : rotI x (IntKind.i64.wrap (0 - (b : Int))) = rdI x b) (hc : rotI x (IntKind.i64.wrap (0 - (c : Int))) = rdI x c) : dnI x [(a : Int), (b : Int), (c : Int)] 3 = xorK .u32 (xorK .u32 (rdI x a) (rdI x b)) (rdI x c) := by
  have e : dnI x [(a : Int), (b : Int), (c : Int)] 3 = xorK .u32 (xorK .u32 (xorK .u32 0 (rotI x (IntKind.i64.wrap (0 - (a : Int))))) (rotI x (IntKind.i64.wrap (0 - (b : Int))))) (rotI x (IntKind.i64.wrap (0 - (c : Int)))) := rfl
  rw [e, ha, hb, hc, rdI, xorK_0]
theorem rsv {n : Nat} (h : (rs (IntKind.i64.wrap (0 - (n : Int))) == ((32 - n : Nat) : Int) && IntKind.u64.wrap (32 - rs (IntKind.i64.wrap (0 - (n : Int)))) == (n : Int)) = true) (x : Int) : rotI x (IntKind.i64.wrap (0 - (n : Int))) = rdI x n := by
  simp only [Bool.and_eq_true, beq_iff_eq] at h
  exact rot_rd x n _ h.1 h.2
theorem dn_7_18 (x : Int) : dnI x [7, 18] 2 = xorK .u32 (rdI x 7) (rdI x 18) := dn2 x 7 18 (rsv (by decide +kernel) x) (rsv (by decide +kernel) x)
theorem dn_17_19 (x : Int) : dnI x [17, 19] 2 = xorK .u32 (rdI x 17) (rdI x 19) := dn2 x 17 19 (rsv (by decide +kernel) x) (rsv (by decide +kernel) x)
theorem dn_6 (x : Int) : dnI x [6, 11, 25] 3 = xorK .u32 (xorK .u32 (rdI x 6) (rdI x 11)) (rdI x 25) := dn3 x 6 11 25 (rsv (by decide +kernel) x) (rsv (by decide +kernel) x) (rsv (by decide +kernel) x)
theorem dn_2 (x : Int) : dnI x [2, 13, 22] 3 = xorK .u32 (xorK .u32 (rdI x 2) (rdI x 13)) (rdI x 22) := dn3 x 2 13 22 (rsv (by decide +kernel) x) (rsv (by decide +kernel) x) (rsv (by decide +kernel) x)
theorem ch_eq (e f g : Int) : xorK .u32 (andK .u32 e f) (andK .u32 (comK .u32 e) g) = orK .u32 (andK .u32 e f) (andK .u32 (comK .u32 e) g) := by
  rw [xorK_e, orK_e, andK_e, andK_e, ofInt_bv, ofInt_bv]
  have hc : BitVec.ofInt 32 (comK .u32 e) = ~~~ BitVec.ofInt 32 e := by
    show BitVec.ofInt 32 (xorK .u32 4294967295 e) = _
    rw [xorK_e, ofInt_bv, show BitVec.ofInt 32 4294967295 = BitVec.allOnes 32 from rfl, BitVec.allOnes_xor]
  rw [hc]
  congr 2
  ext i hi
  simp
  cases (BitVec.ofInt 32 e)[i] <;> simp
theorem maj_eq (a b c : Int) : orK .u32 (orK .u32 (andK .u32 a b) (andK .u32 a c)) (andK .u32 b c) = xorK .u32 (andK .u32 a (xorK .u32 b c)) (andK .u32 b c) := by
  simp only [xorK_e, orK_e, andK_e, ofInt_bv]
  congr 2
  ext i hi
  simp
  cases (BitVec.ofInt 32 a)[i] <;> cases (BitVec.ofInt 32 b)[i] <;> cases (BitVec.ofInt 32 c)[i] <;> rfl
def be4 (b : List Int) (t : Nat) : Int := orK .u32 (orK .u32 (orK .u32 (shlK .u32 (IntKind.u32.wrap (b.getD (4 * t) 0)) 24) (shlK .u32 (IntKind.u32.wrap (b.getD (4 * t + 1) 0)) 16)) (shlK .u32 (IntKind.u32.wrap (b.getD (4 * t + 2) 0)) 8)) (IntKind.u32.wrap (b.getD (4 * t + 3) 0))
def w1L (b : List Int) : Nat → List Int
  | 0 => z 64
  | i + 1 => (w1L b i).set i (be4 b i)
theorem w1L_len (b : List Int) (i : Nat) : (w1L b i).length = 64 := by
  induction i with
  | zero => exact z_len _
  | succ i ih => rw [w1L, List.length_set, ih]
def sch (w : List Int) (j : Nat) : Int := IntKind.u32.wrap (IntKind.u32.wrap (IntKind.u32.wrap (w.getD j 0 + w.getD (j + 9) 0) + xorK .u32 (xorK .u32 (rdI (w.getD (j + 1) 0) 7) (rdI (w.getD (j + 1) 0) 18)) (shrK .u32 (w.getD (j + 1) 0) 3)) + xorK .u32 (xorK .u32 (rdI (w.getD (j + 14) 0) 17) (rdI (w.getD (j + 14) 0) 19)) (shrK .u32 (w.getD (j + 14) 0) 10))
def w2L (b : List Int) : Nat → List Int
  | 0 => w1L b 16
  | j + 1 => (w2L b j).set (j + 16) (sch (w2L b j) j)
theorem w2L_len (b : List Int) (j : Nat) : (w2L b j).length = 64 := by
  induction j with
  | zero => exact w1L_len _ _
  | succ i ih => rw [w2L, List.length_set, ih]
def rT (l : List Int) (k x : Int) : Int := IntKind.u32.wrap (IntKind.u32.wrap (IntKind.u32.wrap (IntKind.u32.wrap (l.getD 7 0 + xorK .u32 (xorK .u32 (rdI (l.getD 4 0) 6) (rdI (l.getD 4 0) 11)) (rdI (l.getD 4 0) 25)) + xorK .u32 (andK .u32 (l.getD 4 0) (l.getD 5 0)) (andK .u32 (comK .u32 (l.getD 4 0)) (l.getD 6 0))) + k) + x)
def rU (l : List Int) : Int := IntKind.u32.wrap (xorK .u32 (xorK .u32 (rdI (l.getD 0 0) 2) (rdI (l.getD 0 0) 13)) (rdI (l.getD 0 0) 22) + orK .u32 (orK .u32 (andK .u32 (l.getD 0 0) (l.getD 1 0)) (andK .u32 (l.getD 0 0) (l.getD 2 0))) (andK .u32 (l.getD 1 0) (l.getD 2 0)))
def rrd (l : List Int) (k x : Int) : List Int := [IntKind.u32.wrap (rT l k x + rU l), l.getD 0 0, l.getD 1 0, l.getD 2 0, IntKind.u32.wrap (l.getD 3 0 + rT l k x), l.getD 4 0, l.getD 5 0, l.getD 6 0]
theorem rT_eq (l : List Int) (k x : Int) : rT l k x = rP l k x := by rw [rT, rP, dn_6, ch_eq]
theorem rU_eq (l : List Int) : rU l = rQ l := by rw [rU, rQ, dn_2, maj_eq]
theorem rrd_eq (l : List Int) (k x : Int) (hl : l.length = 8) : rrd l k x = rnd l k x := by
  rw [rrd, rT_eq, rU_eq]
  match l, hl with
  | [a, b, c, d, e, f, g, h], _ => rfl
def rl (h W : List Int) : Nat → List Int
  | 0 => h
  | i + 1 => rrd (rl h W i) (KS.getD i 0) (W.getD i 0)
theorem rl_len (h W : List Int) (hh : h.length = 8) (i : Nat) : (rl h W i).length = 8 := by
  cases i with
  | zero => exact hh
  | succ i => rfl
def rblk (h b : List Int) : List Int := fin h (rl h (w2L b 48) 64) 8
def wv (b : List Int) (t : Nat) : Int := (ws b (t + 1)).getD (t % 16) 0
theorem getI_be4 {b : List Int} (hu : U8' b) (hb : b.length = 64) (t : Nat) (ht : t < 16) : IntKind.u32.wrap (getI ((b.drop (4 * t)).take (64 - 4 * t)) 4) = be4 b t := by
  have hu2 : U8' ((b.drop (4 * t)).take (64 - 4 * t)) := U8'_take (U8'_drop hu _) _
  rw [getI_n hu2 4 (by omega) (by rw [List.length_take, List.length_drop]; omega)]
  have hg : ∀ i, i < 4 → ((b.drop (4 * t)).take (64 - 4 * t)).getD i 0 = b.getD (4 * t + i) 0 := fun i hi => by rw [getD_take' _ _ _ (by omega), getD_drop']
  have e : gN ((b.drop (4 * t)).take (64 - 4 * t)) 4 = 256 * (256 * (256 * (256 * 0 + (b.getD (4 * t + 0) 0).toNat) + (b.getD (4 * t + 1) 0).toNat) + (b.getD (4 * t + 2) 0).toNat) + (b.getD (4 * t + 3) 0).toNat := by
    simp only [gN, hg 0 (by omega), hg 1 (by omega), hg 2 (by omega), hg 3 (by omega)]
  rw [e, be4, Nat.add_zero]
  have h0 := hu (4 * t); have h1 := hu (4 * t + 1); have h2 := hu (4 * t + 2); have h3 := hu (4 * t + 3)
  generalize b.getD (4 * t) 0 = a0 at *
  generalize b.getD (4 * t + 1) 0 = a1 at *
  generalize b.getD (4 * t + 2) 0 = a2 at *
  generalize b.getD (4 * t + 3) 0 = a3 at *
  obtain ⟨n0, rfl⟩ := Int.eq_ofNat_of_zero_le h0.1
  obtain ⟨n1, rfl⟩ := Int.eq_ofNat_of_zero_le h1.1
  obtain ⟨n2, rfl⟩ := Int.eq_ofNat_of_zero_le h2.1
  obtain ⟨n3, rfl⟩ := Int.eq_ofNat_of_zero_le h3.1
  have l0 : n0 < 256 := by omega
  have l1 : n1 < 256 := by omega
  have l2 : n2 < 256 := by omega
  have l3 : n3 < 256 := by omega
  have hs : ∀ (n s : Nat), n < 256 → s ≤ 24 → shlK .u32 (IntKind.u32.wrap (n : Int)) (s : Int) = ((n <<< s : Nat) : Int) := by
    intro n s hn hs
    have hlt : n <<< s < 4294967296 := by
      rw [Nat.shiftLeft_eq]
      calc n * 2 ^ s < 256 * 2 ^ s := Nat.mul_lt_mul_of_pos_right hn (Nat.two_pow_pos s)
        _ ≤ 256 * 2 ^ 24 := Nat.mul_le_mul_left _ (Nat.pow_le_pow_right (by omega) hs)
        _ = 4294967296 := rfl
    rw [wrap_u32 (by omega) (by omega)]
    show IntKind.u32.wrap ((n : Int) * 2 ^ min (s : Int).toNat 32) = _
    rw [show min (s : Int).toNat 32 = s by omega, show ((n : Int) * 2 ^ s) = ((n <<< s : Nat) : Int) by rw [Nat.shiftLeft_eq]; simp]
    exact wrap_u32 (Int.natCast_nonneg _) (Int.ofNat_lt.2 hlt)
  have ho : ∀ (x y : Nat), x < 4294967296 → y < 4294967296 → orK .u32 (x : Int) (y : Int) = ((x ||| y : Nat) : Int) := by
    intro x y hx hy
    rw [orK_e, BitVec.toNat_or, BitVec.toNat_ofInt, BitVec.toNat_ofInt]
    congr 1
    rw [show ((x : Int) % ((2 ^ 32 : Nat) : Int)).toNat = x by omega, show ((y : Int) % ((2 ^ 32 : Nat) : Int)).toNat = y by omega]
  have e24 := hs n0 24 l0 (by omega)
  have e16 := hs n1 16 l1 (by omega)
  have e8 := hs n2 8 l2 (by omega)
  have s24 : n0 <<< 24 = n0 * 16777216 := Nat.shiftLeft_eq _ _
  have s16 : n1 <<< 16 = n1 * 65536 := Nat.shiftLeft_eq _ _
  have s8 : n2 <<< 8 = n2 * 256 := Nat.shiftLeft_eq _ _
  have o1 : n0 <<< 24 ||| n1 <<< 16 = n0 <<< 24 + n1 <<< 16 := (Nat.shiftLeft_add_eq_or_of_lt (by rw [s16]; omega) _).symm
  have o2 : (n0 <<< 24 + n1 <<< 16) ||| n2 <<< 8 = n0 <<< 24 + n1 <<< 16 + n2 <<< 8 := by
    have q : n0 <<< 24 + n1 <<< 16 = (n0 * 256 + n1) <<< 16 := by rw [s24, s16, Nat.shiftLeft_eq]; omega
    rw [q]; exact (Nat.shiftLeft_add_eq_or_of_lt (by rw [s8]; omega) _).symm
  have o3 : (n0 <<< 24 + n1 <<< 16 + n2 <<< 8) ||| n3 = n0 <<< 24 + n1 <<< 16 + n2 <<< 8 + n3 := by
    have q : n0 <<< 24 + n1 <<< 16 + n2 <<< 8 = (n0 * 65536 + n1 * 256 + n2) <<< 8 := by rw [s24, s16, s8, Nat.shiftLeft_eq]; omega
    rw [q]; exact (Nat.shiftLeft_add_eq_or_of_lt (by omega) _).symm
  have e24' : shlK .u32 (IntKind.u32.wrap (n0 : Int)) 24 = ((n0 <<< 24 : Nat) : Int) := e24
  have e16' : shlK .u32 (IntKind.u32.wrap (n1 : Int)) 16 = ((n1 <<< 16 : Nat) : Int) := e16
  have e8' : shlK .u32 (IntKind.u32.wrap (n2 : Int)) 8 = ((n2 <<< 8 : Nat) : Int) := e8
  rw [e24', e16', e8', wrap_u32 (x := (n3 : Int)) (by omega) (by omega), ho _ _ (by rw [s24]; omega) (by rw [s16]; omega), o1, ho _ _ (by rw [s24, s16]; omega) (by rw [s8]; omega), o2, ho _ _ (by rw [s24, s16, s8]; omega) (by omega), o3, s24, s16, s8, wrap_u32 (by omega) (by omega)]
  simp only [Int.toNat_natCast]
  omega
theorem ws_keep (b : List Int) (t i : Nat) (hne : t % 16 ≠ i) : (ws b (t + 1)).getD i 0 = (ws b t).getD i 0 := by
  rw [ws_s]
  have hs : ∀ (l : List Int) (v : Int), (l.set (t % 16) v).getD i 0 = l.getD i 0 := fun l v => by
    simp only [List.getD_eq_getElem?_getD, List.getElem?_set, if_neg hne]
  by_cases h : t < 16
  · rw [wn_lt _ _ h, hs]
  · rw [wn_ge _ _ h, wn3, hs, wn2, hs, wn1, hs]
theorem ws_ring (b : List Int) (t j : Nat) (hj : j < t) (ht : t ≤ j + 16) : (ws b t).getD (j % 16) 0 = wv b j := by
  induction t with
  | zero => omega
  | succ t ih =>
    by_cases h : j = t
    · subst h; rfl
    · rw [ws_keep b t _ (by omega)]
      exact ih (by omega) (by omega)
theorem wv_lt {b : List Int} (hu : U8' b) (hb : b.length = 64) (t : Nat) (ht : t < 16) : wv b t = be4 b t := by
  rw [wv, ws_s, wn_lt _ _ ht, setDI _ _ _ _ (by rw [ws_len]; omega), if_pos rfl]
  exact getI_be4 hu hb t ht
theorem wv_ge (b : List Int) (j : Nat) : wv b (j + 16) = IntKind.u32.wrap (IntKind.u32.wrap (IntKind.u32.wrap (wv b j + xorK .u32 (dnI (wv b (j + 1)) [7, 18] 2) (shrK .u32 (wv b (j + 1)) 3)) + xorK .u32 (dnI (wv b (j + 14)) [17, 19] 2) (shrK .u32 (wv b (j + 14)) 10)) + wv b (j + 9)) := by
  have hl := ws_len b (j + 16)
  have hm : (j + 16) % 16 < 16 := Nat.mod_lt _ (by omega)
  have r0 : (ws b (j + 16)).getD ((j + 16) % 16) 0 = wv b j := by
    rw [show (j + 16) % 16 = j % 16 by omega]; exact ws_ring b _ _ (by omega) (by omega)
  have r1 : (ws b (j + 16)).getD ((j + 16 + 1) % 16) 0 = wv b (j + 1) := by
    rw [show (j + 16 + 1) % 16 = (j + 1) % 16 by omega]; exact ws_ring b _ _ (by omega) (by omega)
  have r14 : (ws b (j + 16)).getD ((j + 16 + 14) % 16) 0 = wv b (j + 14) := by
    rw [show (j + 16 + 14) % 16 = (j + 14) % 16 by omega]; exact ws_ring b _ _ (by omega) (by omega)
  have r9 : (ws b (j + 16)).getD ((j + 16 + 9) % 16) 0 = wv b (j + 9) := by
    rw [show (j + 16 + 9) % 16 = (j + 9) % 16 by omega]; exact ws_ring b _ _ (by omega) (by omega)
  have hs : ∀ (l : List Int) (v : Int) (i : Nat), l.length = 16 → i < 16 → (l.set ((j + 16) % 16) v).getD i 0 = if (j + 16) % 16 = i then v else l.getD i 0 := fun l v i hl hi => by
    simp only [List.getD_eq_getElem?_getD, List.getElem?_set]
    by_cases h : (j + 16) % 16 = i
    · rw [if_pos h, if_pos h, if_pos (by omega)]; rfl
    · rw [if_neg h, if_neg h]
  rw [wv, ws_s, wn_ge _ _ (by omega), wn3, hs _ _ _ (by simp [wn2, wn1, hl]) hm, if_pos rfl, wn2, hs _ _ _ (by simp [wn1, hl]) hm, if_pos rfl, hs _ _ _ (by simp [wn1, hl]) (Nat.mod_lt _ (by omega)), if_neg (by omega), wn1, hs _ _ _ hl hm, if_pos rfl, hs _ _ _ hl (Nat.mod_lt _ (by omega)), if_neg (by omega), r0, r1, r14, r9]
theorem w1L_get {b : List Int} (hu : U8' b) (hb : b.length = 64) (i t : Nat) (hi : i ≤ 16) (ht : t < i) : (w1L b i).getD t 0 = wv b t := by
  induction i with
  | zero => omega
  | succ i ih =>
    rw [w1L, setDI _ _ _ _ (by rw [w1L_len]; omega)]
    by_cases h : i = t
    · subst h; rw [if_pos rfl, wv_lt hu hb _ (by omega)]
    · rw [if_neg h]; exact ih (by omega) (by omega)
theorem w2L_get {b : List Int} (hu : U8' b) (hb : b.length = 64) (j t : Nat) (hj : j ≤ 48) (ht : t < j + 16) : (w2L b j).getD t 0 = wv b t := by
  induction j generalizing t with
  | zero => exact w1L_get hu hb 16 t (by omega) ht
  | succ j ih =>
    rw [w2L, setDI _ _ _ _ (by rw [w2L_len]; omega)]
    by_cases h : j + 16 = t
    · subst h
      rw [if_pos rfl, sch, ih j (by omega) (by omega), ih (j + 9) (by omega) (by omega), ih (j + 1) (by omega) (by omega), ih (j + 14) (by omega) (by omega), wv_ge, dn_7_18, dn_17_19]
      have key : ∀ a c d e : Int, IntKind.u32.wrap (IntKind.u32.wrap (IntKind.u32.wrap (a + c) + d) + e) = IntKind.u32.wrap (IntKind.u32.wrap (IntKind.u32.wrap (a + d) + e) + c) := fun a c d e => by
        show (((a + c) % 4294967296 + d) % 4294967296 + e) % 4294967296 = (((a + d) % 4294967296 + e) % 4294967296 + c) % 4294967296
        omega
      exact key _ _ _ _
    · rw [if_neg h]; exact ih t (by omega) (by omega)
theorem rl_eq {h b : List Int} (hh : h.length = 8) (hu : U8' b) (hb : b.length = 64) (i : Nat) (hi : i ≤ 64) : rl h (w2L b 48) i = ls h b i := by
  induction i with
  | zero => rfl
  | succ i ih => rw [rl, ih (by omega), ls, w2L_get hu hb 48 i (by omega) (by omega), rrd_eq _ _ _ (ls_len _ _ hh _)]; rfl
theorem rblk_eq {h b : List Int} (hh : h.length = 8) (hu : U8' b) (hb : b.length = 64) : rblk h b = aft h b := by
  rw [rblk, rl_eq hh hu hb 64 (by omega), aft]
def rfb (A : List Int) : Nat → List Int
  | 0 => S0
  | k + 1 => aft (rfb A k) ((A.drop (64 * k)).take 64)
theorem rfb_len (A : List Int) (k : Nat) : (rfb A k).length = 8 := by
  induction k with
  | zero => rfl
  | succ k ih => exact aft_len _ _ ih
theorem spl_all (xs ys : List Int) (h : ys.length = 64) : spl xs ys 0 64 64 = ys := by
  refine eqI_n 64 (spl_len _ _ _ _ _) h fun i hi => ?_
  rw [spl_getD _ _ _ _ _ _ hi, if_pos (by omega), Nat.sub_zero]
theorem tk_fb (A : List Int) (n : Nat) (hA : A.length = 64 * n) (k : Nat) (hk : k ≤ n) : (tk run0 (A.take (64 * k))).s = rfb A k ∧ (tk run0 (A.take (64 * k))).m = 0 := by
  induction k with
  | zero => exact ⟨rfl, rfl⟩
  | succ k ih =>
    obtain ⟨h1, h2⟩ := ih (by omega)
    have e : A.take (64 * (k + 1)) = A.take (64 * k) ++ (A.drop (64 * k)).take 64 := by rw [Nat.mul_succ, List.take_add]
    have hl : ((A.drop (64 * k)).take 64).length = 64 := by rw [List.length_take, List.length_drop]; omega
    rw [e, tk_append, tk_chunk _ (tk_ok run0_ok _) _ 64 hl (by rw [h2]; exact Nat.le_refl _) (by omega), chunk, if_pos (by rw [h2])]
    refine ⟨?_, rfl⟩
    show aft _ _ = _
    rw [h2, spl_all _ _ hl, h1]; rfl
theorem tk_m (A : List Int) : (tk run0 A).m = A.length % 64 := by
  have key : ∀ (A : List Int) (q : Run), RunOk q → (tk q A).m = (q.m + A.length) % 64 := by
    intro A
    induction A with
    | nil => intro q h; have := h.m; show q.m = _; simp; omega
    | cons x A ih =>
      intro q h
      have := ih _ (put1_ok h x)
      show (tk (put1 q x) A).m = _
      rw [this]
      have hm := h.m
      have hp : (put1 q x).m = (q.m + 1) % 64 := by
        unfold put1
        split
        · show 0 = _; omega
        · show q.m + 1 = _; omega
      rw [hp, List.length_cons]
      omega
  have := key A run0 run0_ok
  rw [this]
  show (0 + A.length) % 64 = _
  rw [Nat.zero_add]
def rpadN (B : List Int) : Nat := (119 - B.length % 64) % 64
def rpad (B : List Int) : List Int := B ++ [128] ++ List.replicate (rpadN B) 0 ++ be 8 (8 * B.length)
theorem rpad_len (B : List Int) : (rpad B).length = 64 * ((B.length + 1 + rpadN B + 8) / 64) := by
  simp only [rpad, List.length_append, List.length_cons, List.length_nil, List.length_replicate, be_len, rpadN]
  omega
def rob (s : List Int) : Nat → List Int
  | 0 => z 32
  | i + 1 => (rob s i).set i (IntKind.u8.wrap (shrK .u32 (s.getD (i / 4) 0) ((24 - 8 * (i % 4) : Nat) : Int)))
theorem rob_len (s : List Int) (i : Nat) : (rob s i).length = 32 := by
  induction i with
  | zero => exact z_len _
  | succ i ih => rw [rob, List.length_set, ih]
def rsumL (B : List Int) : List Int := rob (rfb (rpad B) ((rpad B).length / 64)) 32
end Go.Proofs.X
end
