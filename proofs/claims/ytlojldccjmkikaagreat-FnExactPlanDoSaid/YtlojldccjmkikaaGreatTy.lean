/- Facts on the types and functions of this seat. -/
import Derived.Test.YtlojldccjmkikaaGreatA5
import Derived.Test.YtlojldccjmkikaaGreatProg
import Derived.KernelRfl
set_option linter.unusedVariables false
set_option linter.unusedSimpArgs false
-- Facts on the types and functions of this seat, by a program of our own (wip/gen/gentypes.py).
namespace Go.Proofs.YtlojldccjmkikaaGreat
open Go.Ae
theorem ty3 : tyOf Tryz.prog 3 = some ⟨1, 8, false, [.int .i64 0], none, [], false, some .i64⟩ := by kernel_rfl
theorem ty4 : tyOf Tryz.prog 4 = some ⟨1, 1, false, [.bool false], none, [], false, none⟩ := by kernel_rfl
theorem un4 : Tryz.prog.underlying 4 = some .bool := by kernel_rfl
theorem ty5 : tyOf Tryz.prog 5 = some ⟨1, 1, false, [.int .u8 0], none, [], false, some .u8⟩ := by kernel_rfl
theorem ty9 : tyOf Tryz.prog 9 = some ⟨1, 16, false, [.string ⟨#[]⟩], none, [], true, none⟩ := by kernel_rfl
theorem ty22 : tyOf Tryz.prog 22 = some ⟨1, 24, false, [.slice none 0 0], some 5, [], false, none⟩ := by kernel_rfl
theorem ty23 : tyOf Tryz.prog 23 = some ⟨1, 24, false, [.slice none 0 0], some 103, [], false, none⟩ := by kernel_rfl
theorem ty24 : tyOf Tryz.prog 24 = some ⟨1, 24, false, [.slice none 0 0], some 105, [], false, none⟩ := by kernel_rfl
theorem ty25 : tyOf Tryz.prog 25 = some ⟨1, 24, false, [.slice none 0 0], some 3, [], false, none⟩ := by kernel_rfl
theorem ty27 : tyOf Tryz.prog 27 = some ⟨6, 56, true, [.int .i64 0, .int .i64 0, .int .i64 0, .int .i64 0, .int .i64 0, .string ⟨#[]⟩], none, [some (0, 1), some (1, 1), some (2, 1), some (3, 1), some (4, 1), some (5, 1)], false, none⟩ := by kernel_rfl
theorem ty29 : tyOf Tryz.prog 29 = some ⟨23, 240, true, [.int .i64 0, .int .i64 0, .int .i64 0, .int .i64 0, .int .i64 0, .int .i64 0, .int .i64 0, .bool false, .slice none 0 0, .int .i64 0, .int .i64 0, .int .i64 0, .slice none 0 0, .int .i64 0, .int .i64 0, .int .i64 0, .slice none 0 0, .int .i64 0, .int .i64 0, .int .i64 0, .int .i64 0, .int .i64 0, .string ⟨#[]⟩], none, [some (0, 1), some (1, 1), some (2, 1), some (3, 1), some (4, 1), some (5, 1), some (6, 1), some (7, 1), some (8, 1), some (9, 1), some (10, 1), some (11, 1), some (12, 1), some (13, 1), some (14, 1), some (15, 1), some (16, 1), some (17, 6)], false, none⟩ := by kernel_rfl
theorem ty33 : tyOf Tryz.prog 33 = some ⟨1, 24, false, [.slice none 0 0], some 148, [], false, none⟩ := by kernel_rfl
theorem ty35 : tyOf Tryz.prog 35 = some ⟨3, 40, true, [.int .i64 0, .int .i64 0, .slice none 0 0], none, [some (0, 1), some (1, 1), some (2, 1)], false, none⟩ := by kernel_rfl
theorem ty36 : tyOf Tryz.prog 36 = some ⟨1, 24, false, [.slice none 0 0], some 122, [], false, none⟩ := by kernel_rfl
theorem ty38 : tyOf Tryz.prog 38 = some ⟨7, 88, true, [.int .i64 0, .int .i64 0, .int .i64 0, .slice none 0 0, .slice none 0 0, .int .i64 0, .int .i64 0], none, [some (0, 1), some (1, 3), some (4, 1), some (5, 1), some (6, 1)], false, none⟩ := by kernel_rfl
theorem ty39 : tyOf Tryz.prog 39 = some ⟨6, 56, true, [.int .i64 0, .int .i64 0, .int .i64 0, .int .i64 0, .int .i64 0, .string ⟨#[]⟩], none, [some (0, 1), some (1, 1), some (2, 1), some (3, 1), some (4, 1), some (5, 1)], false, none⟩ := by kernel_rfl
theorem ty42 : tyOf Tryz.prog 42 = some ⟨1, 24, false, [.slice none 0 0], some 144, [], false, none⟩ := by kernel_rfl
theorem ty44 : tyOf Tryz.prog 44 = some ⟨3, 40, true, [.int .i64 0, .int .i64 0, .slice none 0 0], none, [some (0, 1), some (1, 1), some (2, 1)], false, none⟩ := by kernel_rfl
theorem ty45 : tyOf Tryz.prog 45 = some ⟨1, 24, false, [.slice none 0 0], some 82, [], false, none⟩ := by kernel_rfl
theorem ty47 : tyOf Tryz.prog 47 = some ⟨7, 88, true, [.int .i64 0, .int .i64 0, .int .i64 0, .slice none 0 0, .slice none 0 0, .int .i64 0, .int .i64 0], none, [some (0, 1), some (1, 3), some (4, 1), some (5, 1), some (6, 1)], false, none⟩ := by kernel_rfl
theorem ty54 : tyOf Tryz.prog 54 = some ⟨1, 24, false, [.slice none 0 0], some 39, [], false, none⟩ := by kernel_rfl
theorem ty57 : tyOf Tryz.prog 57 = some ⟨1, 24, false, [.slice none 0 0], some 27, [], false, none⟩ := by kernel_rfl
theorem ty63 : tyOf Tryz.prog 63 = some ⟨1, 8, false, [.pointer none], none, [], false, none⟩ := by kernel_rfl
theorem ty66 : tyOf Tryz.prog 66 = some ⟨1, 8, false, [.nilFunc], none, [], false, none⟩ := by kernel_rfl
theorem ty82 : tyOf Tryz.prog 82 = some ⟨3, 24, true, [.int .i64 0, .int .i64 0, .int .i64 0], none, [some (0, 1), some (1, 1), some (2, 1)], false, none⟩ := by kernel_rfl
theorem ty91 : tyOf Tryz.prog 91 = some ⟨1, 24, false, [.slice none 0 0], some 47, [], false, none⟩ := by kernel_rfl
theorem ty101 : tyOf Tryz.prog 101 = some ⟨2, 32, true, [.slice none 0 0, .int .i64 0], none, [some (0, 1), some (1, 1)], false, none⟩ := by kernel_rfl
theorem ty103 : tyOf Tryz.prog 103 = some ⟨7, 64, true, [.int .i64 0, .int .i64 0, .int .i64 0, .int .i64 0, .int .i64 0, .int .i64 0, .string ⟨#[]⟩], none, [some (0, 1), some (1, 6)], false, none⟩ := by kernel_rfl
theorem ty105 : tyOf Tryz.prog 105 = some ⟨2, 16, true, [.int .i64 0, .int .i64 0], none, [some (0, 1), some (1, 1)], false, none⟩ := by kernel_rfl
theorem ty108 : tyOf Tryz.prog 108 = some ⟨1, 8, false, [.nilFunc], none, [], false, none⟩ := by kernel_rfl
theorem ty110 : tyOf Tryz.prog 110 = some ⟨1, 8, false, [.nilFunc], none, [], false, none⟩ := by kernel_rfl
theorem ty122 : tyOf Tryz.prog 122 = some ⟨3, 24, true, [.int .i64 0, .int .i64 0, .int .i64 0], none, [some (0, 1), some (1, 1), some (2, 1)], false, none⟩ := by kernel_rfl
theorem ty123 : tyOf Tryz.prog 123 = some ⟨1, 8, false, [.nilFunc], none, [], false, none⟩ := by kernel_rfl
theorem ty125 : tyOf Tryz.prog 125 = some ⟨1, 8, false, [.nilFunc], none, [], false, none⟩ := by kernel_rfl
theorem ty130 : tyOf Tryz.prog 130 = some ⟨1, 8, false, [.nilFunc], none, [], false, none⟩ := by kernel_rfl
theorem ty137 : tyOf Tryz.prog 137 = some ⟨1, 8, false, [.pointer none], none, [], false, none⟩ := by kernel_rfl
theorem ty141 : tyOf Tryz.prog 141 = some ⟨1, 24, false, [.slice none 0 0], some 9, [], false, none⟩ := by kernel_rfl
theorem ty144 : tyOf Tryz.prog 144 = some ⟨3, 24, true, [.int .i64 0, .int .i64 0, .int .i64 0], none, [some (0, 1), some (1, 1), some (2, 1)], false, none⟩ := by kernel_rfl
theorem ty148 : tyOf Tryz.prog 148 = some ⟨3, 24, true, [.int .i64 0, .int .i64 0, .int .i64 0], none, [some (0, 1), some (1, 1), some (2, 1)], false, none⟩ := by kernel_rfl
theorem ty151 : tyOf Tryz.prog 151 = some ⟨1, 8, false, [.pointer none], none, [], false, none⟩ := by kernel_rfl
theorem ty152 : tyOf Tryz.prog 152 = some ⟨1, 8, false, [.int .u64 0], none, [], false, some .u64⟩ := by kernel_rfl
theorem ty156 : tyOf Tryz.prog 156 = some ⟨1, 24, false, [.slice none 0 0], some 192, [], false, none⟩ := by kernel_rfl
theorem ty157 : tyOf Tryz.prog 157 = some ⟨1, 24, false, [.slice none 0 0], some 29, [], false, none⟩ := by kernel_rfl
theorem ty158 : tyOf Tryz.prog 158 = some ⟨1, 24, false, [.slice none 0 0], some 213, [], false, none⟩ := by kernel_rfl
theorem ty160 : tyOf Tryz.prog 160 = some ⟨4, 80, true, [.int .i64 0, .slice none 0 0, .slice none 0 0, .slice none 0 0], none, [some (0, 1), some (1, 1), some (2, 1), some (3, 1)], false, none⟩ := by kernel_rfl
theorem ty164 : tyOf Tryz.prog 164 = some ⟨6, 112, true, [.pointer none, .int .i64 0, .slice none 0 0, .slice none 0 0, .slice none 0 0, .slice none 0 0], none, [some (0, 1), some (1, 4), some (5, 1)], false, none⟩ := by kernel_rfl
theorem ty167 : tyOf Tryz.prog 167 = some ⟨1, 24, false, [.slice none 0 0], some 199, [], false, none⟩ := by kernel_rfl
theorem ty168 : tyOf Tryz.prog 168 = some ⟨1, 24, false, [.slice none 0 0], some 201, [], false, none⟩ := by kernel_rfl
theorem ty170 : tyOf Tryz.prog 170 = some ⟨3, 72, true, [.slice none 0 0, .slice none 0 0, .slice none 0 0], none, [some (0, 1), some (1, 1), some (2, 1)], false, none⟩ := by kernel_rfl
theorem ty176 : tyOf Tryz.prog 176 = some ⟨1, 8, false, [.pointer none], none, [], false, none⟩ := by kernel_rfl
theorem ty177 : tyOf Tryz.prog 177 = some ⟨1, 8, false, [.pointer none], none, [], false, none⟩ := by kernel_rfl
theorem ty179 : tyOf Tryz.prog 179 = some ⟨1, 8, false, [.nilFunc], none, [], false, none⟩ := by kernel_rfl
theorem ty182 : tyOf Tryz.prog 182 = some ⟨1, 8, false, [.nilFunc], none, [], false, none⟩ := by kernel_rfl
theorem ty184 : tyOf Tryz.prog 184 = some ⟨9, 120, true, [.int .i64 0, .int .i64 0, .int .i64 0, .slice none 0 0, .int .i64 0, .int .i64 0, .slice none 0 0, .slice none 0 0, .int .i64 0], none, [some (0, 1), some (1, 1), some (2, 1), some (3, 1), some (4, 1), some (5, 1), some (6, 1), some (7, 1), some (8, 1)], false, none⟩ := by kernel_rfl
theorem ty185 : tyOf Tryz.prog 185 = some ⟨1, 24, false, [.slice none 0 0], some 221, [], false, none⟩ := by kernel_rfl
theorem ty186 : tyOf Tryz.prog 186 = some ⟨1, 24, false, [.slice none 0 0], some 225, [], false, none⟩ := by kernel_rfl
theorem ty187 : tyOf Tryz.prog 187 = some ⟨1, 24, false, [.slice none 0 0], some 228, [], false, none⟩ := by kernel_rfl
theorem ty188 : tyOf Tryz.prog 188 = some ⟨1, 24, false, [.slice none 0 0], some 223, [], false, none⟩ := by kernel_rfl
theorem ty190 : tyOf Tryz.prog 190 = some ⟨8, 160, true, [.int .i64 0, .int .i64 0, .slice none 0 0, .slice none 0 0, .slice none 0 0, .slice none 0 0, .slice none 0 0, .slice none 0 0], none, [some (0, 1), some (1, 1), some (2, 1), some (3, 1), some (4, 1), some (5, 1), some (6, 1), some (7, 1)], false, none⟩ := by kernel_rfl
theorem ty192 : tyOf Tryz.prog 192 = some ⟨18, 288, true, [.bool false, .int .i64 0, .int .i64 0, .int .i64 0, .slice none 0 0, .int .i64 0, .int .i64 0, .slice none 0 0, .slice none 0 0, .int .i64 0, .int .i64 0, .int .i64 0, .slice none 0 0, .slice none 0 0, .slice none 0 0, .slice none 0 0, .slice none 0 0, .slice none 0 0], none, [some (0, 1), some (1, 9), some (10, 8)], false, none⟩ := by kernel_rfl
theorem ty199 : tyOf Tryz.prog 199 = some ⟨3, 24, true, [.int .i64 0, .int .i64 0, .int .i64 0], none, [some (0, 1), some (1, 1), some (2, 1)], false, none⟩ := by kernel_rfl
theorem ty201 : tyOf Tryz.prog 201 = some ⟨3, 24, true, [.int .i64 0, .int .i64 0, .int .i64 0], none, [some (0, 1), some (1, 1), some (2, 1)], false, none⟩ := by kernel_rfl
theorem ty213 : tyOf Tryz.prog 213 = some ⟨11, 112, true, [.int .i64 0, .int .i64 0, .int .i64 0, .int .i64 0, .int .i64 0, .string ⟨#[]⟩, .int .i64 0, .int .i64 0, .bool false, .int .i64 0, .slice none 0 0], none, [some (0, 6), some (6, 1), some (7, 1), some (8, 1), some (9, 1), some (10, 1)], false, none⟩ := by kernel_rfl
theorem ty221 : tyOf Tryz.prog 221 = some ⟨3, 40, true, [.int .i64 0, .int .i64 0, .slice none 0 0], none, [some (0, 1), some (1, 1), some (2, 1)], false, none⟩ := by kernel_rfl
theorem ty223 : tyOf Tryz.prog 223 = some ⟨4, 48, true, [.int .i64 0, .int .i64 0, .int .i64 0, .slice none 0 0], none, [some (0, 1), some (1, 1), some (2, 1), some (3, 1)], false, none⟩ := by kernel_rfl
theorem ty225 : tyOf Tryz.prog 225 = some ⟨4, 64, true, [.int .i64 0, .int .i64 0, .slice none 0 0, .slice none 0 0], none, [some (0, 1), some (1, 1), some (2, 1), some (3, 1)], false, none⟩ := by kernel_rfl
theorem ty228 : tyOf Tryz.prog 228 = some ⟨4, 64, true, [.int .i64 0, .int .i64 0, .slice none 0 0, .slice none 0 0], none, [some (0, 1), some (1, 1), some (2, 1), some (3, 1)], false, none⟩ := by kernel_rfl
theorem el22 : elemTy Tryz.prog 22 = tyOf Tryz.prog 5 := by unfold elemTy; rw [ty22]
theorem el23 : elemTy Tryz.prog 23 = tyOf Tryz.prog 103 := by unfold elemTy; rw [ty23]
theorem el24 : elemTy Tryz.prog 24 = tyOf Tryz.prog 105 := by unfold elemTy; rw [ty24]
theorem el25 : elemTy Tryz.prog 25 = tyOf Tryz.prog 3 := by unfold elemTy; rw [ty25]
theorem fk27 : flatKinds Tryz.prog 27 = some [0, 0, 0, 0, 0, 2] := by kernel_rfl
theorem el33 : elemTy Tryz.prog 33 = tyOf Tryz.prog 148 := by unfold elemTy; rw [ty33]
theorem el36 : elemTy Tryz.prog 36 = tyOf Tryz.prog 122 := by unfold elemTy; rw [ty36]
theorem fk39 : flatKinds Tryz.prog 39 = some [0, 0, 0, 0, 0, 2] := by kernel_rfl
theorem el42 : elemTy Tryz.prog 42 = tyOf Tryz.prog 144 := by unfold elemTy; rw [ty42]
theorem el45 : elemTy Tryz.prog 45 = tyOf Tryz.prog 82 := by unfold elemTy; rw [ty45]
theorem el54 : elemTy Tryz.prog 54 = tyOf Tryz.prog 39 := by unfold elemTy; rw [ty54]
theorem el57 : elemTy Tryz.prog 57 = tyOf Tryz.prog 27 := by unfold elemTy; rw [ty57]
theorem fk82 : flatKinds Tryz.prog 82 = some [0, 0, 0] := by kernel_rfl
theorem el91 : elemTy Tryz.prog 91 = tyOf Tryz.prog 47 := by unfold elemTy; rw [ty91]
theorem fk105 : flatKinds Tryz.prog 105 = some [0, 0] := by kernel_rfl
theorem fk122 : flatKinds Tryz.prog 122 = some [0, 0, 0] := by kernel_rfl
theorem el141 : elemTy Tryz.prog 141 = tyOf Tryz.prog 9 := by unfold elemTy; rw [ty141]
theorem fk144 : flatKinds Tryz.prog 144 = some [0, 0, 0] := by kernel_rfl
theorem fk148 : flatKinds Tryz.prog 148 = some [0, 0, 0] := by kernel_rfl
theorem el156 : elemTy Tryz.prog 156 = tyOf Tryz.prog 192 := by unfold elemTy; rw [ty156]
theorem el157 : elemTy Tryz.prog 157 = tyOf Tryz.prog 29 := by unfold elemTy; rw [ty157]
theorem el158 : elemTy Tryz.prog 158 = tyOf Tryz.prog 213 := by unfold elemTy; rw [ty158]
theorem el167 : elemTy Tryz.prog 167 = tyOf Tryz.prog 199 := by unfold elemTy; rw [ty167]
theorem el168 : elemTy Tryz.prog 168 = tyOf Tryz.prog 201 := by unfold elemTy; rw [ty168]
theorem el185 : elemTy Tryz.prog 185 = tyOf Tryz.prog 221 := by unfold elemTy; rw [ty185]
theorem el186 : elemTy Tryz.prog 186 = tyOf Tryz.prog 225 := by unfold elemTy; rw [ty186]
theorem el187 : elemTy Tryz.prog 187 = tyOf Tryz.prog 228 := by unfold elemTy; rw [ty187]
theorem el188 : elemTy Tryz.prog 188 = tyOf Tryz.prog 223 := by unfold elemTy; rw [ty188]
theorem fk199 : flatKinds Tryz.prog 199 = some [0, 0, 0] := by kernel_rfl
theorem fk201 : flatKinds Tryz.prog 201 = some [0, 0, 0] := by kernel_rfl
theorem ft82_1 : fieldTy Tryz.prog 82 1 = some (1, 1, false) := by kernel_rfl
theorem hb4 : hasBody Tryz.prog 4 = true := by kernel_rfl
theorem hb9 : hasBody Tryz.prog 9 = true := by kernel_rfl
theorem hb10 : hasBody Tryz.prog 10 = true := by kernel_rfl
theorem hb11 : hasBody Tryz.prog 11 = true := by kernel_rfl
theorem hb12 : hasBody Tryz.prog 12 = true := by kernel_rfl
theorem hb13 : hasBody Tryz.prog 13 = true := by kernel_rfl
theorem hb14 : hasBody Tryz.prog 14 = true := by kernel_rfl
theorem hb15 : hasBody Tryz.prog 15 = true := by kernel_rfl
theorem hb16 : hasBody Tryz.prog 16 = true := by kernel_rfl
theorem hb17 : hasBody Tryz.prog 17 = true := by kernel_rfl
theorem hb26 : hasBody Tryz.prog 26 = true := by kernel_rfl
theorem hb33 : hasBody Tryz.prog 33 = true := by kernel_rfl
theorem hb38 : hasBody Tryz.prog 38 = true := by kernel_rfl
theorem hb39 : hasBody Tryz.prog 39 = true := by kernel_rfl
theorem hb40 : hasBody Tryz.prog 40 = true := by kernel_rfl
theorem hb41 : hasBody Tryz.prog 41 = true := by kernel_rfl
theorem hb42 : hasBody Tryz.prog 42 = true := by kernel_rfl
theorem hb43 : hasBody Tryz.prog 43 = true := by kernel_rfl
theorem hb44 : hasBody Tryz.prog 44 = true := by kernel_rfl
theorem hb45 : hasBody Tryz.prog 45 = true := by kernel_rfl
theorem hb46 : hasBody Tryz.prog 46 = true := by kernel_rfl
theorem hb47 : hasBody Tryz.prog 47 = true := by kernel_rfl
theorem hb48 : hasBody Tryz.prog 48 = true := by kernel_rfl
theorem hb49 : hasBody Tryz.prog 49 = true := by kernel_rfl
theorem hb50 : hasBody Tryz.prog 50 = true := by kernel_rfl
theorem hb51 : hasBody Tryz.prog 51 = true := by kernel_rfl
theorem hb52 : hasBody Tryz.prog 52 = true := by kernel_rfl
theorem hb53 : hasBody Tryz.prog 53 = true := by kernel_rfl
theorem hb54 : hasBody Tryz.prog 54 = true := by kernel_rfl
theorem hb55 : hasBody Tryz.prog 55 = true := by kernel_rfl
theorem hb56 : hasBody Tryz.prog 56 = true := by kernel_rfl
theorem hb68 : hasBody Tryz.prog 68 = true := by kernel_rfl
theorem hb69 : hasBody Tryz.prog 69 = true := by kernel_rfl
theorem hb77 : hasBody Tryz.prog 77 = true := by kernel_rfl
theorem hb78 : hasBody Tryz.prog 78 = true := by kernel_rfl
theorem hb79 : hasBody Tryz.prog 79 = true := by kernel_rfl
theorem hb80 : hasBody Tryz.prog 80 = true := by kernel_rfl
theorem hb81 : hasBody Tryz.prog 81 = true := by kernel_rfl
theorem hb82 : hasBody Tryz.prog 82 = true := by kernel_rfl
theorem hb83 : hasBody Tryz.prog 83 = true := by kernel_rfl
theorem hb84 : hasBody Tryz.prog 84 = true := by kernel_rfl
theorem hb85 : hasBody Tryz.prog 85 = true := by kernel_rfl
theorem hb86 : hasBody Tryz.prog 86 = true := by kernel_rfl
theorem hb87 : hasBody Tryz.prog 87 = true := by kernel_rfl
theorem hb88 : hasBody Tryz.prog 88 = true := by kernel_rfl
theorem hb89 : hasBody Tryz.prog 89 = true := by kernel_rfl
theorem hb90 : hasBody Tryz.prog 90 = true := by kernel_rfl
theorem hb91 : hasBody Tryz.prog 91 = true := by kernel_rfl
theorem hb92 : hasBody Tryz.prog 92 = true := by kernel_rfl
theorem hb93 : hasBody Tryz.prog 93 = true := by kernel_rfl
theorem hb94 : hasBody Tryz.prog 94 = true := by kernel_rfl
theorem hb95 : hasBody Tryz.prog 95 = true := by kernel_rfl
theorem hb96 : hasBody Tryz.prog 96 = true := by kernel_rfl
theorem hb97 : hasBody Tryz.prog 97 = true := by kernel_rfl
theorem hb98 : hasBody Tryz.prog 98 = true := by kernel_rfl
theorem hb99 : hasBody Tryz.prog 99 = true := by kernel_rfl
theorem hb100 : hasBody Tryz.prog 100 = true := by kernel_rfl
theorem hb101 : hasBody Tryz.prog 101 = true := by kernel_rfl
theorem hb102 : hasBody Tryz.prog 102 = true := by kernel_rfl
theorem hb103 : hasBody Tryz.prog 103 = true := by kernel_rfl
theorem hb104 : hasBody Tryz.prog 104 = true := by kernel_rfl
theorem hb105 : hasBody Tryz.prog 105 = true := by kernel_rfl
theorem hb106 : hasBody Tryz.prog 106 = true := by kernel_rfl
theorem hb112 : hasBody Tryz.prog 112 = true := by kernel_rfl
theorem hb114 : hasBody Tryz.prog 114 = true := by kernel_rfl
theorem hb115 : hasBody Tryz.prog 115 = true := by kernel_rfl
theorem hb116 : hasBody Tryz.prog 116 = true := by kernel_rfl
theorem hb117 : hasBody Tryz.prog 117 = true := by kernel_rfl
theorem hb118 : hasBody Tryz.prog 118 = true := by kernel_rfl
theorem hb119 : hasBody Tryz.prog 119 = true := by kernel_rfl
theorem hb120 : hasBody Tryz.prog 120 = true := by kernel_rfl
theorem hb121 : hasBody Tryz.prog 121 = true := by kernel_rfl
theorem hb122 : hasBody Tryz.prog 122 = true := by kernel_rfl
theorem hb123 : hasBody Tryz.prog 123 = true := by kernel_rfl
theorem hb124 : hasBody Tryz.prog 124 = true := by kernel_rfl
theorem hb125 : hasBody Tryz.prog 125 = true := by kernel_rfl
theorem hb126 : hasBody Tryz.prog 126 = true := by kernel_rfl
theorem hb127 : hasBody Tryz.prog 127 = true := by kernel_rfl
theorem hb128 : hasBody Tryz.prog 128 = true := by kernel_rfl
theorem hb129 : hasBody Tryz.prog 129 = true := by kernel_rfl
theorem hb130 : hasBody Tryz.prog 130 = true := by kernel_rfl
theorem hb131 : hasBody Tryz.prog 131 = true := by kernel_rfl
theorem hb132 : hasBody Tryz.prog 132 = false := by kernel_rfl
theorem ov132 : IsOver Tryz.prog 132 := ⟨Tryz.f132, 45, 4, 82, _, _, Tryz.func132, by kernel_rfl, by kernel_rfl, by kernel_rfl, by kernel_rfl, ty45, by kernel_rfl, ty82⟩
theorem hb134 : hasBody Tryz.prog 134 = true := by kernel_rfl
theorem hb142 : hasBody Tryz.prog 142 = true := by kernel_rfl
theorem hb143 : hasBody Tryz.prog 143 = true := by kernel_rfl
theorem hb144 : hasBody Tryz.prog 144 = true := by kernel_rfl
theorem hb145 : hasBody Tryz.prog 145 = true := by kernel_rfl
theorem hb146 : hasBody Tryz.prog 146 = true := by kernel_rfl
theorem hb147 : hasBody Tryz.prog 147 = true := by kernel_rfl
theorem hb148 : hasBody Tryz.prog 148 = true := by kernel_rfl
theorem hb149 : hasBody Tryz.prog 149 = true := by kernel_rfl
theorem hb150 : hasBody Tryz.prog 150 = true := by kernel_rfl
theorem hb151 : hasBody Tryz.prog 151 = true := by kernel_rfl
theorem hb152 : hasBody Tryz.prog 152 = true := by kernel_rfl
theorem hb153 : hasBody Tryz.prog 153 = true := by kernel_rfl
theorem hb154 : hasBody Tryz.prog 154 = true := by kernel_rfl
theorem hb163 : hasBody Tryz.prog 163 = true := by kernel_rfl
theorem hb164 : hasBody Tryz.prog 164 = true := by kernel_rfl
theorem hb165 : hasBody Tryz.prog 165 = false := by kernel_rfl
theorem ov165 : IsOver Tryz.prog 165 := ⟨Tryz.f165, 42, 4, 144, _, _, Tryz.func165, by kernel_rfl, by kernel_rfl, by kernel_rfl, by kernel_rfl, ty42, by kernel_rfl, ty144⟩
end Go.Proofs.YtlojldccjmkikaaGreat
