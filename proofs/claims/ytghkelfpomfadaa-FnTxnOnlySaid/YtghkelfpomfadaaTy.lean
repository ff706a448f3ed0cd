/- Facts on the types and functions of this seat. -/
import Derived.Test.YtghkelfpomfadaaA5
import Derived.Test.YtghkelfpomfadaaProg
import Derived.KernelRfl
set_option linter.unusedVariables false
set_option linter.unusedSimpArgs false
-- Facts on the types and functions of this seat, by a program of our own (wip/gen/gentypes.py).
namespace Go.Proofs.Ytghkelfpomfadaa
open Go.Ae
theorem ty3 : tyOf Try.prog 3 = some ⟨1, 8, false, [.int .i64 0], none, [], false, some .i64⟩ := by kernel_rfl
theorem ty4 : tyOf Try.prog 4 = some ⟨1, 1, false, [.bool false], none, [], false, none⟩ := by kernel_rfl
theorem un4 : Try.prog.underlying 4 = some .bool := by kernel_rfl
theorem ty5 : tyOf Try.prog 5 = some ⟨1, 1, false, [.int .u8 0], none, [], false, some .u8⟩ := by kernel_rfl
theorem ty9 : tyOf Try.prog 9 = some ⟨1, 16, false, [.string ⟨#[]⟩], none, [], true, none⟩ := by kernel_rfl
theorem ty22 : tyOf Try.prog 22 = some ⟨1, 24, false, [.slice none 0 0], some 5, [], false, none⟩ := by kernel_rfl
theorem ty23 : tyOf Try.prog 23 = some ⟨1, 24, false, [.slice none 0 0], some 48, [], false, none⟩ := by kernel_rfl
theorem ty24 : tyOf Try.prog 24 = some ⟨1, 24, false, [.slice none 0 0], some 33, [], false, none⟩ := by kernel_rfl
theorem ty25 : tyOf Try.prog 25 = some ⟨1, 24, false, [.slice none 0 0], some 3, [], false, none⟩ := by kernel_rfl
theorem ty27 : tyOf Try.prog 27 = some ⟨3, 72, true, [.slice none 0 0, .slice none 0 0, .slice none 0 0], none, [some (0, 1), some (1, 1), some (2, 1)], false, none⟩ := by kernel_rfl
theorem ty33 : tyOf Try.prog 33 = some ⟨3, 24, true, [.int .i64 0, .int .i64 0, .int .i64 0], none, [some (0, 1), some (1, 1), some (2, 1)], false, none⟩ := by kernel_rfl
theorem ty35 : tyOf Try.prog 35 = some ⟨1, 24, false, [.slice none 0 0], some 41, [], false, none⟩ := by kernel_rfl
theorem ty41 : tyOf Try.prog 41 = some ⟨2, 16, true, [.int .i64 0, .int .i64 0], none, [some (0, 1), some (1, 1)], false, none⟩ := by kernel_rfl
theorem ty44 : tyOf Try.prog 44 = some ⟨1, 8, false, [.pointer none], none, [], false, none⟩ := by kernel_rfl
theorem ty48 : tyOf Try.prog 48 = some ⟨3, 24, true, [.int .i64 0, .int .i64 0, .int .i64 0], none, [some (0, 1), some (1, 1), some (2, 1)], false, none⟩ := by kernel_rfl
theorem ty51 : tyOf Try.prog 51 = some ⟨1, 8, false, [.nilFunc], none, [], false, none⟩ := by kernel_rfl
theorem ty56 : tyOf Try.prog 56 = some ⟨1, 8, false, [.pointer none], none, [], false, none⟩ := by kernel_rfl
theorem ty59 : tyOf Try.prog 59 = some ⟨1, 8, false, [.nilFunc], none, [], false, none⟩ := by kernel_rfl
theorem ty61 : tyOf Try.prog 61 = some ⟨2, 32, true, [.slice none 0 0, .int .i64 0], none, [some (0, 1), some (1, 1)], false, none⟩ := by kernel_rfl
theorem ty62 : tyOf Try.prog 62 = some ⟨1, 8, false, [.nilFunc], none, [], false, none⟩ := by kernel_rfl
theorem ty63 : tyOf Try.prog 63 = some ⟨1, 8, false, [.nilFunc], none, [], false, none⟩ := by kernel_rfl
theorem ty68 : tyOf Try.prog 68 = some ⟨1, 8, false, [.nilFunc], none, [], false, none⟩ := by kernel_rfl
theorem ty70 : tyOf Try.prog 70 = some ⟨1, 8, false, [.nilFunc], none, [], false, none⟩ := by kernel_rfl
theorem ty74 : tyOf Try.prog 74 = some ⟨1, 8, false, [.int .u64 0], none, [], false, some .u64⟩ := by kernel_rfl
theorem ty76 : tyOf Try.prog 76 = some ⟨1, 8, false, [.nilFunc], none, [], false, none⟩ := by kernel_rfl
theorem ty78 : tyOf Try.prog 78 = some ⟨1, 8, false, [.nilFunc], none, [], false, none⟩ := by kernel_rfl
theorem ty80 : tyOf Try.prog 80 = some ⟨1, 24, false, [.slice none 0 0], some 117, [], false, none⟩ := by kernel_rfl
theorem ty84 : tyOf Try.prog 84 = some ⟨4, 80, true, [.int .i64 0, .slice none 0 0, .slice none 0 0, .slice none 0 0], none, [some (0, 1), some (1, 1), some (2, 1), some (3, 1)], false, none⟩ := by kernel_rfl
theorem ty88 : tyOf Try.prog 88 = some ⟨6, 112, true, [.pointer none, .int .i64 0, .slice none 0 0, .slice none 0 0, .slice none 0 0, .slice none 0 0], none, [some (0, 1), some (1, 4), some (5, 1)], false, none⟩ := by kernel_rfl
theorem ty94 : tyOf Try.prog 94 = some ⟨1, 8, false, [.int .i64 0], none, [], false, some .i64⟩ := by kernel_rfl
theorem ty103 : tyOf Try.prog 103 = some ⟨1, 4, false, [.int .u32 0], none, [], false, some .u32⟩ := by kernel_rfl
theorem ty105 : tyOf Try.prog 105 = some ⟨1, 8, false, [.int .u64 0], none, [], false, some .u64⟩ := by kernel_rfl
theorem ty109 : tyOf Try.prog 109 = some ⟨9, 120, true, [.int .i64 0, .int .i64 0, .int .i64 0, .slice none 0 0, .int .i64 0, .int .i64 0, .slice none 0 0, .slice none 0 0, .int .i64 0], none, [some (0, 1), some (1, 1), some (2, 1), some (3, 1), some (4, 1), some (5, 1), some (6, 1), some (7, 1), some (8, 1)], false, none⟩ := by kernel_rfl
theorem ty115 : tyOf Try.prog 115 = some ⟨8, 160, true, [.int .i64 0, .int .i64 0, .slice none 0 0, .slice none 0 0, .slice none 0 0, .slice none 0 0, .slice none 0 0, .slice none 0 0], none, [some (0, 1), some (1, 1), some (2, 1), some (3, 1), some (4, 1), some (5, 1), some (6, 1), some (7, 1)], false, none⟩ := by kernel_rfl
theorem ty117 : tyOf Try.prog 117 = some ⟨18, 288, true, [.bool false, .int .i64 0, .int .i64 0, .int .i64 0, .slice none 0 0, .int .i64 0, .int .i64 0, .slice none 0 0, .slice none 0 0, .int .i64 0, .int .i64 0, .int .i64 0, .slice none 0 0, .slice none 0 0, .slice none 0 0, .slice none 0 0, .slice none 0 0, .slice none 0 0], none, [some (0, 1), some (1, 9), some (10, 8)], false, none⟩ := by kernel_rfl
theorem ty119 : tyOf Try.prog 119 = some ⟨1, 8, false, [.int .u64 0], none, [], false, some .u64⟩ := by kernel_rfl
theorem ty123 : tyOf Try.prog 123 = some ⟨1, 8, false, [.pointer none], none, [], false, none⟩ := by kernel_rfl
theorem ty127 : tyOf Try.prog 127 = some ⟨1, 8, false, [.pointer none], none, [], false, none⟩ := by kernel_rfl
theorem el22 : elemTy Try.prog 22 = tyOf Try.prog 5 := by unfold elemTy; rw [ty22]
theorem el23 : elemTy Try.prog 23 = tyOf Try.prog 48 := by unfold elemTy; rw [ty23]
theorem el24 : elemTy Try.prog 24 = tyOf Try.prog 33 := by unfold elemTy; rw [ty24]
theorem el25 : elemTy Try.prog 25 = tyOf Try.prog 3 := by unfold elemTy; rw [ty25]
theorem fk33 : flatKinds Try.prog 33 = some [0, 0, 0] := by kernel_rfl
theorem el35 : elemTy Try.prog 35 = tyOf Try.prog 41 := by unfold elemTy; rw [ty35]
theorem fk41 : flatKinds Try.prog 41 = some [0, 0] := by kernel_rfl
theorem fk48 : flatKinds Try.prog 48 = some [0, 0, 0] := by kernel_rfl
theorem el80 : elemTy Try.prog 80 = tyOf Try.prog 117 := by unfold elemTy; rw [ty80]
theorem hb4 : hasBody Try.prog 4 = true := by kernel_rfl
theorem hb6 : hasBody Try.prog 6 = true := by kernel_rfl
theorem hb7 : hasBody Try.prog 7 = true := by kernel_rfl
theorem hb8 : hasBody Try.prog 8 = true := by kernel_rfl
theorem hb9 : hasBody Try.prog 9 = true := by kernel_rfl
theorem hb10 : hasBody Try.prog 10 = true := by kernel_rfl
theorem hb11 : hasBody Try.prog 11 = true := by kernel_rfl
theorem hb12 : hasBody Try.prog 12 = true := by kernel_rfl
theorem hb13 : hasBody Try.prog 13 = true := by kernel_rfl
theorem hb14 : hasBody Try.prog 14 = true := by kernel_rfl
theorem hb15 : hasBody Try.prog 15 = true := by kernel_rfl
theorem hb16 : hasBody Try.prog 16 = true := by kernel_rfl
theorem hb17 : hasBody Try.prog 17 = true := by kernel_rfl
theorem hb18 : hasBody Try.prog 18 = true := by kernel_rfl
theorem hb19 : hasBody Try.prog 19 = true := by kernel_rfl
theorem hb20 : hasBody Try.prog 20 = true := by kernel_rfl
theorem hb21 : hasBody Try.prog 21 = true := by kernel_rfl
theorem hb22 : hasBody Try.prog 22 = true := by kernel_rfl
theorem hb23 : hasBody Try.prog 23 = true := by kernel_rfl
theorem hb24 : hasBody Try.prog 24 = true := by kernel_rfl
theorem hb25 : hasBody Try.prog 25 = true := by kernel_rfl
theorem hb26 : hasBody Try.prog 26 = true := by kernel_rfl
theorem hb27 : hasBody Try.prog 27 = true := by kernel_rfl
theorem hb28 : hasBody Try.prog 28 = true := by kernel_rfl
theorem hb29 : hasBody Try.prog 29 = true := by kernel_rfl
theorem hb30 : hasBody Try.prog 30 = true := by kernel_rfl
theorem hb31 : hasBody Try.prog 31 = true := by kernel_rfl
theorem hb32 : hasBody Try.prog 32 = true := by kernel_rfl
theorem hb33 : hasBody Try.prog 33 = true := by kernel_rfl
theorem hb34 : hasBody Try.prog 34 = true := by kernel_rfl
theorem hb35 : hasBody Try.prog 35 = true := by kernel_rfl
theorem hb36 : hasBody Try.prog 36 = true := by kernel_rfl
theorem hb37 : hasBody Try.prog 37 = true := by kernel_rfl
theorem hb38 : hasBody Try.prog 38 = true := by kernel_rfl
theorem hb39 : hasBody Try.prog 39 = true := by kernel_rfl
theorem hb40 : hasBody Try.prog 40 = true := by kernel_rfl
theorem hb41 : hasBody Try.prog 41 = true := by kernel_rfl
theorem hb42 : hasBody Try.prog 42 = true := by kernel_rfl
theorem hb43 : hasBody Try.prog 43 = true := by kernel_rfl
theorem hb44 : hasBody Try.prog 44 = true := by kernel_rfl
theorem hb45 : hasBody Try.prog 45 = true := by kernel_rfl
theorem hb46 : hasBody Try.prog 46 = true := by kernel_rfl
theorem hb47 : hasBody Try.prog 47 = true := by kernel_rfl
theorem hb48 : hasBody Try.prog 48 = true := by kernel_rfl
theorem hb49 : hasBody Try.prog 49 = true := by kernel_rfl
theorem hb50 : hasBody Try.prog 50 = true := by kernel_rfl
theorem hb51 : hasBody Try.prog 51 = true := by kernel_rfl
theorem hb52 : hasBody Try.prog 52 = true := by kernel_rfl
theorem hb53 : hasBody Try.prog 53 = true := by kernel_rfl
theorem hb54 : hasBody Try.prog 54 = true := by kernel_rfl
theorem hb55 : hasBody Try.prog 55 = true := by kernel_rfl
theorem hb56 : hasBody Try.prog 56 = true := by kernel_rfl
theorem hb57 : hasBody Try.prog 57 = true := by kernel_rfl
theorem hb58 : hasBody Try.prog 58 = true := by kernel_rfl
theorem hb59 : hasBody Try.prog 59 = true := by kernel_rfl
theorem hb65 : hasBody Try.prog 65 = true := by kernel_rfl
theorem hb69 : hasBody Try.prog 69 = true := by kernel_rfl
theorem hb70 : hasBody Try.prog 70 = true := by kernel_rfl
theorem hb71 : hasBody Try.prog 71 = true := by kernel_rfl
theorem hb77 : hasBody Try.prog 77 = true := by kernel_rfl
theorem hb78 : hasBody Try.prog 78 = true := by kernel_rfl
theorem hb79 : hasBody Try.prog 79 = true := by kernel_rfl
end Go.Proofs.Ytghkelfpomfadaa
