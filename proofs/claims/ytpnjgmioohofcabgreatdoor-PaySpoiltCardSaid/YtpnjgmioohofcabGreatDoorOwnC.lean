/- The program's types and the first functions' contracts. No condition. -/
import Derived.Test.YtpnjgmioohofcabGreatDoorOwnB
import Derived.Test.YtpnjgmioohofcabGreatDoorProg
set_option linter.unusedVariables false
set_option linter.unusedSimpArgs false
namespace Go.Proofs
open Go Go.Sx
instance Tryz.ty1 : Ty Tryz.prog 1 ⟨.func, 1, 8, [.func]⟩ := ⟨by kernel_rfl⟩
instance Tryz.ty2 : Ty Tryz.prog 2 ⟨.int .i64, 1, 8, [.int .i64]⟩ := ⟨by kernel_rfl⟩
instance Tryz.ty3 : Ty Tryz.prog 3 ⟨.int .i64, 1, 8, [.int .i64]⟩ := ⟨by kernel_rfl⟩
instance Tryz.ty4 : Ty Tryz.prog 4 ⟨.bool, 1, 1, [.bool]⟩ := ⟨by kernel_rfl⟩
instance Tryz.ty5 : Ty Tryz.prog 5 ⟨.int .u8, 1, 1, [.int .u8]⟩ := ⟨by kernel_rfl⟩
instance Tryz.ty6 : Ty Tryz.prog 6 ⟨.int .u8, 1, 1, [.int .u8]⟩ := ⟨by kernel_rfl⟩
instance Tryz.ty7 : Ty Tryz.prog 7 ⟨.struct [(0, 2), (1, 3), (2, 4), (3, 6)], 4, 24, [.int .i64, .int .i64, .bool, .int .u8]⟩ := ⟨by kernel_rfl⟩
instance Tryz.ty8 : Ty Tryz.prog 8 ⟨.struct [(0, 2), (1, 3), (2, 4), (3, 6)], 4, 24, [.int .i64, .int .i64, .bool, .int .u8]⟩ := ⟨by kernel_rfl⟩
instance Tryz.ty9 : Ty Tryz.prog 9 ⟨.string, 1, 16, [.str]⟩ := ⟨by kernel_rfl⟩
instance Tryz.ty10 : Ty Tryz.prog 10 ⟨.string, 1, 16, [.str]⟩ := ⟨by kernel_rfl⟩
instance Tryz.ty11 : Ty Tryz.prog 11 ⟨.string, 1, 16, [.str]⟩ := ⟨by kernel_rfl⟩
instance Tryz.ty12 : Ty Tryz.prog 12 ⟨.int .u64, 1, 8, [.int .u64]⟩ := ⟨by kernel_rfl⟩
instance Tryz.ty13 : Ty Tryz.prog 13 ⟨.struct [(0, 9), (1, 12)], 2, 24, [.str, .int .u64]⟩ := ⟨by kernel_rfl⟩
instance Tryz.ty14 : Ty Tryz.prog 14 ⟨.struct [(0, 9), (1, 12)], 2, 24, [.str, .int .u64]⟩ := ⟨by kernel_rfl⟩
instance Tryz.ty15 : Ty Tryz.prog 15 ⟨.ptr 170, 1, 8, [.ptr]⟩ := ⟨by kernel_rfl⟩
instance Tryz.ty16 : Ty Tryz.prog 16 ⟨.ptr 173, 1, 8, [.ptr]⟩ := ⟨by kernel_rfl⟩
instance Tryz.ty17 : Ty Tryz.prog 17 ⟨.ptr 182, 1, 8, [.ptr]⟩ := ⟨by kernel_rfl⟩
instance Tryz.ty18 : Ty Tryz.prog 18 ⟨.struct [(0, 17)], 1, 8, [.ptr]⟩ := ⟨by kernel_rfl⟩
instance Tryz.ty19 : Ty Tryz.prog 19 ⟨.struct [(0, 17)], 1, 8, [.ptr]⟩ := ⟨by kernel_rfl⟩
instance Tryz.ty20 : Ty Tryz.prog 20 ⟨.iface, 1, 16, [.iface]⟩ := ⟨by kernel_rfl⟩
instance Tryz.ty21 : Ty Tryz.prog 21 ⟨.int .i32, 1, 4, [.int .i32]⟩ := ⟨by kernel_rfl⟩
instance Tryz.ty22 : Ty Tryz.prog 22 ⟨.slice 52, 1, 24, [.slice]⟩ := ⟨by kernel_rfl⟩
instance Tryz.ty23 : Ty Tryz.prog 23 ⟨.struct [(0, 3), (1, 3), (2, 3), (3, 3), (4, 3), (5, 3), (6, 22)], 7, 72, [.int .i64, .int .i64, .int .i64, .int .i64, .int .i64, .int .i64, .slice]⟩ := ⟨by kernel_rfl⟩
instance Tryz.ty24 : Ty Tryz.prog 24 ⟨.struct [(0, 3), (1, 3), (2, 3), (3, 3), (4, 3), (5, 3), (6, 22)], 7, 72, [.int .i64, .int .i64, .int .i64, .int .i64, .int .i64, .int .i64, .slice]⟩ := ⟨by kernel_rfl⟩
instance Tryz.ty25 : Ty Tryz.prog 25 ⟨.func, 1, 8, [.func]⟩ := ⟨by kernel_rfl⟩
instance Tryz.ty26 : Ty Tryz.prog 26 ⟨.func, 1, 8, [.func]⟩ := ⟨by kernel_rfl⟩
instance Tryz.ty27 : Ty Tryz.prog 27 ⟨.slice 3, 1, 24, [.slice]⟩ := ⟨by kernel_rfl⟩
instance Tryz.ty28 : Ty Tryz.prog 28 ⟨.int .i64, 1, 8, [.int .i64]⟩ := ⟨by kernel_rfl⟩
instance Tryz.ty30 : Ty Tryz.prog 30 ⟨.func, 1, 8, [.func]⟩ := ⟨by kernel_rfl⟩
instance Tryz.ty31 : Ty Tryz.prog 31 ⟨.func, 1, 8, [.func]⟩ := ⟨by kernel_rfl⟩
instance Tryz.ty33 : Ty Tryz.prog 33 ⟨.func, 1, 8, [.func]⟩ := ⟨by kernel_rfl⟩
instance Tryz.ty34 : Ty Tryz.prog 34 ⟨.func, 1, 8, [.func]⟩ := ⟨by kernel_rfl⟩
instance Tryz.ty35 : Ty Tryz.prog 35 ⟨.func, 1, 8, [.func]⟩ := ⟨by kernel_rfl⟩
instance Tryz.ty36 : Ty Tryz.prog 36 ⟨.func, 1, 8, [.func]⟩ := ⟨by kernel_rfl⟩
instance Tryz.ty37 : Ty Tryz.prog 37 ⟨.func, 1, 8, [.func]⟩ := ⟨by kernel_rfl⟩
instance Tryz.ty39 : Ty Tryz.prog 39 ⟨.func, 1, 8, [.func]⟩ := ⟨by kernel_rfl⟩
instance Tryz.ty41 : Ty Tryz.prog 41 ⟨.func, 1, 8, [.func]⟩ := ⟨by kernel_rfl⟩
instance Tryz.ty42 : Ty Tryz.prog 42 ⟨.func, 1, 8, [.func]⟩ := ⟨by kernel_rfl⟩
instance Tryz.ty43 : Ty Tryz.prog 43 ⟨.struct [(0, 3), (1, 3)], 2, 16, [.int .i64, .int .i64]⟩ := ⟨by kernel_rfl⟩
instance Tryz.ty44 : Ty Tryz.prog 44 ⟨.struct [(0, 3), (1, 3)], 2, 16, [.int .i64, .int .i64]⟩ := ⟨by kernel_rfl⟩
instance Tryz.ty46 : Ty Tryz.prog 46 ⟨.func, 1, 8, [.func]⟩ := ⟨by kernel_rfl⟩
instance Tryz.ty47 : Ty Tryz.prog 47 ⟨.func, 1, 8, [.func]⟩ := ⟨by kernel_rfl⟩
instance Tryz.ty48 : Ty Tryz.prog 48 ⟨.func, 1, 8, [.func]⟩ := ⟨by kernel_rfl⟩
instance Tryz.ty49 : Ty Tryz.prog 49 ⟨.struct [(0, 3), (1, 3), (2, 3), (3, 3)], 4, 32, [.int .i64, .int .i64, .int .i64, .int .i64]⟩ := ⟨by kernel_rfl⟩
instance Tryz.ty50 : Ty Tryz.prog 50 ⟨.struct [(0, 3), (1, 3), (2, 3), (3, 3)], 4, 32, [.int .i64, .int .i64, .int .i64, .int .i64]⟩ := ⟨by kernel_rfl⟩
instance Tryz.ty51 : Ty Tryz.prog 51 ⟨.struct [(0, 3), (1, 3), (2, 44), (4, 3), (5, 3), (6, 50)], 10, 80, [.int .i64, .int .i64, .int .i64, .int .i64, .int .i64, .int .i64, .int .i64, .int .i64, .int .i64, .int .i64]⟩ := ⟨by kernel_rfl⟩
instance Tryz.ty52 : Ty Tryz.prog 52 ⟨.struct [(0, 3), (1, 3), (2, 44), (4, 3), (5, 3), (6, 50)], 10, 80, [.int .i64, .int .i64, .int .i64, .int .i64, .int .i64, .int .i64, .int .i64, .int .i64, .int .i64, .int .i64]⟩ := ⟨by kernel_rfl⟩
instance Tryz.ty53 : Ty Tryz.prog 53 ⟨.func, 1, 8, [.func]⟩ := ⟨by kernel_rfl⟩
instance Tryz.ty54 : Ty Tryz.prog 54 ⟨.func, 1, 8, [.func]⟩ := ⟨by kernel_rfl⟩
instance Tryz.ty55 : Ty Tryz.prog 55 ⟨.func, 1, 8, [.func]⟩ := ⟨by kernel_rfl⟩
instance Tryz.ty57 : Ty Tryz.prog 57 ⟨.func, 1, 8, [.func]⟩ := ⟨by kernel_rfl⟩
instance Tryz.ty59 : Ty Tryz.prog 59 ⟨.func, 1, 8, [.func]⟩ := ⟨by kernel_rfl⟩
instance Tryz.ty60 : Ty Tryz.prog 60 ⟨.func, 1, 8, [.func]⟩ := ⟨by kernel_rfl⟩
instance Tryz.ty61 : Ty Tryz.prog 61 ⟨.func, 1, 8, [.func]⟩ := ⟨by kernel_rfl⟩
instance Tryz.ty63 : Ty Tryz.prog 63 ⟨.func, 1, 8, [.func]⟩ := ⟨by kernel_rfl⟩
instance Tryz.ty64 : Ty Tryz.prog 64 ⟨.func, 1, 8, [.func]⟩ := ⟨by kernel_rfl⟩
instance Tryz.ty65 : Ty Tryz.prog 65 ⟨.slice 5, 1, 24, [.slice]⟩ := ⟨by kernel_rfl⟩
instance Tryz.ty66 : Ty Tryz.prog 66 ⟨.func, 1, 8, [.func]⟩ := ⟨by kernel_rfl⟩
instance Tryz.ty68 : Ty Tryz.prog 68 ⟨.func, 1, 8, [.func]⟩ := ⟨by kernel_rfl⟩
instance Tryz.ty69 : Ty Tryz.prog 69 ⟨.func, 1, 8, [.func]⟩ := ⟨by kernel_rfl⟩
instance Tryz.ty70 : Ty Tryz.prog 70 ⟨.func, 1, 8, [.func]⟩ := ⟨by kernel_rfl⟩
instance Tryz.ty71 : Ty Tryz.prog 71 ⟨.func, 1, 8, [.func]⟩ := ⟨by kernel_rfl⟩
instance Tryz.ty72 : Ty Tryz.prog 72 ⟨.slice 44, 1, 24, [.slice]⟩ := ⟨by kernel_rfl⟩
instance Tryz.ty74 : Ty Tryz.prog 74 ⟨.func, 1, 8, [.func]⟩ := ⟨by kernel_rfl⟩
instance Tryz.ty75 : Ty Tryz.prog 75 ⟨.func, 1, 8, [.func]⟩ := ⟨by kernel_rfl⟩
instance Tryz.ty76 : Ty Tryz.prog 76 ⟨.func, 1, 8, [.func]⟩ := ⟨by kernel_rfl⟩
instance Tryz.ty77 : Ty Tryz.prog 77 ⟨.func, 1, 8, [.func]⟩ := ⟨by kernel_rfl⟩
instance Tryz.ty78 : Ty Tryz.prog 78 ⟨.func, 1, 8, [.func]⟩ := ⟨by kernel_rfl⟩
instance Tryz.ty79 : Ty Tryz.prog 79 ⟨.func, 1, 8, [.func]⟩ := ⟨by kernel_rfl⟩
instance Tryz.ty80 : Ty Tryz.prog 80 ⟨.func, 1, 8, [.func]⟩ := ⟨by kernel_rfl⟩
instance Tryz.ty81 : Ty Tryz.prog 81 ⟨.func, 1, 8, [.func]⟩ := ⟨by kernel_rfl⟩
instance Tryz.ty82 : Ty Tryz.prog 82 ⟨.func, 1, 8, [.func]⟩ := ⟨by kernel_rfl⟩
instance Tryz.ty83 : Ty Tryz.prog 83 ⟨.func, 1, 8, [.func]⟩ := ⟨by kernel_rfl⟩
instance Tryz.ty84 : Ty Tryz.prog 84 ⟨.struct [(0, 24), (7, 27)], 8, 96, [.int .i64, .int .i64, .int .i64, .int .i64, .int .i64, .int .i64, .slice, .slice]⟩ := ⟨by kernel_rfl⟩
instance Tryz.ty85 : Ty Tryz.prog 85 ⟨.struct [(0, 24), (7, 27)], 8, 96, [.int .i64, .int .i64, .int .i64, .int .i64, .int .i64, .int .i64, .slice, .slice]⟩ := ⟨by kernel_rfl⟩
instance Tryz.ty86 : Ty Tryz.prog 86 ⟨.func, 1, 8, [.func]⟩ := ⟨by kernel_rfl⟩
instance Tryz.ty87 : Ty Tryz.prog 87 ⟨.func, 1, 8, [.func]⟩ := ⟨by kernel_rfl⟩
instance Tryz.ty88 : Ty Tryz.prog 88 ⟨.func, 1, 8, [.func]⟩ := ⟨by kernel_rfl⟩
instance Tryz.ty89 : Ty Tryz.prog 89 ⟨.func, 1, 8, [.func]⟩ := ⟨by kernel_rfl⟩
instance Tryz.ty90 : Ty Tryz.prog 90 ⟨.func, 1, 8, [.func]⟩ := ⟨by kernel_rfl⟩
instance Tryz.ty91 : Ty Tryz.prog 91 ⟨.func, 1, 8, [.func]⟩ := ⟨by kernel_rfl⟩
instance Tryz.ty92 : Ty Tryz.prog 92 ⟨.func, 1, 8, [.func]⟩ := ⟨by kernel_rfl⟩
instance Tryz.ty93 : Ty Tryz.prog 93 ⟨.func, 1, 8, [.func]⟩ := ⟨by kernel_rfl⟩
instance Tryz.ty94 : Ty Tryz.prog 94 ⟨.func, 1, 8, [.func]⟩ := ⟨by kernel_rfl⟩
instance Tryz.ty95 : Ty Tryz.prog 95 ⟨.func, 1, 8, [.func]⟩ := ⟨by kernel_rfl⟩
instance Tryz.ty96 : Ty Tryz.prog 96 ⟨.slice 9, 1, 24, [.slice]⟩ := ⟨by kernel_rfl⟩
instance Tryz.ty97 : Ty Tryz.prog 97 ⟨.func, 1, 8, [.func]⟩ := ⟨by kernel_rfl⟩
instance Tryz.ty98 : Ty Tryz.prog 98 ⟨.func, 1, 8, [.func]⟩ := ⟨by kernel_rfl⟩
instance Tryz.ty99 : Ty Tryz.prog 99 ⟨.func, 1, 8, [.func]⟩ := ⟨by kernel_rfl⟩
instance Tryz.ty100 : Ty Tryz.prog 100 ⟨.func, 1, 8, [.func]⟩ := ⟨by kernel_rfl⟩
instance Tryz.ty101 : Ty Tryz.prog 101 ⟨.func, 1, 8, [.func]⟩ := ⟨by kernel_rfl⟩
instance Tryz.ty102 : Ty Tryz.prog 102 ⟨.array 4 3, 4, 32, [.int .i64, .int .i64, .int .i64, .int .i64]⟩ := ⟨by kernel_rfl⟩
instance Tryz.ty103 : Ty Tryz.prog 103 ⟨.func, 1, 8, [.func]⟩ := ⟨by kernel_rfl⟩
instance Tryz.ty104 : Ty Tryz.prog 104 ⟨.func, 1, 8, [.func]⟩ := ⟨by kernel_rfl⟩
instance Tryz.ty105 : Ty Tryz.prog 105 ⟨.map 3 3, 1, 8, [.map]⟩ := ⟨by kernel_rfl⟩
instance Tryz.ty107 : Ty Tryz.prog 107 ⟨.func, 1, 8, [.func]⟩ := ⟨by kernel_rfl⟩
instance Tryz.ty108 : Ty Tryz.prog 108 ⟨.func, 1, 8, [.func]⟩ := ⟨by kernel_rfl⟩
instance Tryz.ty109 : Ty Tryz.prog 109 ⟨.func, 1, 8, [.func]⟩ := ⟨by kernel_rfl⟩
instance Tryz.ty110 : Ty Tryz.prog 110 ⟨.func, 1, 8, [.func]⟩ := ⟨by kernel_rfl⟩
instance Tryz.ty111 : Ty Tryz.prog 111 ⟨.func, 1, 8, [.func]⟩ := ⟨by kernel_rfl⟩
instance Tryz.ty112 : Ty Tryz.prog 112 ⟨.func, 1, 8, [.func]⟩ := ⟨by kernel_rfl⟩
instance Tryz.ty113 : Ty Tryz.prog 113 ⟨.func, 1, 8, [.func]⟩ := ⟨by kernel_rfl⟩
instance Tryz.ty114 : Ty Tryz.prog 114 ⟨.func, 1, 8, [.func]⟩ := ⟨by kernel_rfl⟩
instance Tryz.ty115 : Ty Tryz.prog 115 ⟨.func, 1, 8, [.func]⟩ := ⟨by kernel_rfl⟩
instance Tryz.ty116 : Ty Tryz.prog 116 ⟨.func, 1, 8, [.func]⟩ := ⟨by kernel_rfl⟩
instance Tryz.ty117 : Ty Tryz.prog 117 ⟨.array 3 86, 3, 24, [.func, .func, .func]⟩ := ⟨by kernel_rfl⟩
instance Tryz.ty118 : Ty Tryz.prog 118 ⟨.struct [(0, 24)], 7, 72, [.int .i64, .int .i64, .int .i64, .int .i64, .int .i64, .int .i64, .slice]⟩ := ⟨by kernel_rfl⟩
instance Tryz.ty119 : Ty Tryz.prog 119 ⟨.struct [(0, 24)], 7, 72, [.int .i64, .int .i64, .int .i64, .int .i64, .int .i64, .int .i64, .slice]⟩ := ⟨by kernel_rfl⟩
instance Tryz.ty120 : Ty Tryz.prog 120 ⟨.slice 124, 1, 24, [.slice]⟩ := ⟨by kernel_rfl⟩
instance Tryz.ty121 : Ty Tryz.prog 121 ⟨.struct [(0, 52)], 10, 80, [.int .i64, .int .i64, .int .i64, .int .i64, .int .i64, .int .i64, .int .i64, .int .i64, .int .i64, .int .i64]⟩ := ⟨by kernel_rfl⟩
instance Tryz.ty122 : Ty Tryz.prog 122 ⟨.struct [(0, 52)], 10, 80, [.int .i64, .int .i64, .int .i64, .int .i64, .int .i64, .int .i64, .int .i64, .int .i64, .int .i64, .int .i64]⟩ := ⟨by kernel_rfl⟩
instance Tryz.ty123 : Ty Tryz.prog 123 ⟨.iface, 1, 16, [.iface]⟩ := ⟨by kernel_rfl⟩
instance Tryz.ty124 : Ty Tryz.prog 124 ⟨.iface, 1, 16, [.iface]⟩ := ⟨by kernel_rfl⟩
instance Tryz.ty125 : Ty Tryz.prog 125 ⟨.func, 1, 8, [.func]⟩ := ⟨by kernel_rfl⟩
instance Tryz.ty126 : Ty Tryz.prog 126 ⟨.func, 1, 8, [.func]⟩ := ⟨by kernel_rfl⟩
instance Tryz.ty127 : Ty Tryz.prog 127 ⟨.struct [(0, 3)], 1, 8, [.int .i64]⟩ := ⟨by kernel_rfl⟩
instance Tryz.ty128 : Ty Tryz.prog 128 ⟨.struct [(0, 3)], 1, 8, [.int .i64]⟩ := ⟨by kernel_rfl⟩
instance Tryz.ty129 : Ty Tryz.prog 129 ⟨.struct [(0, 9)], 1, 16, [.str]⟩ := ⟨by kernel_rfl⟩
instance Tryz.ty130 : Ty Tryz.prog 130 ⟨.struct [(0, 9)], 1, 16, [.str]⟩ := ⟨by kernel_rfl⟩
instance Tryz.ty131 : Ty Tryz.prog 131 ⟨.func, 1, 8, [.func]⟩ := ⟨by kernel_rfl⟩
instance Tryz.ty132 : Ty Tryz.prog 132 ⟨.func, 1, 8, [.func]⟩ := ⟨by kernel_rfl⟩
instance Tryz.ty133 : Ty Tryz.prog 133 ⟨.func, 1, 8, [.func]⟩ := ⟨by kernel_rfl⟩
instance Tryz.ty134 : Ty Tryz.prog 134 ⟨.func, 1, 8, [.func]⟩ := ⟨by kernel_rfl⟩
instance Tryz.ty136 : Ty Tryz.prog 136 ⟨.func, 1, 8, [.func]⟩ := ⟨by kernel_rfl⟩
instance Tryz.ty137 : Ty Tryz.prog 137 ⟨.func, 1, 8, [.func]⟩ := ⟨by kernel_rfl⟩
instance Tryz.ty138 : Ty Tryz.prog 138 ⟨.func, 1, 8, [.func]⟩ := ⟨by kernel_rfl⟩
instance Tryz.ty139 : Ty Tryz.prog 139 ⟨.func, 1, 8, [.func]⟩ := ⟨by kernel_rfl⟩
instance Tryz.ty140 : Ty Tryz.prog 140 ⟨.func, 1, 8, [.func]⟩ := ⟨by kernel_rfl⟩
instance Tryz.ty141 : Ty Tryz.prog 141 ⟨.func, 1, 8, [.func]⟩ := ⟨by kernel_rfl⟩
instance Tryz.ty142 : Ty Tryz.prog 142 ⟨.func, 1, 8, [.func]⟩ := ⟨by kernel_rfl⟩
instance Tryz.ty143 : Ty Tryz.prog 143 ⟨.func, 1, 8, [.func]⟩ := ⟨by kernel_rfl⟩
instance Tryz.ty144 : Ty Tryz.prog 144 ⟨.array 24 5, 24, 24, [.int .u8, .int .u8, .int .u8, .int .u8, .int .u8, .int .u8, .int .u8, .int .u8, .int .u8, .int .u8, .int .u8, .int .u8, .int .u8, .int .u8, .int .u8, .int .u8, .int .u8, .int .u8, .int .u8, .int .u8, .int .u8, .int .u8, .int .u8, .int .u8]⟩ := ⟨by kernel_rfl⟩
instance Tryz.ty145 : Ty Tryz.prog 145 ⟨.int .u64, 1, 8, [.int .u64]⟩ := ⟨by kernel_rfl⟩
instance Tryz.ty146 : Ty Tryz.prog 146 ⟨.func, 1, 8, [.func]⟩ := ⟨by kernel_rfl⟩
instance Tryz.ty147 : Ty Tryz.prog 147 ⟨.func, 1, 8, [.func]⟩ := ⟨by kernel_rfl⟩
instance Tryz.ty149 : Ty Tryz.prog 149 ⟨.func, 1, 8, [.func]⟩ := ⟨by kernel_rfl⟩
instance Tryz.ty151 : Ty Tryz.prog 151 ⟨.func, 1, 8, [.func]⟩ := ⟨by kernel_rfl⟩
instance Tryz.ty152 : Ty Tryz.prog 152 ⟨.func, 1, 8, [.func]⟩ := ⟨by kernel_rfl⟩
instance Tryz.ty153 : Ty Tryz.prog 153 ⟨.func, 1, 8, [.func]⟩ := ⟨by kernel_rfl⟩
instance Tryz.ty154 : Ty Tryz.prog 154 ⟨.array 20 145, 20, 160, [.int .u64, .int .u64, .int .u64, .int .u64, .int .u64, .int .u64, .int .u64, .int .u64, .int .u64, .int .u64, .int .u64, .int .u64, .int .u64, .int .u64, .int .u64, .int .u64, .int .u64, .int .u64, .int .u64, .int .u64]⟩ := ⟨by kernel_rfl⟩
instance Tryz.ty155 : Ty Tryz.prog 155 ⟨.int .u32, 1, 4, [.int .u32]⟩ := ⟨by kernel_rfl⟩
instance Tryz.ty157 : Ty Tryz.prog 157 ⟨.int .u64, 1, 8, [.int .u64]⟩ := ⟨by kernel_rfl⟩
instance Tryz.ty158 : Ty Tryz.prog 158 ⟨.func, 1, 8, [.func]⟩ := ⟨by kernel_rfl⟩
instance Tryz.ty159 : Ty Tryz.prog 159 ⟨.func, 1, 8, [.func]⟩ := ⟨by kernel_rfl⟩
instance Tryz.ty161 : Ty Tryz.prog 161 ⟨.struct [(0, 5), (1, 5)], 2, 2, [.int .u8, .int .u8]⟩ := ⟨by kernel_rfl⟩
instance Tryz.ty162 : Ty Tryz.prog 162 ⟨.struct [(0, 5), (1, 5)], 2, 2, [.int .u8, .int .u8]⟩ := ⟨by kernel_rfl⟩
instance Tryz.ty163 : Ty Tryz.prog 163 ⟨.array 16 162, 32, 32, [.int .u8, .int .u8, .int .u8, .int .u8, .int .u8, .int .u8, .int .u8, .int .u8, .int .u8, .int .u8, .int .u8, .int .u8, .int .u8, .int .u8, .int .u8, .int .u8, .int .u8, .int .u8, .int .u8, .int .u8, .int .u8, .int .u8, .int .u8, .int .u8, .int .u8, .int .u8, .int .u8, .int .u8, .int .u8, .int .u8, .int .u8, .int .u8]⟩ := ⟨by kernel_rfl⟩
instance Tryz.ty165 : Ty Tryz.prog 165 ⟨.func, 1, 8, [.func]⟩ := ⟨by kernel_rfl⟩
instance Tryz.ty166 : Ty Tryz.prog 166 ⟨.array 32 5, 32, 32, [.int .u8, .int .u8, .int .u8, .int .u8, .int .u8, .int .u8, .int .u8, .int .u8, .int .u8, .int .u8, .int .u8, .int .u8, .int .u8, .int .u8, .int .u8, .int .u8, .int .u8, .int .u8, .int .u8, .int .u8, .int .u8, .int .u8, .int .u8, .int .u8, .int .u8, .int .u8, .int .u8, .int .u8, .int .u8, .int .u8, .int .u8, .int .u8]⟩ := ⟨by kernel_rfl⟩
instance Tryz.ty168 : Ty Tryz.prog 168 ⟨.func, 1, 8, [.func]⟩ := ⟨by kernel_rfl⟩
instance Tryz.ty169 : Ty Tryz.prog 169 ⟨.struct [(0, 17), (1, 17), (2, 17), (3, 9)], 4, 40, [.ptr, .ptr, .ptr, .str]⟩ := ⟨by kernel_rfl⟩
instance Tryz.ty170 : Ty Tryz.prog 170 ⟨.struct [(0, 17), (1, 17), (2, 17), (3, 9)], 4, 40, [.ptr, .ptr, .ptr, .str]⟩ := ⟨by kernel_rfl⟩
instance Tryz.ty171 : Ty Tryz.prog 171 ⟨.array 0 16, 0, 0, []⟩ := ⟨by kernel_rfl⟩
instance Tryz.ty172 : Ty Tryz.prog 172 ⟨.struct [(0, 171)], 0, 0, []⟩ := ⟨by kernel_rfl⟩
instance Tryz.ty173 : Ty Tryz.prog 173 ⟨.struct [(0, 171)], 0, 0, []⟩ := ⟨by kernel_rfl⟩
instance Tryz.ty174 : Ty Tryz.prog 174 ⟨.func, 1, 8, [.func]⟩ := ⟨by kernel_rfl⟩
instance Tryz.ty175 : Ty Tryz.prog 175 ⟨.int .u8, 1, 1, [.int .u8]⟩ := ⟨by kernel_rfl⟩
instance Tryz.ty176 : Ty Tryz.prog 176 ⟨.int .u8, 1, 1, [.int .u8]⟩ := ⟨by kernel_rfl⟩
instance Tryz.ty177 : Ty Tryz.prog 177 ⟨.func, 1, 8, [.func]⟩ := ⟨by kernel_rfl⟩
instance Tryz.ty178 : Ty Tryz.prog 178 ⟨.ptr 5, 1, 8, [.ptr]⟩ := ⟨by kernel_rfl⟩
instance Tryz.ty179 : Ty Tryz.prog 179 ⟨.int .i32, 1, 4, [.int .i32]⟩ := ⟨by kernel_rfl⟩
instance Tryz.ty180 : Ty Tryz.prog 180 ⟨.int .i32, 1, 4, [.int .i32]⟩ := ⟨by kernel_rfl⟩
instance Tryz.ty181 : Ty Tryz.prog 181 ⟨.struct [(0, 12), (1, 12), (2, 155), (3, 175), (4, 5), (5, 5), (6, 176), (7, 177), (8, 178), (9, 179), (10, 180)], 11, 48, [.int .u64, .int .u64, .int .u32, .int .u8, .int .u8, .int .u8, .int .u8, .func, .ptr, .int .i32, .int .i32]⟩ := ⟨by kernel_rfl⟩
instance Tryz.ty182 : Ty Tryz.prog 182 ⟨.struct [(0, 12), (1, 12), (2, 155), (3, 175), (4, 5), (5, 5), (6, 176), (7, 177), (8, 178), (9, 179), (10, 180)], 11, 48, [.int .u64, .int .u64, .int .u32, .int .u8, .int .u8, .int .u8, .int .u8, .func, .ptr, .int .i32, .int .i32]⟩ := ⟨by kernel_rfl⟩
instance Tryz.fn2 : FnOk Tryz.prog 2 := fnOk Tryz.func2 rfl (by kernel_rfl)
instance Tryz.fn3 : FnOk Tryz.prog 3 := fnOk Tryz.func3 rfl (by kernel_rfl)
instance Tryz.fn4 : FnOk Tryz.prog 4 := fnOk Tryz.func4 rfl (by kernel_rfl)
instance Tryz.fn5 : FnOk Tryz.prog 5 := fnOk Tryz.func5 rfl (by kernel_rfl)
instance Tryz.fn6 : FnOk Tryz.prog 6 := fnOk Tryz.func6 rfl (by kernel_rfl)
instance Tryz.fn7 : FnOk Tryz.prog 7 := fnOk Tryz.func7 rfl (by kernel_rfl)
instance Tryz.fn8 : FnOk Tryz.prog 8 := fnOk Tryz.func8 rfl (by kernel_rfl)
instance Tryz.fn9 : FnOk Tryz.prog 9 := fnOk Tryz.func9 rfl (by kernel_rfl)
instance Tryz.fn10 : FnOk Tryz.prog 10 := fnOk Tryz.func10 rfl (by kernel_rfl)
instance Tryz.fn11 : FnOk Tryz.prog 11 := fnOk Tryz.func11 rfl (by kernel_rfl)
instance Tryz.fn12 : FnOk Tryz.prog 12 := fnOk Tryz.func12 rfl (by kernel_rfl)
instance Tryz.fn13 : FnOk Tryz.prog 13 := fnOk Tryz.func13 rfl (by kernel_rfl)
instance Tryz.fn14 : FnOk Tryz.prog 14 := fnOk Tryz.func14 rfl (by kernel_rfl)
instance Tryz.fn15 : FnOk Tryz.prog 15 := fnOk Tryz.func15 rfl (by kernel_rfl)
instance Tryz.fn16 : FnOk Tryz.prog 16 := fnOk Tryz.func16 rfl (by kernel_rfl)
instance Tryz.fn17 : FnOk Tryz.prog 17 := fnOk Tryz.func17 rfl (by kernel_rfl)
instance Tryz.fn18 : FnOk Tryz.prog 18 := fnOk Tryz.func18 rfl (by kernel_rfl)
instance Tryz.fn19 : FnOk Tryz.prog 19 := fnOk Tryz.func19 rfl (by kernel_rfl)
instance Tryz.fn20 : FnOk Tryz.prog 20 := fnOk Tryz.func20 rfl (by kernel_rfl)
instance Tryz.fn21 : FnOk Tryz.prog 21 := fnOk Tryz.func21 rfl (by kernel_rfl)
instance Tryz.fn22 : FnOk Tryz.prog 22 := fnOk Tryz.func22 rfl (by kernel_rfl)
instance Tryz.fn23 : FnOk Tryz.prog 23 := fnOk Tryz.func23 rfl (by kernel_rfl)
instance Tryz.fn24 : FnOk Tryz.prog 24 := fnOk Tryz.func24 rfl (by kernel_rfl)
instance Tryz.fn25 : FnOk Tryz.prog 25 := fnOk Tryz.func25 rfl (by kernel_rfl)
instance Tryz.fn26 : FnOk Tryz.prog 26 := fnOk Tryz.func26 rfl (by kernel_rfl)
instance Tryz.fn27 : FnOk Tryz.prog 27 := fnOk Tryz.func27 rfl (by kernel_rfl)
instance Tryz.fn28 : FnOk Tryz.prog 28 := fnOk Tryz.func28 rfl (by kernel_rfl)
instance Tryz.fn29 : FnOk Tryz.prog 29 := fnOk Tryz.func29 rfl (by kernel_rfl)
instance Tryz.fn30 : FnOk Tryz.prog 30 := fnOk Tryz.func30 rfl (by kernel_rfl)
instance Tryz.fn31 : FnOk Tryz.prog 31 := fnOk Tryz.func31 rfl (by kernel_rfl)
instance Tryz.fn32 : FnOk Tryz.prog 32 := fnOk Tryz.func32 rfl (by kernel_rfl)
instance Tryz.fn33 : FnOk Tryz.prog 33 := fnOk Tryz.func33 rfl (by kernel_rfl)
instance Tryz.fn34 : FnOk Tryz.prog 34 := fnOk Tryz.func34 rfl (by kernel_rfl)
instance Tryz.fn35 : FnOk Tryz.prog 35 := fnOk Tryz.func35 rfl (by kernel_rfl)
instance Tryz.fn36 : FnOk Tryz.prog 36 := fnOk Tryz.func36 rfl (by kernel_rfl)
instance Tryz.fn37 : FnOk Tryz.prog 37 := fnOk Tryz.func37 rfl (by kernel_rfl)
instance Tryz.fn38 : FnOk Tryz.prog 38 := fnOk Tryz.func38 rfl (by kernel_rfl)
instance Tryz.fn39 : FnOk Tryz.prog 39 := fnOk Tryz.func39 rfl (by kernel_rfl)
instance Tryz.fn40 : FnOk Tryz.prog 40 := fnOk Tryz.func40 rfl (by kernel_rfl)
instance Tryz.fn41 : FnOk Tryz.prog 41 := fnOk Tryz.func41 rfl (by kernel_rfl)
instance Tryz.fn42 : FnOk Tryz.prog 42 := fnOk Tryz.func42 rfl (by kernel_rfl)
instance Tryz.fn43 : FnOk Tryz.prog 43 := fnOk Tryz.func43 rfl (by kernel_rfl)
instance Tryz.fn44 : FnOk Tryz.prog 44 := fnOk Tryz.func44 rfl (by kernel_rfl)
instance Tryz.fn45 : FnOk Tryz.prog 45 := fnOk Tryz.func45 rfl (by kernel_rfl)
instance Tryz.fn46 : FnOk Tryz.prog 46 := fnOk Tryz.func46 rfl (by kernel_rfl)
instance Tryz.fn47 : FnOk Tryz.prog 47 := fnOk Tryz.func47 rfl (by kernel_rfl)
instance Tryz.fn48 : FnOk Tryz.prog 48 := fnOk Tryz.func48 rfl (by kernel_rfl)
instance Tryz.fn49 : FnOk Tryz.prog 49 := fnOk Tryz.func49 rfl (by kernel_rfl)
instance Tryz.fn50 : FnOk Tryz.prog 50 := fnOk Tryz.func50 rfl (by kernel_rfl)
instance Tryz.fn51 : FnOk Tryz.prog 51 := fnOk Tryz.func51 rfl (by kernel_rfl)
instance Tryz.fn52 : FnOk Tryz.prog 52 := fnOk Tryz.func52 rfl (by kernel_rfl)
instance Tryz.fn53 : FnOk Tryz.prog 53 := fnOk Tryz.func53 rfl (by kernel_rfl)
instance Tryz.fn54 : FnOk Tryz.prog 54 := fnOk Tryz.func54 rfl (by kernel_rfl)
instance Tryz.fn55 : FnOk Tryz.prog 55 := fnOk Tryz.func55 rfl (by kernel_rfl)
instance Tryz.fn56 : FnOk Tryz.prog 56 := fnOk Tryz.func56 rfl (by kernel_rfl)
instance Tryz.fn57 : FnOk Tryz.prog 57 := fnOk Tryz.func57 rfl (by kernel_rfl)
instance Tryz.fn58 : FnOk Tryz.prog 58 := fnOk Tryz.func58 rfl (by kernel_rfl)
instance Tryz.fn59 : FnOk Tryz.prog 59 := fnOk Tryz.func59 rfl (by kernel_rfl)
instance Tryz.fn60 : FnOk Tryz.prog 60 := fnOk Tryz.func60 rfl (by kernel_rfl)
instance Tryz.fn61 : FnOk Tryz.prog 61 := fnOk Tryz.func61 rfl (by kernel_rfl)
instance Tryz.fn62 : FnOk Tryz.prog 62 := fnOk Tryz.func62 rfl (by kernel_rfl)
instance Tryz.fn63 : FnOk Tryz.prog 63 := fnOk Tryz.func63 rfl (by kernel_rfl)
instance Tryz.fn64 : FnOk Tryz.prog 64 := fnOk Tryz.func64 rfl (by kernel_rfl)
instance Tryz.fn65 : FnOk Tryz.prog 65 := fnOk Tryz.func65 rfl (by kernel_rfl)
instance Tryz.fn66 : FnOk Tryz.prog 66 := fnOk Tryz.func66 rfl (by kernel_rfl)
instance Tryz.fn67 : FnOk Tryz.prog 67 := fnOk Tryz.func67 rfl (by kernel_rfl)
instance Tryz.fn68 : FnOk Tryz.prog 68 := fnOk Tryz.func68 rfl (by kernel_rfl)
instance Tryz.fn69 : FnOk Tryz.prog 69 := fnOk Tryz.func69 rfl (by kernel_rfl)
instance Tryz.fn70 : FnOk Tryz.prog 70 := fnOk Tryz.func70 rfl (by kernel_rfl)
instance Tryz.fn71 : FnOk Tryz.prog 71 := fnOk Tryz.func71 rfl (by kernel_rfl)
instance Tryz.fn72 : FnOk Tryz.prog 72 := fnOk Tryz.func72 rfl (by kernel_rfl)
instance Tryz.fn73 : FnOk Tryz.prog 73 := fnOk Tryz.func73 rfl (by kernel_rfl)
instance Tryz.fn74 : FnOk Tryz.prog 74 := fnOk Tryz.func74 rfl (by kernel_rfl)
instance Tryz.fn75 : FnOk Tryz.prog 75 := fnOk Tryz.func75 rfl (by kernel_rfl)
instance Tryz.fn76 : FnOk Tryz.prog 76 := fnOk Tryz.func76 rfl (by kernel_rfl)
instance Tryz.fn77 : FnOk Tryz.prog 77 := fnOk Tryz.func77 rfl (by kernel_rfl)
instance Tryz.fn78 : FnOk Tryz.prog 78 := fnOk Tryz.func78 rfl (by kernel_rfl)
instance Tryz.fn79 : FnOk Tryz.prog 79 := fnOk Tryz.func79 rfl (by kernel_rfl)
instance Tryz.fn80 : FnOk Tryz.prog 80 := fnOk Tryz.func80 rfl (by kernel_rfl)
instance Tryz.fn81 : FnOk Tryz.prog 81 := fnOk Tryz.func81 rfl (by kernel_rfl)
instance Tryz.fn82 : FnOk Tryz.prog 82 := fnOk Tryz.func82 rfl (by kernel_rfl)
instance Tryz.fn83 : FnOk Tryz.prog 83 := fnOk Tryz.func83 rfl (by kernel_rfl)
instance Tryz.fn84 : FnOk Tryz.prog 84 := fnOk Tryz.func84 rfl (by kernel_rfl)
instance Tryz.fn85 : FnOk Tryz.prog 85 := fnOk Tryz.func85 rfl (by kernel_rfl)
instance Tryz.fn86 : FnOk Tryz.prog 86 := fnOk Tryz.func86 rfl (by kernel_rfl)
instance Tryz.fn87 : FnOk Tryz.prog 87 := fnOk Tryz.func87 rfl (by kernel_rfl)
instance Tryz.fn88 : FnOk Tryz.prog 88 := fnOk Tryz.func88 rfl (by kernel_rfl)
instance Tryz.fn89 : FnOk Tryz.prog 89 := fnOk Tryz.func89 rfl (by kernel_rfl)
instance Tryz.fn90 : FnOk Tryz.prog 90 := fnOk Tryz.func90 rfl (by kernel_rfl)
instance Tryz.fn91 : FnOk Tryz.prog 91 := fnOk Tryz.func91 rfl (by kernel_rfl)
instance Tryz.fn92 : FnOk Tryz.prog 92 := fnOk Tryz.func92 rfl (by kernel_rfl)
instance Tryz.fn93 : FnOk Tryz.prog 93 := fnOk Tryz.func93 rfl (by kernel_rfl)
instance Tryz.fn94 : FnOk Tryz.prog 94 := fnOk Tryz.func94 rfl (by kernel_rfl)
instance Tryz.fn95 : FnOk Tryz.prog 95 := fnOk Tryz.func95 rfl (by kernel_rfl)
instance Tryz.fn96 : FnOk Tryz.prog 96 := fnOk Tryz.func96 rfl (by kernel_rfl)
instance Tryz.fn97 : FnOk Tryz.prog 97 := fnOk Tryz.func97 rfl (by kernel_rfl)
instance Tryz.fn98 : FnOk Tryz.prog 98 := fnOk Tryz.func98 rfl (by kernel_rfl)
instance Tryz.fn99 : FnOk Tryz.prog 99 := fnOk Tryz.func99 rfl (by kernel_rfl)
instance Tryz.fn100 : FnOk Tryz.prog 100 := fnOk Tryz.func100 rfl (by kernel_rfl)
instance Tryz.fn101 : FnOk Tryz.prog 101 := fnOk Tryz.func101 rfl (by kernel_rfl)
instance Tryz.fn102 : FnOk Tryz.prog 102 := fnOk Tryz.func102 rfl (by kernel_rfl)
instance Tryz.fn103 : FnOk Tryz.prog 103 := fnOk Tryz.func103 rfl (by kernel_rfl)
instance Tryz.fn104 : FnOk Tryz.prog 104 := fnOk Tryz.func104 rfl (by kernel_rfl)
instance Tryz.fn105 : FnOk Tryz.prog 105 := fnOk Tryz.func105 rfl (by kernel_rfl)
instance Tryz.fn106 : FnOk Tryz.prog 106 := fnOk Tryz.func106 rfl (by kernel_rfl)
instance Tryz.fn107 : FnOk Tryz.prog 107 := fnOk Tryz.func107 rfl (by kernel_rfl)
instance Tryz.fn108 : FnOk Tryz.prog 108 := fnOk Tryz.func108 rfl (by kernel_rfl)
instance Tryz.fn109 : FnOk Tryz.prog 109 := fnOk Tryz.func109 rfl (by kernel_rfl)
instance Tryz.fn110 : FnOk Tryz.prog 110 := fnOk Tryz.func110 rfl (by kernel_rfl)
instance Tryz.fn111 : FnOk Tryz.prog 111 := fnOk Tryz.func111 rfl (by kernel_rfl)
instance Tryz.fn112 : FnOk Tryz.prog 112 := fnOk Tryz.func112 rfl (by kernel_rfl)
instance Tryz.fn113 : FnOk Tryz.prog 113 := fnOk Tryz.func113 rfl (by kernel_rfl)
instance Tryz.fn114 : FnOk Tryz.prog 114 := fnOk Tryz.func114 rfl (by kernel_rfl)
instance Tryz.fn115 : FnOk Tryz.prog 115 := fnOk Tryz.func115 rfl (by kernel_rfl)
instance Tryz.fn116 : FnOk Tryz.prog 116 := fnOk Tryz.func116 rfl (by kernel_rfl)
instance Tryz.fn117 : FnOk Tryz.prog 117 := fnOk Tryz.func117 rfl (by kernel_rfl)
instance Tryz.fn118 : FnOk Tryz.prog 118 := fnOk Tryz.func118 rfl (by kernel_rfl)
instance Tryz.fn119 : FnOk Tryz.prog 119 := fnOk Tryz.func119 rfl (by kernel_rfl)
instance Tryz.fn120 : FnOk Tryz.prog 120 := fnOk Tryz.func120 rfl (by kernel_rfl)
instance Tryz.fn121 : FnOk Tryz.prog 121 := fnOk Tryz.func121 rfl (by kernel_rfl)
instance Tryz.fn123 : FnOk Tryz.prog 123 := fnOk Tryz.func123 rfl (by kernel_rfl)
instance Tryz.fn124 : FnOk Tryz.prog 124 := fnOk Tryz.func124 rfl (by kernel_rfl)
instance Tryz.fn125 : FnOk Tryz.prog 125 := fnOk Tryz.func125 rfl (by kernel_rfl)
instance Tryz.fn126 : FnOk Tryz.prog 126 := fnOk Tryz.func126 rfl (by kernel_rfl)
instance Tryz.fn127 : FnOk Tryz.prog 127 := fnOk Tryz.func127 rfl (by kernel_rfl)
instance Tryz.fn128 : FnOk Tryz.prog 128 := fnOk Tryz.func128 rfl (by kernel_rfl)
instance Tryz.fn129 : FnOk Tryz.prog 129 := fnOk Tryz.func129 rfl (by kernel_rfl)
instance Tryz.fn130 : FnOk Tryz.prog 130 := fnOk Tryz.func130 rfl (by kernel_rfl)
instance Tryz.fn132 : FnOk Tryz.prog 132 := fnOk Tryz.func132 rfl (by kernel_rfl)
instance Tryz.fn133 : FnOk Tryz.prog 133 := fnOk Tryz.func133 rfl (by kernel_rfl)
instance Tryz.fn134 : FnOk Tryz.prog 134 := fnOk Tryz.func134 rfl (by kernel_rfl)
instance Tryz.fn135 : FnOk Tryz.prog 135 := fnOk Tryz.func135 rfl (by kernel_rfl)
instance Tryz.fn137 : FnOk Tryz.prog 137 := fnOk Tryz.func137 rfl (by kernel_rfl)
instance Tryz.fn153 : FnOk Tryz.prog 153 := fnOk Tryz.func153 rfl (by kernel_rfl)
instance Tryz.fn154 : FnOk Tryz.prog 154 := fnOk Tryz.func154 rfl (by kernel_rfl)
instance Tryz.fn163 : FnOk Tryz.prog 163 := fnOk Tryz.func163 rfl (by kernel_rfl)
theorem Tryz.eql44 : EqL Tryz.prog 2 44 ⟨.struct [(0, 3), (1, 3)], 2, 16, [.int .i64, .int .i64]⟩ := eqL_struct Tryz.ty44 (by kernel_rfl) ⟨rfl, _, Tryz.ty3, fun _ => rfl, (eqL_int Tryz.ty3).mono (by decide), rfl, _, Tryz.ty3, fun _ => rfl, (eqL_int Tryz.ty3).mono (by decide), rfl⟩
instance Tryz.eqc44 : EqC Tryz.prog 44 ⟨.struct [(0, 3), (1, 3)], 2, 16, [.int .i64, .int .i64]⟩ := ⟨⟨2, by decide, Tryz.eql44⟩, by kernel_rfl, rfl⟩
theorem Tryz.eql50 : EqL Tryz.prog 2 50 ⟨.struct [(0, 3), (1, 3), (2, 3), (3, 3)], 4, 32, [.int .i64, .int .i64, .int .i64, .int .i64]⟩ := eqL_struct Tryz.ty50 (by kernel_rfl) ⟨rfl, _, Tryz.ty3, fun _ => rfl, (eqL_int Tryz.ty3).mono (by decide), rfl, _, Tryz.ty3, fun _ => rfl, (eqL_int Tryz.ty3).mono (by decide), rfl, _, Tryz.ty3, fun _ => rfl, (eqL_int Tryz.ty3).mono (by decide), rfl, _, Tryz.ty3, fun _ => rfl, (eqL_int Tryz.ty3).mono (by decide), rfl⟩
instance Tryz.eqc50 : EqC Tryz.prog 50 ⟨.struct [(0, 3), (1, 3), (2, 3), (3, 3)], 4, 32, [.int .i64, .int .i64, .int .i64, .int .i64]⟩ := ⟨⟨2, by decide, Tryz.eql50⟩, by kernel_rfl, rfl⟩
theorem Tryz.eql52 : EqL Tryz.prog 3 52 ⟨.struct [(0, 3), (1, 3), (2, 44), (4, 3), (5, 3), (6, 50)], 10, 80, [.int .i64, .int .i64, .int .i64, .int .i64, .int .i64, .int .i64, .int .i64, .int .i64, .int .i64, .int .i64]⟩ := eqL_struct Tryz.ty52 (by kernel_rfl) ⟨rfl, _, Tryz.ty3, fun _ => rfl, (eqL_int Tryz.ty3).mono (by decide), rfl, _, Tryz.ty3, fun _ => rfl, (eqL_int Tryz.ty3).mono (by decide), rfl, _, Tryz.ty44, (fun h => absurd h (by decide)), Tryz.eql44.mono (by decide), rfl, _, Tryz.ty3, fun _ => rfl, (eqL_int Tryz.ty3).mono (by decide), rfl, _, Tryz.ty3, fun _ => rfl, (eqL_int Tryz.ty3).mono (by decide), rfl, _, Tryz.ty50, (fun h => absurd h (by decide)), Tryz.eql50.mono (by decide), rfl⟩
instance Tryz.eqc52 : EqC Tryz.prog 52 ⟨.struct [(0, 3), (1, 3), (2, 44), (4, 3), (5, 3), (6, 50)], 10, 80, [.int .i64, .int .i64, .int .i64, .int .i64, .int .i64, .int .i64, .int .i64, .int .i64, .int .i64, .int .i64]⟩ := ⟨⟨3, by decide, Tryz.eql52⟩, by kernel_rfl, rfl⟩
end Go.Proofs


namespace Go.Proofs
open Go Go.Sx

/-! # What is plain about pay -/

def inB (x lo hi : Int) : Bool := decide (lo ≤ x) && decide (x ≤ hi)
theorem inB_iff {x lo hi : Int} : inB x lo hi = true ↔ lo ≤ x ∧ x ≤ hi := by simp [inB]

structure Mon where
  p : Int
  s : Int
  d : Int
  f : Int
  deriving DecidableEq
structure Lin where
  hand : Int
  sheets : Int
  lo : Int
  hi : Int
  mor : Int
  pos : Int
  paid : Mon
  deriving DecidableEq
structure Bk where
  hands : Int
  unit : Int
  sheet : Int
  error : Int
  morning : Int
  post : Int
  lines : List Lin
  deriving DecidableEq

abbrev iv (i : Int) : Value := .int .i64 i
@[reducible] def monC (m : Mon) : List Value := [.int .i64 m.p, .int .i64 m.s, .int .i64 m.d, .int .i64 m.f]
@[reducible] def monV (m : Mon) : Value := .agg (monC m).toArray
@[reducible] def linC (l : Lin) : List Value := [.int .i64 l.hand, .int .i64 l.sheets, .int .i64 l.lo, .int .i64 l.hi, .int .i64 l.mor, .int .i64 l.pos, .int .i64 l.paid.p, .int .i64 l.paid.s, .int .i64 l.paid.d, .int .i64 l.paid.f]
@[reducible] def linV (l : Lin) : Value := .agg (linC l).toArray
@[reducible] def bkC (b : Bk) (a : Option Addr) (c : Nat) : List Value := [.int .i64 b.hands, .int .i64 b.unit, .int .i64 b.sheet, .int .i64 b.error, .int .i64 b.morning, .int .i64 b.post, .slice a b.lines.length c]
@[reducible] def bkV (b : Bk) (a : Option Addr) (c : Nat) : Value := .agg (bkC b a c).toArray

def isMon (m : Mon) : Bool := inB m.p 0 999 && inB m.s 0 19 && inB m.d 0 11 && inB m.f 0 3
def isSum (n : Int) : Bool := inB n 0 959999
def monN (m : Mon) : Int := 960 * m.p + 48 * m.s + 4 * m.d + m.f
def monOf (n : Int) : Mon := ⟨n / 960, n / 48 % 20, n / 4 % 12, n % 4⟩

theorem isMon_b {m : Mon} (h : isMon m = true) : (0 ≤ m.p ∧ m.p ≤ 999) ∧ (0 ≤ m.s ∧ m.s ≤ 19) ∧ (0 ≤ m.d ∧ m.d ≤ 11) ∧ (0 ≤ m.f ∧ m.f ≤ 3) := by
  simp only [isMon, inB, Bool.and_eq_true, decide_eq_true_eq] at h; omega
theorem isSum_b {n : Int} (h : isSum n = true) : 0 ≤ n ∧ n ≤ 959999 := by
  simpa only [isSum, inB, Bool.and_eq_true, decide_eq_true_eq] using h

/-! ### Lines, books, truths -/

def isLin (h : Int) (l : Lin) : Bool :=
  inB l.lo 0 20 && inB l.hi l.lo (min 20 (l.lo + 3)) && inB l.hand 0 (h - 1) && inB l.sheets 0 20 && inB l.mor 0 10 && inB l.pos 0 10 && isMon l.paid
def isBk (b : Bk) : Bool :=
  inB b.hands 1 3 && inB b.unit 1 48 && inB b.lines.length 1 5 && inB b.sheet 0 800 && inB b.error 0 800 && inB b.morning 0 800 && inB b.post 0 800 && b.lines.all (isLin b.hands)
def truOk : List Lin → List Int → Bool
  | [], [] => true
  | l :: ls, e :: es => inB e l.lo l.hi && truOk ls es
  | _, _ => false

theorem truOk_iff : ∀ {ls : List Lin} {t : List Int}, truOk ls t = true ↔ t.length = ls.length ∧ ∀ (j : Nat) l e, ls[j]? = some l → t[j]? = some e → inB e l.lo l.hi = true
  | [], [] => by simp [truOk]
  | [], e :: es => by simp [truOk]
  | l :: ls, [] => by simp [truOk]
  | l :: ls, e :: es => by
    simp only [truOk, Bool.and_eq_true, truOk_iff (ls := ls) (t := es), List.length_cons, Nat.add_right_cancel_iff]
    constructor
    · rintro ⟨h1, h2, h3⟩
      refine ⟨h2, fun j l' e' hl he => ?_⟩
      cases j with
      | zero => simp at hl he; subst hl; subst he; exact h1
      | succ j => exact h3 j l' e' (by simpa using hl) (by simpa using he)
    · rintro ⟨h1, h2⟩
      exact ⟨h2 0 l e rfl rfl, h1, fun j l' e' hl he => h2 (j + 1) l' e' (by simpa using hl) (by simpa using he)⟩

theorem all_succ {P : Nat → Prop} {k : Nat} (h : ∀ j, j < k → P j) (hk : P k) : ∀ j, j < k + 1 → P j := fun j hj => by
  rcases Nat.lt_succ_iff_lt_or_eq.1 hj with h1 | h1
  · exact h j h1
  · exact h1 ▸ hk

theorem all_of_get {α : Type} {p : α → Bool} {xs : List α} (h : ∀ j, j < xs.length → ∀ y, xs[j]? = some y → p y = true) : xs.all p = true := by
  rw [List.all_eq_true]
  intro y hy
  obtain ⟨j, hj⟩ := List.mem_iff_getElem?.1 hy
  exact h j (List.getElem?_eq_some_iff.1 hj).1 y hj

theorem not_all_of_get {α : Type} {p : α → Bool} {xs : List α} {j : Nat} {y : α} (h : xs[j]? = some y) (hp : p y = false) : xs.all p = false := by
  rw [Bool.eq_false_iff]
  intro h2
  rw [List.all_eq_true] at h2
  have := h2 y (List.mem_of_getElem? h)
  rw [hp] at this; cases this

theorem map_get {α β : Type} {f : α → β} {xs : List α} {k : Nat} {y : α} (h : xs[k]? = some y) : (xs.map f)[k]? = some (f y) := by
  rw [List.getElem?_map, h]; rfl

theorem some_get {α : Type} {xs : List α} {k : Nat} (h : k < xs.length) : ∃ y, xs[k]? = some y := ⟨_, List.getElem?_eq_getElem h⟩

/-- Ints as rows. -/
@[reducible] def intC (i : Int) : List Value := [.int .i64 i]
@[reducible] def ints (xs : List Int) : List (List Value) := xs.map intC
@[reducible] def spanC (s : Int × Int) : List Value := [.int .i64 s.1, .int .i64 s.2]
@[reducible] def spanV (s : Int × Int) : Value := .agg (spanC s).toArray
@[reducible] def spans (xs : List (Int × Int)) : List (List Value) := xs.map spanC

def sumI (xs : List Int) : Int := xs.foldl (· + ·) 0
theorem sumI_nil : sumI [] = 0 := rfl
theorem sumI_snoc (xs : List Int) (y : Int) : sumI (xs ++ [y]) = sumI xs + y := by simp [sumI]
theorem take_snoc {α : Type} {xs : List α} {k : Nat} {y : α} (h : xs[k]? = some y) : xs.take (k + 1) = xs.take k ++ [y] := by
  rw [List.take_add_one, h]; rfl
theorem sumI_take {xs : List Int} {k : Nat} {y : Int} (h : xs[k]? = some y) : sumI (xs.take (k + 1)) = sumI (xs.take k) + y := by
  rw [take_snoc h, sumI_snoc]
theorem sumI_bd {B : Int} (hB : 0 ≤ B) : ∀ {xs : List Int}, (∀ x ∈ xs, 0 ≤ x ∧ x ≤ B) → ∀ k, 0 ≤ sumI (xs.take k) ∧ sumI (xs.take k) ≤ k * B := by
  intro xs h k
  induction k with
  | zero => simp [sumI]
  | succ k ih =>
    by_cases hk : k < xs.length
    · obtain ⟨y, hy⟩ := some_get hk
      have := h y (List.mem_of_getElem? hy)
      rw [sumI_take hy]
      have e : ((k + 1 : Nat) : Int) * B = (k : Int) * B + B := by rw [Int.natCast_add, Int.add_mul]; simp
      omega
    · have e1 : xs.take (k + 1) = xs := List.take_of_length_le (by omega)
      have e2 : xs.take k = xs := List.take_of_length_le (by omega)
      rw [e2] at ih
      rw [e1]
      have e : ((k + 1 : Nat) : Int) * B = (k : Int) * B + B := by rw [Int.natCast_add, Int.add_mul]; simp
      omega

/-- The first of what is so, or -1. -/
def idxI {α : Type} (p : α → Bool) : List α → Int
  | [] => -1
  | x :: xs => if p x then 0 else if idxI p xs < 0 then -1 else idxI p xs + 1
theorem idxI_any {α : Type} {p : α → Bool} : ∀ {xs : List α}, decide (0 ≤ idxI p xs) = xs.any p
  | [] => rfl
  | x :: xs => by
    have ih := idxI_any (p := p) (xs := xs)
    rw [List.any_cons, ← ih]
    by_cases hp : p x = true
    · simp [idxI, hp]
    · have hp' : p x = false := by simpa using hp
      simp only [idxI, hp', Bool.false_eq_true, if_false, Bool.false_or]
      split
      · rename_i h; simp; omega
      · rename_i h; simp; omega
theorem idxI_found {α : Type} {p : α → Bool} : ∀ {xs : List α} {k : Nat} {y : α}, (∀ j, j < k → ∀ y, xs[j]? = some y → p y = false) → xs[k]? = some y → p y = true → idxI p xs = k
  | x :: xs, 0, y, _, h, hp => by simp at h; subst h; simp [idxI, hp]
  | x :: xs, k + 1, y, hn, h, hp => by
    have h0 := hn 0 (Nat.succ_pos _) x rfl
    have ih := idxI_found (p := p) (xs := xs) (k := k) (y := y) (fun j hj y hy => hn (j + 1) (by omega) y (by simpa using hy)) (by simpa using h) hp
    simp only [idxI, h0, Bool.false_eq_true, if_false, ih]
    rw [if_neg (by omega)]; simp
theorem idxI_none {α : Type} {p : α → Bool} : ∀ {xs : List α}, (∀ j, j < xs.length → ∀ y, xs[j]? = some y → p y = false) → idxI p xs = -1
  | [], _ => rfl
  | x :: xs, hn => by
    have h0 := hn 0 (by simp) x rfl
    have ih := idxI_none (p := p) (xs := xs) (fun j hj y hy => hn (j + 1) (by simpa using hj) y (by simpa using hy))
    simp [idxI, h0, ih]

theorem isBk_b {b : Bk} (h : isBk b = true) : (1 ≤ b.hands ∧ b.hands ≤ 3) ∧ (1 ≤ b.unit ∧ b.unit ≤ 48) ∧ (1 ≤ b.lines.length ∧ b.lines.length ≤ 5) ∧ (0 ≤ b.sheet ∧ b.sheet ≤ 800) ∧ (0 ≤ b.error ∧ b.error ≤ 800) ∧ (0 ≤ b.morning ∧ b.morning ≤ 800) ∧ (0 ≤ b.post ∧ b.post ≤ 800) := by
  simp only [isBk, inB, Bool.and_eq_true, decide_eq_true_eq] at h; omega
theorem isBk_l {b : Bk} (h : isBk b = true) {l : Lin} (hl : l ∈ b.lines) : isLin b.hands l = true := by
  simp only [isBk, Bool.and_eq_true, List.all_eq_true] at h
  exact h.2 l hl
theorem isLin_b {h : Int} {l : Lin} (hl : isLin h l = true) : (0 ≤ l.lo ∧ l.lo ≤ 20) ∧ (l.lo ≤ l.hi ∧ l.hi ≤ 20 ∧ l.hi ≤ l.lo + 3) ∧ (0 ≤ l.hand ∧ l.hand ≤ h - 1) ∧ (0 ≤ l.sheets ∧ l.sheets ≤ 20) ∧ (0 ≤ l.mor ∧ l.mor ≤ 10) ∧ (0 ≤ l.pos ∧ l.pos ≤ 10) ∧ isMon l.paid = true := by
  simp only [isLin, inB, Bool.and_eq_true, decide_eq_true_eq] at hl
  refine ⟨?_, ?_, ?_, ?_, ?_, ?_, hl.2⟩ <;> omega

theorem eq_of_get {α : Type} {xs ys : List α} (h : xs.length = ys.length) (hall : ∀ j, j < xs.length → ∀ y z, xs[j]? = some y → ys[j]? = some z → y = z) : xs = ys := by
  apply List.ext_getElem h
  intro i h1 h2
  exact hall i h1 _ _ (List.getElem?_eq_getElem h1) (List.getElem?_eq_getElem h2)
theorem ne_of_get {α : Type} {xs ys : List α} {k : Nat} {y z : α} (hy : xs[k]? = some y) (hz : ys[k]? = some z) (hne : y ≠ z) : xs ≠ ys := fun h => by
  subst h; rw [hy] at hz; cases hz; exact hne rfl
theorem ne_of_len {α : Type} {xs ys : List α} (h : ¬ (xs.length = ys.length)) : xs ≠ ys := fun e => h (by rw [e])

/-- Lexicographic order. -/
def befI : List Int → List Int → Bool
  | x :: xs, y :: ys => if x = y then befI xs ys else decide (x < y)
  | [], _ :: _ => true
  | _, [] => false
theorem befI_at : ∀ {xs ys : List Int} {k : Nat} {y z : Int}, (∀ j, j < k → ∀ y z, xs[j]? = some y → ys[j]? = some z → y = z) → xs[k]? = some y → ys[k]? = some z → y ≠ z → befI xs ys = decide (y < z)
  | x :: xs, u :: ys, 0, y, z, _, hy, hz, hne => by
    simp at hy hz; subst hy; subst hz; simp [befI, hne]
  | x :: xs, u :: ys, k + 1, y, z, h, hy, hz, hne => by
    have h0 := h 0 (Nat.succ_pos _) x u rfl rfl
    simp only [befI, h0, if_true]
    exact befI_at (fun j hj y z h1 h2 => h (j + 1) (Nat.succ_lt_succ hj) y z (by simpa using h1) (by simpa using h2)) (by simpa using hy) (by simpa using hz) hne
  | [], _, _, _, _, _, hy, _, _ => by simp at hy
  | _ :: _, [], _, _, _, _, _, hz, _ => by simp at hz
theorem befI_end : ∀ {xs ys : List Int}, (∀ j, j < min xs.length ys.length → ∀ y z, xs[j]? = some y → ys[j]? = some z → y = z) → befI xs ys = decide (xs.length < ys.length)
  | [], [], _ => by simp [befI]
  | [], _ :: _, _ => by simp [befI]
  | _ :: _, [], _ => by simp [befI]
  | x :: xs, y :: ys, h => by
    have h0 := h 0 (by simp) x y rfl rfl
    simp only [befI, h0, if_true, List.length_cons, Nat.add_lt_add_iff_right]
    exact befI_end (fun j hj a b h1 h2 => h (j + 1) (by have := hj; simp only [List.length_cons]; omega) a b (by simpa using h1) (by simpa using h2))

/-! ### Money made of farthings -/

def wrt (k : Nat) : Int := [960, 48, 4, 1].getD k 1
def remK (n : Int) : Nat → Int
  | 0 => n
  | k + 1 => remK n k % wrt k
def digK (n : Int) : Nat → List Int
  | 0 => []
  | k + 1 => digK n k ++ [remK n k / wrt k]
theorem wrt_get {k : Nat} (h : k < 4) : ([.int .i64 960, .int .i64 48, .int .i64 4, .int .i64 1] : List Value)[k]? = some (.int .i64 (wrt k)) := by
  match k, h with
  | 0, _ => rfl
  | 1, _ => rfl
  | 2, _ => rfl
  | 3, _ => rfl
theorem wrt_pos (k : Nat) : 0 < wrt k := by
  match k with
  | 0 => decide
  | 1 => decide
  | 2 => decide
  | 3 => decide
  | k + 4 => exact Int.zero_lt_one
theorem remK_b {n : Int} (h : 0 ≤ n ∧ n ≤ 959999) : ∀ k, 0 ≤ remK n k ∧ remK n k ≤ 959999
  | 0 => h
  | k + 1 => by
    have ih := remK_b h k
    have hp := wrt_pos k
    have h1 := Int.emod_nonneg (remK n k) (Int.ne_of_gt hp)
    have h2 : remK n k % wrt k ≤ remK n k := by
      have := Int.mul_ediv_add_emod (remK n k) (wrt k)
      have h3 : 0 ≤ wrt k * (remK n k / wrt k) := Int.mul_nonneg (Int.le_of_lt hp) (Int.ediv_nonneg ih.1 (Int.le_of_lt hp))
      omega
    exact ⟨h1, Int.le_trans h2 ih.2⟩
theorem ints_snoc (xs : List Int) (y : Int) : ints (xs ++ [y]) = ints xs ++ [intC y] := by simp
def payMoney (n : Int) : Mon × Int := if isSum n then (monOf n, 0) else (⟨0, 0, 0, 0⟩, 2)
def payFar (m : Mon) : Int × Int := if isMon m then (monN m, 0) else (0, 2)
theorem dig_of {n : Int} (h : 0 ≤ n ∧ n ≤ 959999) : (⟨n / 960, n % 960 / 48, n % 960 % 48 / 4, n % 960 % 48 % 4 / 1⟩ : Mon) = monOf n := by
  rw [monOf, Mon.mk.injEq]; exact ⟨rfl, by omega, by omega, by omega⟩

theorem emod_bd (a : Int) {b : Int} (h : 0 < b) : 0 ≤ a % b ∧ a % b < b := ⟨Int.emod_nonneg _ (by omega), Int.emod_lt_of_pos _ h⟩

/-! ### What is owed, what is paid -/

def partS (b : Bk) (l : Lin) (e : Int) (j : Nat) : Int :=
  match j with
  | 0 => max 0 (b.sheet * l.sheets - b.error * e)
  | 1 => b.morning * l.mor
  | _ => b.post * l.pos
def owesL (b : Bk) (l : Lin) (e : Int) : Int := max 0 (b.sheet * l.sheets - b.error * e) + b.morning * l.mor + b.post * l.pos
def owK (b : Bk) (l : Lin) (e : Int) : Nat → Int
  | 0 => 0
  | j + 1 => owK b l e j + partS b l e j
theorem owK3 (b : Bk) (l : Lin) (e : Int) : owK b l e 3 = owesL b l e := by simp [owK, partS, owesL]

def payK (b : Bk) (t : List Int) : Nat → List Int × (Int → Int)
  | 0 => ([], fun _ => 0)
  | k + 1 => match b.lines[k]?, t[k]? with
    | some l, some e => ((payK b t k).1 ++ [(owesL b l e + (payK b t k).2 l.hand) - (owesL b l e + (payK b t k).2 l.hand) % b.unit], upd (payK b t k).2 l.hand ((owesL b l e + (payK b t k).2 l.hand) % b.unit))
    | _, _ => payK b t k
theorem payK_succ {b : Bk} {t : List Int} {k : Nat} {l : Lin} {e : Int} (hl : b.lines[k]? = some l) (he : t[k]? = some e) :
    payK b t (k + 1) = ((payK b t k).1 ++ [(owesL b l e + (payK b t k).2 l.hand) - (owesL b l e + (payK b t k).2 l.hand) % b.unit], upd (payK b t k).2 l.hand ((owesL b l e + (payK b t k).2 l.hand) % b.unit)) := by
  simp only [payK, hl, he]
def paysL (b : Bk) (t : List Int) : List Int := (payK b t b.lines.length).1
def restF (b : Bk) (t : List Int) : Int → Int := (payK b t b.lines.length).2

theorem prodB {b : Bk} {l : Lin} {e : Int} (hb : isBk b = true) (hl : l ∈ b.lines) (he : 0 ≤ e ∧ e ≤ 20) :
    (0 ≤ b.sheet * l.sheets ∧ b.sheet * l.sheets ≤ 16000) ∧ (0 ≤ b.error * e ∧ b.error * e ≤ 16000) ∧ (0 ≤ b.morning * l.mor ∧ b.morning * l.mor ≤ 8000) ∧ (0 ≤ b.post * l.pos ∧ b.post * l.pos ≤ 8000) := by
  have h1 := isBk_b hb
  have h2 := isLin_b (isBk_l hb hl)
  refine ⟨mul_bd (B := 800) (C := 20) ?_ ?_ ?_ ?_, mul_bd (B := 800) (C := 20) ?_ ?_ ?_ ?_, mul_bd (B := 800) (C := 10) ?_ ?_ ?_ ?_, mul_bd (B := 800) (C := 10) ?_ ?_ ?_ ?_⟩ <;> omega

theorem owesL_b {b : Bk} {l : Lin} {e : Int} (hb : isBk b = true) (hl : l ∈ b.lines) (he : 0 ≤ e ∧ e ≤ 20) : 0 ≤ owesL b l e ∧ owesL b l e ≤ 32000 := by
  have := prodB hb hl he
  unfold owesL; omega

theorem truOk_e {b : Bk} {t : List Int} (hb : isBk b = true) (ht : truOk b.lines t = true) {k : Nat} {l : Lin} {e : Int} (hl : b.lines[k]? = some l) (he : t[k]? = some e) : (l.lo ≤ e ∧ e ≤ l.hi) ∧ 0 ≤ e ∧ e ≤ 20 := by
  have h1 := inB_iff.1 ((truOk_iff.1 ht).2 k l e hl he)
  have h2 := isLin_b (isBk_l hb (List.mem_of_getElem? hl))
  omega

theorem payK_b {b : Bk} {t : List Int} (hb : isBk b = true) : ∀ (k : Nat) (h : Int), 0 ≤ (payK b t k).2 h ∧ (payK b t k).2 h < b.unit
  | 0, h => by have := isBk_b hb; show 0 ≤ (0 : Int) ∧ (0 : Int) < b.unit; omega
  | k + 1, h => by
    have ih := payK_b (t := t) hb k
    simp only [payK]
    split
    · rename_i l e h1 h2
      simp only [upd]
      split
      · have := isBk_b hb
        exact ⟨Int.emod_nonneg _ (by omega), Int.emod_lt_of_pos _ (by omega)⟩
      · exact ih h
    · exact ih h

theorem payK_len {b : Bk} {t : List Int} (h : t.length = b.lines.length) : ∀ k, k ≤ b.lines.length → (payK b t k).1.length = k
  | 0, _ => rfl
  | k + 1, hk => by
    obtain ⟨l, hl⟩ := some_get (xs := b.lines) (k := k) (by omega)
    obtain ⟨e, he⟩ := some_get (xs := t) (k := k) (by omega)
    rw [payK_succ hl he]
    simp [payK_len h k (by omega)]

@[reducible] def acC (b : Bk) (a : Option Addr) (c : Nat) (t : List Int) (ta : Option Addr) (tc : Nat) : List Value := [.int .i64 b.hands, .int .i64 b.unit, .int .i64 b.sheet, .int .i64 b.error, .int .i64 b.morning, .int .i64 b.post, .slice a b.lines.length c, .slice ta t.length tc]
@[reducible] def acV (b : Bk) (a : Option Addr) (c : Nat) (t : List Int) (ta : Option Addr) (tc : Nat) : Value := .agg (acC b a c t ta tc).toArray

theorem paysL_len {b : Bk} {t : List Int} (h : t.length = b.lines.length) : (paysL b t).length = b.lines.length := payK_len h _ (Nat.le_refl _)

theorem payK_xb {b : Bk} {t : List Int} (hb : isBk b = true) (ht : truOk b.lines t = true) : ∀ (k : Nat), ∀ x ∈ (payK b t k).1, 0 ≤ x ∧ x ≤ 32048
  | 0, x, h => by cases h
  | k + 1, x, h => by
    have ih := payK_xb hb ht k
    simp only [payK] at h
    split at h
    · rename_i l e h1 h2
      rcases List.mem_append.1 h with h | h
      · exact ih x h
      · have hx := List.mem_singleton.1 h
        have h3 := owesL_b hb (List.mem_of_getElem? h1) (truOk_e hb ht h1 h2).2
        have h4 := payK_b (t := t) hb k l.hand
        have h5 := isBk_b hb
        have h6 := emod_bd (owesL b l e + (payK b t k).2 l.hand) (b := b.unit) (by omega)
        have h7 : (owesL b l e + (payK b t k).2 l.hand) % b.unit ≤ owesL b l e + (payK b t k).2 l.hand := by
          have h8 := Int.mul_ediv_add_emod (owesL b l e + (payK b t k).2 l.hand) b.unit
          have h9 : 0 ≤ b.unit * ((owesL b l e + (payK b t k).2 l.hand) / b.unit) := Int.mul_nonneg (by omega) (Int.ediv_nonneg (by omega) (by omega))
          omega
        omega
    · exact ih x h

theorem paysL_xb {b : Bk} {t : List Int} (hb : isBk b = true) (ht : truOk b.lines t = true) : ∀ x ∈ paysL b t, 0 ≤ x ∧ x ≤ 32048 := payK_xb hb ht _

/-- What a hand is paid in the first lines. -/
def toK (b : Bk) (t : List Int) (h : Int) : Nat → Int
  | 0 => 0
  | k + 1 => match b.lines[k]?, (paysL b t)[k]? with
    | some l, some x => if l.hand = h then toK b t h k + x else toK b t h k
    | _, _ => toK b t h k
def toL (b : Bk) (t : List Int) (h : Int) : Int := toK b t h b.lines.length
theorem toK_succ {b : Bk} {t : List Int} {h : Int} {k : Nat} {l : Lin} {x : Int} (h1 : b.lines[k]? = some l) (h2 : (paysL b t)[k]? = some x) : toK b t h (k + 1) = if l.hand = h then toK b t h k + x else toK b t h k := by
  simp only [toK, h1, h2]
theorem toK_b {b : Bk} {t : List Int} {h : Int} (hb : isBk b = true) (ht : truOk b.lines t = true) : ∀ k, 0 ≤ toK b t h k ∧ toK b t h k ≤ k * 32048
  | 0 => by simp [toK]
  | k + 1 => by
    have ih := toK_b (h := h) hb ht k
    simp only [toK]
    split
    · rename_i l x h1 h2
      have := paysL_xb hb ht x (List.mem_of_getElem? h2)
      split <;> omega
    · omega

def endL (b : Bk) (most : Bool) : List Int := b.lines.map fun l => if most then l.hi else l.lo
theorem endL_len (b : Bk) (m : Bool) : (endL b m).length = b.lines.length := by simp [endL]
theorem endL_get {b : Bk} {m : Bool} {k : Nat} {l : Lin} (h : b.lines[k]? = some l) : (endL b m)[k]? = some (if m then l.hi else l.lo) := by simp [endL, h]
theorem endL_ok {b : Bk} (hb : isBk b = true) (m : Bool) : truOk b.lines (endL b m) = true := by
  refine truOk_iff.2 ⟨endL_len b m, fun j l e h1 h2 => ?_⟩
  rw [endL_get h1] at h2
  have := isLin_b (isBk_l hb (List.mem_of_getElem? h1))
  cases h2
  rw [inB_iff]
  split <;> omega

/-- A slice of ints with an error, made by the call. -/
def RSlE (xs : List Int) (er : Int) : Nat → World → Value → Prop := fun lo w1 v => ∃ a1 c1, v = .tuple #[.slice a1 xs.length c1, .int .i64 er] ∧ Ro w1 lo w1.heap.size a1 xs.length c1 1 (ints xs)
def RSl (xs : List Int) : Nat → World → Value → Prop := fun lo w1 v => ∃ a1 c1, v = .slice a1 xs.length c1 ∧ Ro w1 lo w1.heap.size a1 xs.length c1 1 (ints xs)

theorem rsle_of {xs : List Int} {er : Int} {n c lo : Nat} {a : Option Addr} {w : World} (hn : xs.length = n) (h : Ro w lo w.heap.size a n c 1 (ints xs)) : RSlE xs er lo w (.tuple #[.slice a n c, .int .i64 er]) := by
  subst hn; exact ⟨_, _, rfl, h⟩
theorem rsl_of {xs : List Int} {n c lo : Nat} {a : Option Addr} {w : World} (hn : xs.length = n) (h : Ro w lo w.heap.size a n c 1 (ints xs)) : RSl xs lo w (.slice a n c) := by
  subst hn; exact ⟨_, _, rfl, h⟩

def payPays (b : Bk) (t : List Int) : List Int × Int := if isBk b && truOk b.lines t then (paysL b t, 0) else ([], 2)
def payRest (b : Bk) (t : List Int) (h : Int) : Int × Int := if isBk b && truOk b.lines t && inB h 0 (b.hands - 1) then (restF b t h, 0) else (0, 2)

def restL (g : Int → Int) (h : Nat) : List Int := (List.range h).map fun (j : Nat) => g (j : Int)
theorem restL_len (g : Int → Int) (h : Nat) : (restL g h).length = h := by simp [restL]
theorem restL_get {g : Int → Int} {h k : Nat} (hk : k < h) : (restL g h)[k]? = some (g k) := by simp [restL, hk]
theorem restL_set {g : Int → Int} {h k : Nat} {v : Int} (hk : k < h) : (ints (restL g h)).set k (intC v) = ints (restL (upd g k v) h) := by
  apply List.ext_getElem
  · simp [restL]
  · intro i h1 h2
    have hi : i < h := by simpa [restL] using h2
    rw [List.getElem_set]
    split
    · rename_i he; subst he; simp [restL, upd]
    · rename_i he
      have : ¬ ((i : Int) = (k : Int)) := by omega
      simp [restL, upd, this]
theorem restL_zero (h : Nat) : List.replicate h [Value.int .i64 0] = ints (restL (fun _ => 0) h) := by
  apply List.ext_getElem
  · simp [restL]
  · intro i h1 h2; simp [restL]

/-! ### All truths -/

def rngN : Int → Nat → List Int
  | _, 0 => []
  | lo, k + 1 => lo :: rngN (lo + 1) k
def extL : List Lin → List Int → List (List Int)
  | [], pre => [pre]
  | l :: ls, pre => (rngN l.lo (l.hi - l.lo + 1).toNat).flatMap fun n => extL ls (pre ++ [n])
def truL (b : Bk) : List (List Int) := extL b.lines []
def remX (ls : List Lin) (pre : List Int) (lo : Int) (k : Nat) (C : List (List Int)) : List (List Int) := ((rngN lo k).flatMap fun n => extL ls (pre ++ [n])) ++ C
theorem remX_succ {ls : List Lin} {pre : List Int} {lo : Int} {N i : Nat} {C : List (List Int)} (h : i < N) :
    remX ls pre (lo + i) (N - i) C = extL ls (pre ++ [lo + i]) ++ remX ls pre (lo + (i + 1 : Nat)) (N - (i + 1)) C := by
  obtain ⟨k, hk⟩ : ∃ k, N - i = k + 1 := ⟨N - i - 1, by omega⟩
  have h2 : N - (i + 1) = k := by omega
  have h3 : lo + ((i + 1 : Nat) : Int) = lo + i + 1 := by omega
  simp only [remX, hk, h2, h3, rngN, List.flatMap_cons, List.append_assoc]
theorem remX_done {ls : List Lin} {pre : List Int} {lo : Int} {C : List (List Int)} : remX ls pre lo 0 C = C := by simp [remX, rngN]
theorem extL_cons {b : Bk} {pre : List Int} {l : Lin} {C : List (List Int)} (h : b.lines[pre.length]? = some l) :
    extL (b.lines.drop pre.length) pre ++ C = remX (b.lines.drop (pre.length + 1)) pre l.lo (l.hi - l.lo + 1).toNat C := by
  have hlt := (List.getElem?_eq_some_iff.1 h).1
  have : b.lines.drop pre.length = l :: b.lines.drop (pre.length + 1) := by
    rw [List.drop_eq_getElem_cons hlt]
    congr 1
    rw [List.getElem?_eq_getElem hlt] at h
    exact Option.some.inj h
  rw [this]; rfl
theorem extL_nil {b : Bk} {pre : List Int} {C : List (List Int)} (h : b.lines.length ≤ pre.length) : extL (b.lines.drop pre.length) pre ++ C = pre :: C := by
  rw [List.drop_of_length_le h]; rfl

/-! ### The ends of something over all truths -/

def stepE (of : List Int → Int) (is : List Int → Bool) (st : Option (Int × Int)) (t : List Int) : Option (Int × Int) :=
  if is t then some (match st with | none => (min (of t) (of t), max (of t) (of t)) | some s => (min s.1 (of t), max s.2 (of t))) else st
def spF (of : List Int → Int) (is : List Int → Bool) (L : List (List Int)) : Option (Int × Int) := L.foldl (stepE of is) none
def pfx (b : Bk) (L : List (List Int)) : List (List Int) := (truL b).take ((truL b).length - L.length)
def stE (of : List Int → Int) (is : List Int → Bool) (b : Bk) (L : List (List Int)) : Option (Int × Int) := spF of is (pfx b L)
theorem pfx_all (b : Bk) : pfx b (truL b) = [] := by simp [pfx]
theorem pfx_nil (b : Bk) : pfx b [] = truL b := by simp [pfx]
theorem pfx_cons {b : Bk} {t : List Int} {C : List (List Int)} (h : t :: C <:+ truL b) : pfx b C = pfx b (t :: C) ++ [t] := by
  obtain ⟨p, hp⟩ := h
  simp only [pfx, ← hp, List.length_append, List.length_cons]
  rw [show p.length + (C.length + 1) - C.length = p.length + 1 from by omega, show p.length + (C.length + 1) - (C.length + 1) = p.length from by omega]
  simp [List.take_append]; exact List.take_of_length_le (by omega)
theorem sfx_tail {b : Bk} {t : List Int} {C : List (List Int)} (h : t :: C <:+ truL b) : C <:+ truL b := (List.suffix_cons t C).trans h
theorem stE_cons {of : List Int → Int} {is : List Int → Bool} {b : Bk} {t : List Int} {C : List (List Int)} (h : t :: C <:+ truL b) : stE of is b C = stepE of is (stE of is b (t :: C)) t := by
  simp only [stE, pfx_cons h, spF, List.foldl_append, List.foldl_cons, List.foldl_nil]
theorem stE_no {of : List Int → Int} {is : List Int → Bool} {b : Bk} {t : List Int} {C : List (List Int)} (h : t :: C <:+ truL b) (hi : is t = false) : stE of is b C = stE of is b (t :: C) := by
  rw [stE_cons h]; simp [stepE, hi]
theorem stE_new {of : List Int → Int} {is : List Int → Bool} {b : Bk} {t : List Int} {C : List (List Int)} (h : t :: C <:+ truL b) (hi : is t = true) (hn : (stE of is b (t :: C)).isSome = false) : stE of is b C = some (min (of t) (of t), max (of t) (of t)) := by
  rw [stE_cons h]
  cases hq : stE of is b (t :: C) with
  | none => simp [stepE, hi]
  | some s => rw [hq] at hn; cases hn
theorem stE_old {of : List Int → Int} {is : List Int → Bool} {b : Bk} {t : List Int} {C : List (List Int)} (h : t :: C <:+ truL b) (hi : is t = true) (hn : (stE of is b (t :: C)).isSome = true) :
    stE of is b C = some (min ((stE of is b (t :: C)).getD (0, 0)).1 (of t), max ((stE of is b (t :: C)).getD (0, 0)).2 (of t)) := by
  rw [stE_cons h]
  cases hq : stE of is b (t :: C) with
  | none => rw [hq] at hn; cases hn
  | some s => simp [stepE, hi]
theorem sfx_mem {b : Bk} {t : List Int} {C : List (List Int)} (h : t :: C <:+ truL b) : t ∈ truL b := h.subset (List.mem_cons_self ..)
def endsV (o : Option (Int × Int)) : (Int × Int) × Int := match o with | none => ((0, 0), 5) | some s => (s, 0)

theorem mem_rngN : ∀ {k : Nat} {lo x : Int}, x ∈ rngN lo k ↔ lo ≤ x ∧ x < lo + k
  | 0, lo, x => by simp [rngN] <;> omega
  | k + 1, lo, x => by
    simp only [rngN, List.mem_cons, mem_rngN (k := k)]; omega
theorem mem_extL : ∀ {ls : List Lin} {pre t : List Int}, t ∈ extL ls pre ↔ ∃ suf, t = pre ++ suf ∧ truOk ls suf = true
  | [], pre, t => by
    simp only [extL, List.mem_singleton]
    constructor
    · rintro rfl; exact ⟨[], by simp, rfl⟩
    · rintro ⟨suf, rfl, h⟩
      cases suf with
      | nil => simp
      | cons e es => simp [truOk] at h
  | l :: ls, pre, t => by
    simp only [extL, List.mem_flatMap, mem_rngN, mem_extL (ls := ls)]
    constructor
    · rintro ⟨x, h1, suf, rfl, h2⟩
      refine ⟨x :: suf, by simp, ?_⟩
      simp only [truOk, h2, Bool.and_true]
      rw [inB_iff]; omega
    · rintro ⟨suf, rfl, h⟩
      cases suf with
      | nil => simp [truOk] at h
      | cons e es =>
        simp only [truOk, Bool.and_eq_true, inB_iff] at h
        exact ⟨e, by omega, es, by simp, h.2⟩
theorem mem_truL {b : Bk} {t : List Int} : t ∈ truL b ↔ truOk b.lines t = true := by
  simp [truL, mem_extL]

def owesAt (b : Bk) (t : List Int) (k : Nat) : Int := match b.lines[k]?, t[k]? with | some l, some e => owesL b l e | _, _ => 0
def payOwed (b : Bk) (line : Int) : (Int × Int) × Int := if isBk b && inB line 0 (b.lines.length - 1) then endsV (spF (fun t => owesAt b t line.toNat) (fun _ => true) (truL b)) else ((0, 0), 2)
def payTotal (b : Bk) (h : Int) : (Int × Int) × Int := if isBk b && inB h 0 (b.hands - 1) then endsV (spF (fun t => toL b t h) (fun _ => true) (truL b)) else ((0, 0), 2)
def payAt (b : Bk) (k : Nat) : Int × Int := (endsV (spF (fun t => (paysL b t).getD k 0) (fun _ => true) (truL b))).1
def payBounds (b : Bk) : List (Int × Int) × Int := if isBk b then ((List.range b.lines.length).map (payAt b), 0) else ([], 2)

theorem rb_up {w w' : World} {b : Nat} {cs : List Value} (h : Rb w 0 w.heap.size b cs) (hb : BelowH w w') : Rb w' 0 w'.heap.size b cs := by
  obtain ⟨h1, h2, t, h3⟩ := h
  exact ⟨h1, Nat.lt_of_lt_of_le h2 hb.1, t, (hb.2 b h2).trans h3⟩

/-! ### Agreement -/

def rigB (b : Bk) (t : List Int) : Bool := (List.range b.lines.length).all fun k => match b.lines[k]?, (paysL b t)[k]? with | some l, some x => x == monN l.paid | _, _ => true
theorem rigB_t {b : Bk} {t : List Int} (h : ∀ j, j < b.lines.length → ∀ l x, b.lines[j]? = some l → (paysL b t)[j]? = some x → x = monN l.paid) : rigB b t = true := by
  simp only [rigB, List.all_eq_true, List.mem_range]
  intro k hk
  split
  · rename_i l x h1 h2; simpa using h k hk l x h1 h2
  · rfl
theorem rigB_f {b : Bk} {t : List Int} {k : Nat} {l : Lin} {x : Int} (h1 : b.lines[k]? = some l) (h2 : (paysL b t)[k]? = some x) (hne : x ≠ monN l.paid) : rigB b t = false := by
  rw [Bool.eq_false_iff]
  intro h
  simp only [rigB, List.all_eq_true, List.mem_range] at h
  have := h k (List.getElem?_eq_some_iff.1 h1).1
  rw [h1, h2] at this
  simp at this
  exact hne this
theorem below_of {w w' : World} {H : List Seg} (s : St w H w') [hs : SnapAt w H 0 w.heap.size] : RowKit.Below w.heap.size w w' := s.below0 hs.mem

def firL (b : Bk) : Option (List Int) := (truL b).find? (rigB b)
theorem pfx_app {b : Bk} {L : List (List Int)} (h : L <:+ truL b) : pfx b L ++ L = truL b := by
  obtain ⟨p, hp⟩ := h
  simp only [pfx, ← hp, List.length_append]
  rw [show p.length + L.length - L.length = p.length from by omega]
  simp
theorem firL_some {b : Bk} {t : List Int} {C : List (List Int)} (h : t :: C <:+ truL b) (hn : (pfx b (t :: C)).all (fun u => !rigB b u) = true) (ht : rigB b t = true) : firL b = some t := by
  rw [firL, ← pfx_app h, List.find?_append]
  have h1 : (pfx b (t :: C)).find? (rigB b) = none := by
    rw [List.find?_eq_none]
    intro u hu
    have := List.all_eq_true.1 hn u hu
    simpa using this
  rw [h1]
  simp [ht]
theorem firL_none {b : Bk} (hn : (pfx b []).all (fun u => !rigB b u) = true) : firL b = none := by
  rw [firL, List.find?_eq_none]
  intro u hu
  rw [pfx_nil] at hn
  have := List.all_eq_true.1 hn u hu
  simpa using this
theorem pfx_no {b : Bk} {t : List Int} {C : List (List Int)} (h : t :: C <:+ truL b) (hn : (pfx b (t :: C)).all (fun u => !rigB b u) = true) (ht : rigB b t = false) : (pfx b C).all (fun u => !rigB b u) = true := by
  rw [pfx_cons h, List.all_append, hn]; simp [ht]
def RSlB (xs : List Int) (bb : Bool) : Nat → World → Value → Prop := fun lo w1 v => ∃ a1 c1, v = .tuple #[.slice a1 xs.length c1, .bool bb] ∧ Ro w1 lo w1.heap.size a1 xs.length c1 1 (ints xs)
theorem tx_use {x : Cx} {e : Exit} {ks : List KI} {E : Env} {H H2 : List Seg} {p : Prop} [h : RegAt H 0 0 (fun _ => p) H2] (k : p → TX x e ks E H) : TX x e ks E H := fun a w ea s => by
  obtain ⟨_, _, hp, _⟩ := s.reg_at (lo := 0) (hi := 0) (p := fun _ => p)
  exact k hp a w ea s

def payAgrees (b : Bk) : List Int × Int := if isBk b then (match firL b with | some t => (t, 0) | none => ([], 5)) else ([], 2)
theorem payAgrees_some {b : Bk} (hb : isBk b = true) (h : (firL b).isSome = true) : payAgrees b = ((firL b).getD [], 0) := by
  cases hq : firL b with
  | none => rw [hq] at h; cases h
  | some t => simp [payAgrees, hb, hq]
theorem payAgrees_none {b : Bk} (hb : isBk b = true) (h : (firL b).isSome = false) : payAgrees b = ([], 5) := by
  cases hq : firL b with
  | none => simp [payAgrees, hb, hq]
  | some t => rw [hq] at h; cases h
theorem payAgrees_f {b : Bk} (hb : isBk b = false) : payAgrees b = ([], 2) := by simp [payAgrees, hb]

def untL (b : Bk) (k : Nat) : Bk := { b with lines := b.lines.take (k + 1) }
theorem untL_ok {b : Bk} (hb : isBk b = true) {k : Nat} (hk : k < b.lines.length) : isBk (untL b k) = true := by
  have h := isBk_b hb
  have hall : (b.lines.take (k + 1)).all (isLin b.hands) = true := by
    rw [List.all_eq_true]
    exact fun l hl => isBk_l hb (List.mem_of_mem_take hl)
  have hlen : (b.lines.take (k + 1)).length = k + 1 := by rw [List.length_take]; omega
  simp only [isBk, untL, hall, Bool.and_true, hlen]
  simp only [Bool.and_eq_true, inB_iff]
  omega
theorem untL_len {b : Bk} {k : Nat} (hk : k < b.lines.length) : (untL b k).lines.length = k + 1 := by
  show (b.lines.take (k + 1)).length = k + 1
  rw [List.length_take]; omega
def payFirst (b : Bk) : Int × Int := if isBk b then (match (List.range b.lines.length).find? (fun k => (firL (untL b k)).isNone) with | some k => ((k : Int), 0) | none => (0, 5)) else (0, 2)
theorem payFirst_some {b : Bk} (hb : isBk b = true) {k : Nat} (hk : k < b.lines.length) (hall : ∀ j, j < k → (firL (untL b j)).isSome = true) (h : (firL (untL b k)).isSome = false) : payFirst b = ((k : Int), 0) := by
  have : (List.range b.lines.length).find? (fun k => (firL (untL b k)).isNone) = some k := by
    rw [List.find?_range_eq_some]
    refine ⟨by simpa using h, by simpa using hk, fun j hj => ?_⟩
    have := hall j hj
    simpa using this
  simp [payFirst, hb, this]
theorem payFirst_none {b : Bk} (hb : isBk b = true) (hall : ∀ j, j < b.lines.length → (firL (untL b j)).isSome = true) : payFirst b = (0, 5) := by
  have : (List.range b.lines.length).find? (fun k => (firL (untL b k)).isNone) = none := by
    rw [List.find?_range_eq_none]
    intro j hj
    have := hall j hj
    simpa using this
  simp [payFirst, hb, this]
theorem ro_take {w : World} {lo hi : Nat} {a : Option Addr} {n cap sz k : Nat} {xs : List (List Value)} (h : Ro w lo hi a n cap sz xs) (hk : k ≤ n) : Ro w lo hi a k cap sz (xs.take k) := by
  refine ⟨by rw [List.length_take, h.len]; omega, fun x hx => h.each x (List.mem_of_mem_take hx), Nat.le_trans hk h.le, ?_⟩
  rcases h.here with ⟨h1, h2, h3⟩ | ⟨ad, h1, h2, h3, h4, h5⟩
  · exact .inl ⟨h1, by omega, h3⟩
  · refine .inr ⟨ad, h1, h2, h3, h4, fun i x hx j v hv => h5 i x ?_ j v hv⟩
    rw [List.getElem?_take] at hx
    split at hx
    · exact hx
    · cases hx

def withS (b : Bk) (r : Int) : Bk := { b with sheet := r }
theorem withS_ok {b : Bk} (hb : isBk b = true) {r : Int} (hr : 0 ≤ r ∧ r ≤ 800) : isBk (withS b r) = true := by
  simp only [isBk, Bool.and_eq_true] at hb
  simp only [isBk, withS, Bool.and_eq_true, inB_iff] at hb ⊢
  refine ⟨⟨⟨⟨⟨⟨⟨?_, ?_⟩, ?_⟩, hr⟩, ?_⟩, ?_⟩, ?_⟩, hb.2⟩ <;> first | exact hb.1.1.1.1.1.1.1 | exact hb.1.1.1.1.1.1.2 | exact hb.1.1.1.1.1.2 | exact hb.1.1.1.2 | exact hb.1.1.2 | exact hb.1.2
def payRate (b : Bk) (h s : Int) : Int × Int := if isBk b && inB h 0 (b.hands - 1) && isSum s then (match (List.range 801).find? (fun r : Nat => decide (s ≤ toL (withS b r) (endL b true) h)) with | some r => ((r : Int), 0) | none => (0, 5)) else (0, 2)
theorem payRate_some {b : Bk} {h s : Int} (hb : isBk b = true) (hh : inB h 0 (b.hands - 1) = true) (hs : isSum s = true) {k : Nat} (hk : k < 801) (hall : ∀ j : Nat, j < k → toL (withS b j) (endL b true) h < s) (hx : s ≤ toL (withS b k) (endL b true) h) : payRate b h s = ((k : Int), 0) := by
  have : (List.range 801).find? (fun r : Nat => decide (s ≤ toL (withS b r) (endL b true) h)) = some k := by
    rw [List.find?_range_eq_some]
    refine ⟨by simpa using hx, by simpa using hk, fun j hj => ?_⟩
    have := hall j hj
    simp; omega
  simp [payRate, hb, hh, hs, this]
theorem payRate_none {b : Bk} {h s : Int} (hb : isBk b = true) (hh : inB h 0 (b.hands - 1) = true) (hs : isSum s = true) (hall : ∀ j : Nat, j < 801 → toL (withS b j) (endL b true) h < s) : payRate b h s = (0, 5) := by
  have : (List.range 801).find? (fun r : Nat => decide (s ≤ toL (withS b r) (endL b true) h)) = none := by
    rw [List.find?_range_eq_none]
    intro j hj
    have := hall j hj
    simp; omega
  simp [payRate, hb, hh, hs, this]

end Go.Proofs


namespace Go.Proofs
open Go Go.Sx Go.RowKit

set_option maxRecDepth 20000 in
theorem pay_in (x lo hi : Int) (w : World)  : Calls Tryz.prog 57 #[(.int .i64 x), (.int .i64 lo), (.int .i64 hi)] w (RetV w (.bool (inB x lo hi))) := by
  refine calls_T0 (av := [_, _, _]) Tryz.func57 rfl rfl rfl ?_
  refine t_seq ?_
  refine t_reg ?_
  refine to_as rfl rfl ?_
  refine to_nil ?_
  refine tn_code ?_
  refine t_seq ?_
  refine t_reg ?_
  refine to_mv rfl rfl ?_
  refine to_mv rfl rfl ?_
  refine to_geq rfl rfl rfl ?_
  refine to_mv rfl rfl ?_
  refine to_gs rfl rfl rfl (fun h1 => ?_) (fun h1 => ?_)
  · try simp only [decide_eq_true_eq, decide_eq_false_iff_not, Bool.not_eq_true', Bool.not_eq_false', Int.not_lt, Int.not_le, ne_eq, Decidable.not_not] at h1
    try have h1b := inB_iff.1 h1
    refine to_gt rfl rfl ?_
    refine to_mv rfl rfl ?_
    refine to_gt rfl rfl ?_
    refine to_mv rfl rfl ?_
    refine to_gt rfl rfl ?_
    refine to_leq rfl rfl rfl ?_
    refine to_pkT rfl rfl rfl ?_
    refine to_as rfl rfl ?_
    refine to_nil ?_
    refine tn_code ?_
    refine t_ret1 rfl rfl (res_tmp rfl) (fun w' s => ?_)
    first | (simp_all [inB]; done) | (simp [inB]; omega)
  · try simp only [decide_eq_true_eq, decide_eq_false_iff_not, Bool.not_eq_true', Bool.not_eq_false', Int.not_lt, Int.not_le, ne_eq, Decidable.not_not] at h1
    try have h1b := inB_iff.1 h1
    refine to_gf rfl rfl rfl rfl ?_
    refine to_gf rfl rfl rfl rfl ?_
    refine to_gf rfl rfl rfl rfl ?_
    refine to_pkF rfl rfl rfl ?_
    refine to_as rfl rfl ?_
    refine to_nil ?_
    refine tn_code ?_
    refine t_ret1 rfl rfl (res_tmp rfl) (fun w' s => ?_)
    first | (simp_all [inB]; done) | (simp [inB]; omega)

set_option maxRecDepth 20000 in
theorem ref_in (x lo hi : Int) (w : World)  : Calls Tryz.prog 55 #[(.int .i64 x), (.int .i64 lo), (.int .i64 hi)] w (RetV w (.bool (inB x lo hi))) := by
  refine calls_T0 (av := [_, _, _]) Tryz.func55 rfl rfl rfl ?_
  refine t_seq ?_
  refine t_reg ?_
  refine to_as rfl rfl ?_
  refine to_nil ?_
  refine tn_code ?_
  refine t_seq ?_
  refine t_reg ?_
  refine to_mv rfl rfl ?_
  refine to_mv rfl rfl ?_
  refine to_geq rfl rfl rfl ?_
  refine to_mv rfl rfl ?_
  refine to_gs rfl rfl rfl (fun h1 => ?_) (fun h1 => ?_)
  · try simp only [decide_eq_true_eq, decide_eq_false_iff_not, Bool.not_eq_true', Bool.not_eq_false', Int.not_lt, Int.not_le, ne_eq, Decidable.not_not] at h1
    try have h1b := inB_iff.1 h1
    refine to_gt rfl rfl ?_
    refine to_mv rfl rfl ?_
    refine to_gt rfl rfl ?_
    refine to_mv rfl rfl ?_
    refine to_gt rfl rfl ?_
    refine to_leq rfl rfl rfl ?_
    refine to_pkT rfl rfl rfl ?_
    refine to_as rfl rfl ?_
    refine to_nil ?_
    refine tn_code ?_
    refine t_ret1 rfl rfl (res_tmp rfl) (fun w' s => ?_)
    first | (simp_all [inB]; done) | (simp [inB]; omega)
  · try simp only [decide_eq_true_eq, decide_eq_false_iff_not, Bool.not_eq_true', Bool.not_eq_false', Int.not_lt, Int.not_le, ne_eq, Decidable.not_not] at h1
    try have h1b := inB_iff.1 h1
    refine to_gf rfl rfl rfl rfl ?_
    refine to_gf rfl rfl rfl rfl ?_
    refine to_gf rfl rfl rfl rfl ?_
    refine to_pkF rfl rfl rfl ?_
    refine to_as rfl rfl ?_
    refine to_nil ?_
    refine tn_code ?_
    refine t_ret1 rfl rfl (res_tmp rfl) (fun w' s => ?_)
    first | (simp_all [inB]; done) | (simp [inB]; omega)

set_option maxRecDepth 20000 in
theorem pay_isMoney (m : Mon) (w : World)  : Calls Tryz.prog 75 #[monV m] w (RetV w (.bool (isMon m))) := by
  refine calls_T0 (av := [_]) Tryz.func75 rfl rfl rfl ?_
  refine t_seq ?_
  refine t_reg ?_
  refine to_box rfl rfl (fun b1 => ?_)
  refine to_as rfl rfl ?_
  refine to_nil ?_
  refine tn_code ?_
  refine t_seq ?_
  refine t_reg ?_
  first | refine to_fa rfl rfl rfl (by simp only [Nat.reduceAdd]; rfl) rfl ?_ | refine to_fae rfl rfl rfl (by simp only [Nat.reduceAdd]; rfl) rfl ?_
  first | refine to_lds rfl rfl rfl ?_ | refine to_ldes rfl (by assumption) rfl rfl ?_
  refine to_call0 rfl rfl (fun w s => pay_in _ _ _ w) rfl ?_
  refine to_mv rfl rfl ?_
  refine to_gs rfl rfl rfl (fun h1 => ?_) (fun h1 => ?_)
  · try simp only [decide_eq_true_eq, decide_eq_false_iff_not, Bool.not_eq_true', Bool.not_eq_false', Int.not_lt, Int.not_le, ne_eq, Decidable.not_not] at h1
    try have h1b := inB_iff.1 h1
    refine to_gt rfl rfl ?_
    first | refine to_fa rfl rfl rfl (by simp only [Nat.reduceAdd]; rfl) rfl ?_ | refine to_fae rfl rfl rfl (by simp only [Nat.reduceAdd]; rfl) rfl ?_
    refine to_gt rfl rfl ?_
    first | refine to_lds rfl rfl rfl ?_ | refine to_ldes rfl (by assumption) rfl rfl ?_
    refine to_gt rfl rfl ?_
    refine to_call0 rfl rfl (fun w s => pay_in _ _ _ w) rfl ?_
    refine to_pkT rfl rfl rfl ?_
    refine to_mv rfl rfl ?_
    refine to_gs rfl rfl rfl (fun h2 => ?_) (fun h2 => ?_)
    · try simp only [decide_eq_true_eq, decide_eq_false_iff_not, Bool.not_eq_true', Bool.not_eq_false', Int.not_lt, Int.not_le, ne_eq, Decidable.not_not] at h2
      try have h2b := inB_iff.1 h2
      refine to_gt rfl rfl ?_
      first | refine to_fa rfl rfl rfl (by simp only [Nat.reduceAdd]; rfl) rfl ?_ | refine to_fae rfl rfl rfl (by simp only [Nat.reduceAdd]; rfl) rfl ?_
      refine to_gt rfl rfl ?_
      first | refine to_lds rfl rfl rfl ?_ | refine to_ldes rfl (by assumption) rfl rfl ?_
      refine to_gt rfl rfl ?_
      refine to_call0 rfl rfl (fun w s => pay_in _ _ _ w) rfl ?_
      refine to_pkT rfl rfl rfl ?_
      refine to_mv rfl rfl ?_
      refine to_gs rfl rfl rfl (fun h3 => ?_) (fun h3 => ?_)
      · try simp only [decide_eq_true_eq, decide_eq_false_iff_not, Bool.not_eq_true', Bool.not_eq_false', Int.not_lt, Int.not_le, ne_eq, Decidable.not_not] at h3
        try have h3b := inB_iff.1 h3
        refine to_gt rfl rfl ?_
        first | refine to_fa rfl rfl rfl (by simp only [Nat.reduceAdd]; rfl) rfl ?_ | refine to_fae rfl rfl rfl (by simp only [Nat.reduceAdd]; rfl) rfl ?_
        refine to_gt rfl rfl ?_
        first | refine to_lds rfl rfl rfl ?_ | refine to_ldes rfl (by assumption) rfl rfl ?_
        refine to_gt rfl rfl ?_
        refine to_call0 rfl rfl (fun w s => pay_in _ _ _ w) rfl ?_
        refine to_pkT rfl rfl rfl ?_
        refine to_as rfl rfl ?_
        refine to_nil ?_
        refine tn_code ?_
        refine t_ret1 rfl rfl (res_tmp rfl) (fun w' s => ?_)
        simp_all [isMon]
      · try simp only [decide_eq_true_eq, decide_eq_false_iff_not, Bool.not_eq_true', Bool.not_eq_false', Int.not_lt, Int.not_le, ne_eq, Decidable.not_not] at h3
        try have h3b := inB_iff.1 h3
        refine to_gf rfl rfl rfl rfl ?_
        refine to_gf rfl rfl rfl rfl ?_
        refine to_gf rfl rfl rfl rfl ?_
        refine to_pkF rfl rfl rfl ?_
        refine to_as rfl rfl ?_
        refine to_nil ?_
        refine tn_code ?_
        refine t_ret1 rfl rfl (res_tmp rfl) (fun w' s => ?_)
        simp_all [isMon]
    · try simp only [decide_eq_true_eq, decide_eq_false_iff_not, Bool.not_eq_true', Bool.not_eq_false', Int.not_lt, Int.not_le, ne_eq, Decidable.not_not] at h2
      try have h2b := inB_iff.1 h2
      refine to_gf rfl rfl rfl rfl ?_
      refine to_gf rfl rfl rfl rfl ?_
      refine to_gf rfl rfl rfl rfl ?_
      refine to_pkF rfl rfl rfl ?_
      refine to_mv rfl rfl ?_
      refine to_gf rfl rfl rfl rfl ?_
      refine to_gf rfl rfl rfl rfl ?_
      refine to_gf rfl rfl rfl rfl ?_
      refine to_pkF rfl rfl rfl ?_
      refine to_as rfl rfl ?_
      refine to_nil ?_
      refine tn_code ?_
      refine t_ret1 rfl rfl (res_tmp rfl) (fun w' s => ?_)
      simp_all [isMon]
  · try simp only [decide_eq_true_eq, decide_eq_false_iff_not, Bool.not_eq_true', Bool.not_eq_false', Int.not_lt, Int.not_le, ne_eq, Decidable.not_not] at h1
    try have h1b := inB_iff.1 h1
    refine to_gf rfl rfl rfl rfl ?_
    refine to_gf rfl rfl rfl rfl ?_
    refine to_gf rfl rfl rfl rfl ?_
    refine to_pkF rfl rfl rfl ?_
    refine to_mv rfl rfl ?_
    refine to_gf rfl rfl rfl rfl ?_
    refine to_gf rfl rfl rfl rfl ?_
    refine to_gf rfl rfl rfl rfl ?_
    refine to_pkF rfl rfl rfl ?_
    refine to_mv rfl rfl ?_
    refine to_gf rfl rfl rfl rfl ?_
    refine to_gf rfl rfl rfl rfl ?_
    refine to_gf rfl rfl rfl rfl ?_
    refine to_pkF rfl rfl rfl ?_
    refine to_as rfl rfl ?_
    refine to_nil ?_
    refine tn_code ?_
    refine t_ret1 rfl rfl (res_tmp rfl) (fun w' s => ?_)
    simp_all [isMon]

set_option maxRecDepth 20000 in
theorem ref_Money (m : Mon) (w : World)  : Calls Tryz.prog 90 #[monV m] w (RetV w (.bool (isMon m))) := by
  refine calls_T0 (av := [_]) Tryz.func90 rfl rfl rfl ?_
  refine t_seq ?_
  refine t_reg ?_
  refine to_box rfl rfl (fun b1 => ?_)
  refine to_as rfl rfl ?_
  refine to_nil ?_
  refine tn_code ?_
  refine t_seq ?_
  refine t_reg ?_
  first | refine to_fa rfl rfl rfl (by simp only [Nat.reduceAdd]; rfl) rfl ?_ | refine to_fae rfl rfl rfl (by simp only [Nat.reduceAdd]; rfl) rfl ?_
  first | refine to_lds rfl rfl rfl ?_ | refine to_ldes rfl (by assumption) rfl rfl ?_
  refine to_call0 rfl rfl (fun w s => ref_in _ _ _ w) rfl ?_
  refine to_mv rfl rfl ?_
  refine to_gs rfl rfl rfl (fun h1 => ?_) (fun h1 => ?_)
  · try simp only [decide_eq_true_eq, decide_eq_false_iff_not, Bool.not_eq_true', Bool.not_eq_false', Int.not_lt, Int.not_le, ne_eq, Decidable.not_not] at h1
    try have h1b := inB_iff.1 h1
    refine to_gt rfl rfl ?_
    first | refine to_fa rfl rfl rfl (by simp only [Nat.reduceAdd]; rfl) rfl ?_ | refine to_fae rfl rfl rfl (by simp only [Nat.reduceAdd]; rfl) rfl ?_
    refine to_gt rfl rfl ?_
    first | refine to_lds rfl rfl rfl ?_ | refine to_ldes rfl (by assumption) rfl rfl ?_
    refine to_gt rfl rfl ?_
    refine to_call0 rfl rfl (fun w s => ref_in _ _ _ w) rfl ?_
    refine to_pkT rfl rfl rfl ?_
    refine to_mv rfl rfl ?_
    refine to_gs rfl rfl rfl (fun h2 => ?_) (fun h2 => ?_)
    · try simp only [decide_eq_true_eq, decide_eq_false_iff_not, Bool.not_eq_true', Bool.not_eq_false', Int.not_lt, Int.not_le, ne_eq, Decidable.not_not] at h2
      try have h2b := inB_iff.1 h2
      refine to_gt rfl rfl ?_
      first | refine to_fa rfl rfl rfl (by simp only [Nat.reduceAdd]; rfl) rfl ?_ | refine to_fae rfl rfl rfl (by simp only [Nat.reduceAdd]; rfl) rfl ?_
      refine to_gt rfl rfl ?_
      first | refine to_lds rfl rfl rfl ?_ | refine to_ldes rfl (by assumption) rfl rfl ?_
      refine to_gt rfl rfl ?_
      refine to_call0 rfl rfl (fun w s => ref_in _ _ _ w) rfl ?_
      refine to_pkT rfl rfl rfl ?_
      refine to_mv rfl rfl ?_
      refine to_gs rfl rfl rfl (fun h3 => ?_) (fun h3 => ?_)
      · try simp only [decide_eq_true_eq, decide_eq_false_iff_not, Bool.not_eq_true', Bool.not_eq_false', Int.not_lt, Int.not_le, ne_eq, Decidable.not_not] at h3
        try have h3b := inB_iff.1 h3
        refine to_gt rfl rfl ?_
        first | refine to_fa rfl rfl rfl (by simp only [Nat.reduceAdd]; rfl) rfl ?_ | refine to_fae rfl rfl rfl (by simp only [Nat.reduceAdd]; rfl) rfl ?_
        refine to_gt rfl rfl ?_
        first | refine to_lds rfl rfl rfl ?_ | refine to_ldes rfl (by assumption) rfl rfl ?_
        refine to_gt rfl rfl ?_
        refine to_call0 rfl rfl (fun w s => ref_in _ _ _ w) rfl ?_
        refine to_pkT rfl rfl rfl ?_
        refine to_as rfl rfl ?_
        refine to_nil ?_
        refine tn_code ?_
        refine t_ret1 rfl rfl (res_tmp rfl) (fun w' s => ?_)
        simp_all [isMon]
      · try simp only [decide_eq_true_eq, decide_eq_false_iff_not, Bool.not_eq_true', Bool.not_eq_false', Int.not_lt, Int.not_le, ne_eq, Decidable.not_not] at h3
        try have h3b := inB_iff.1 h3
        refine to_gf rfl rfl rfl rfl ?_
        refine to_gf rfl rfl rfl rfl ?_
        refine to_gf rfl rfl rfl rfl ?_
        refine to_pkF rfl rfl rfl ?_
        refine to_as rfl rfl ?_
        refine to_nil ?_
        refine tn_code ?_
        refine t_ret1 rfl rfl (res_tmp rfl) (fun w' s => ?_)
        simp_all [isMon]
    · try simp only [decide_eq_true_eq, decide_eq_false_iff_not, Bool.not_eq_true', Bool.not_eq_false', Int.not_lt, Int.not_le, ne_eq, Decidable.not_not] at h2
      try have h2b := inB_iff.1 h2
      refine to_gf rfl rfl rfl rfl ?_
      refine to_gf rfl rfl rfl rfl ?_
      refine to_gf rfl rfl rfl rfl ?_
      refine to_pkF rfl rfl rfl ?_
      refine to_mv rfl rfl ?_
      refine to_gf rfl rfl rfl rfl ?_
      refine to_gf rfl rfl rfl rfl ?_
      refine to_gf rfl rfl rfl rfl ?_
      refine to_pkF rfl rfl rfl ?_
      refine to_as rfl rfl ?_
      refine to_nil ?_
      refine tn_code ?_
      refine t_ret1 rfl rfl (res_tmp rfl) (fun w' s => ?_)
      simp_all [isMon]
  · try simp only [decide_eq_true_eq, decide_eq_false_iff_not, Bool.not_eq_true', Bool.not_eq_false', Int.not_lt, Int.not_le, ne_eq, Decidable.not_not] at h1
    try have h1b := inB_iff.1 h1
    refine to_gf rfl rfl rfl rfl ?_
    refine to_gf rfl rfl rfl rfl ?_
    refine to_gf rfl rfl rfl rfl ?_
    refine to_pkF rfl rfl rfl ?_
    refine to_mv rfl rfl ?_
    refine to_gf rfl rfl rfl rfl ?_
    refine to_gf rfl rfl rfl rfl ?_
    refine to_gf rfl rfl rfl rfl ?_
    refine to_pkF rfl rfl rfl ?_
    refine to_mv rfl rfl ?_
    refine to_gf rfl rfl rfl rfl ?_
    refine to_gf rfl rfl rfl rfl ?_
    refine to_gf rfl rfl rfl rfl ?_
    refine to_pkF rfl rfl rfl ?_
    refine to_as rfl rfl ?_
    refine to_nil ?_
    refine tn_code ?_
    refine t_ret1 rfl rfl (res_tmp rfl) (fun w' s => ?_)
    simp_all [isMon]

set_option maxRecDepth 20000 in
theorem pay_isSum (n : Int) (w : World)  : Calls Tryz.prog 49 #[(.int .i64 n)] w (RetV w (.bool (isSum n))) := by
  refine calls_T0 (av := [_]) Tryz.func49 rfl rfl rfl ?_
  refine t_seq ?_
  refine t_reg ?_
  refine to_as rfl rfl ?_
  refine to_nil ?_
  refine tn_code ?_
  refine t_seq ?_
  refine t_reg ?_
  refine to_mv rfl rfl ?_
  refine to_call0 rfl rfl (fun w s => pay_in _ _ _ w) rfl ?_
  refine to_as rfl rfl ?_
  refine to_nil ?_
  refine tn_code ?_
  refine t_ret1 rfl rfl (res_tmp rfl) (fun w' s => ?_)
  rfl

set_option maxRecDepth 20000 in
theorem ref_Sum (n : Int) (w : World)  : Calls Tryz.prog 16 #[(.int .i64 n)] w (RetV w (.bool (isSum n))) := by
  refine calls_T0 (av := [_]) Tryz.func16 rfl rfl rfl ?_
  refine t_seq ?_
  refine t_reg ?_
  refine to_as rfl rfl ?_
  refine to_nil ?_
  refine tn_code ?_
  refine t_seq ?_
  refine t_reg ?_
  refine to_mv rfl rfl ?_
  refine to_call0 rfl rfl (fun w s => ref_in _ _ _ w) rfl ?_
  refine to_as rfl rfl ?_
  refine to_nil ?_
  refine tn_code ?_
  refine t_ret1 rfl rfl (res_tmp rfl) (fun w' s => ?_)
  rfl

set_option maxRecDepth 20000 in
theorem pay_worth  (w : World)  : Calls Tryz.prog 77 #[] w (RetV w (.agg #[.int .i64 960, .int .i64 48, .int .i64 4, .int .i64 1])) := by
  refine calls_T0 (av := []) Tryz.func77 rfl rfl rfl ?_
  refine t_seq ?_
  refine t_reg ?_
  refine to_alloc rfl (fun b0 => ?_)
  refine to_nil ?_
  refine tn_code ?_
  refine t_seq ?_
  refine t_reg ?_
  refine to_ba rfl rfl rfl ?_
  first | refine to_st rfl rfl rfl rfl ?_ | refine to_ste rfl rfl (by assumption) rfl rfl ?_
  refine to_nil ?_
  refine tn_code ?_
  refine t_ret1 rfl rfl (res_cellA rfl rfl) (fun w' s => ?_)
  rfl

end Go.Proofs


namespace Go.Proofs
open Go Go.Sx Go.RowKit

set_option maxRecDepth 20000 in
theorem pay_sum (xs : List Int) (a : Option Addr) (c : Nat) (w : World) (hr : Ro w 0 w.heap.size a xs.length c 1 (ints xs)) (hn : xs.length ≤ 1000) (hb : ∀ x ∈ xs, 0 ≤ x ∧ x ≤ 1099511627776) : Calls Tryz.prog 50 #[.slice a xs.length c] w (RetV w (.int .i64 (sumI xs))) := by
  refine calls_T0 (av := [_]) Tryz.func50 rfl rfl rfl ?_
  refine t_seq ?_
  refine t_reg ?_
  refine to_as rfl rfl ?_
  refine to_nil ?_
  refine tn_code ?_
  refine t_seq ?_
  refine t_reg ?_
  refine to_as rfl rfl ?_
  refine to_nil ?_
  refine tn_code ?_
  refine t_seq ?_
  refine t_seq ?_
  refine t_reg ?_
  refine to_mv rfl rfl ?_
  refine to_lenS rfl rfl ?_
  refine to_mv rfl rfl ?_
  refine to_nil ?_
  refine tn_code ?_
  refine t_blk ?_
  refine t_loop2 (ι := Nat) (fun k => k ≤ xs.length) (fun k => [(3, .int .i64 (sumI (xs.take k))), (6, .slice a xs.length c), (7, .int .i64 (xs.length : Int)), (8, .int .i64 (k : Int))]) (fun k => [.snap 0 w.heap.size w]) (fun k => xs.length - k) (0) [.snap 0 w.heap.size w] (rfl) (Nat.zero_le _) (⟨rfl, rfl, rfl, rfl, trivial⟩) ?_
  rintro k hk
  show T _ _ _ ⟨_, [(3, .int .i64 (sumI (xs.take k))), (6, .slice a xs.length c), (7, .int .i64 (xs.length : Int)), (8, .int .i64 (k : Int))], _⟩ [.snap 0 w.heap.size w]
  refine t_seq ?_
  refine t_reg ?_
  refine to_lss rfl rfl rfl ?_
  refine to_nil ?_
  refine tn_code ?_
  refine t_seq ?_
  refine t_if rfl (fun h1 => ?_) (fun h1 => ?_)
  · try simp only [decide_eq_true_eq, decide_eq_false_iff_not, Bool.not_eq_true', Bool.not_eq_false', Int.not_lt, Int.not_le, ne_eq, Decidable.not_not] at h1
    try have h1b := inB_iff.1 h1
    obtain ⟨y, hy⟩ := some_get (xs := xs) (k := k) (by omega)
    have hx := map_get (f := intC) hy
    have hs := sumI_bd (by decide) hb k
    have hyb := hb y (List.mem_of_getElem? hy)
    refine t_skip ?_
    refine tn_code ?_
    refine t_seq ?_
    refine t_blk ?_
    refine t_seq ?_
    refine t_reg ?_
    first | refine to_ix rfl rfl rfl (by first | omega | decide) (by first | omega | decide) rfl ?_ | refine to_ixi rfl rfl rfl (by omega) (by omega) (by omega) rfl ?_
    first | refine to_lds rfl rfl rfl ?_ | refine to_ldes rfl (by assumption) rfl rfl ?_
    refine to_as rfl rfl ?_
    refine to_nil ?_
    refine tn_code ?_
    refine t_reg ?_
    refine to_mv rfl rfl ?_
    refine to_mv rfl rfl ?_
    refine to_add rfl rfl (by omega) rfl ?_
    refine to_as rfl rfl ?_
    refine to_nil ?_
    refine tn_blk ?_
    refine tn_code ?_
    refine t_reg ?_
    refine to_add rfl rfl (by omega) rfl ?_
    refine to_mv rfl rfl ?_
    refine to_nil ?_
    exact tn_loop2 (k + 1) [.snap 0 w.heap.size w] (rfl) (by omega) (by omega) (⟨congrArg (fun z => some (Value.int .i64 z)) (sumI_take hy).symm, rfl, rfl, rfl, trivial⟩)
  · try simp only [decide_eq_true_eq, decide_eq_false_iff_not, Bool.not_eq_true', Bool.not_eq_false', Int.not_lt, Int.not_le, ne_eq, Decidable.not_not] at h1
    try have h1b := inB_iff.1 h1
    have hk2 : k = xs.length := by omega
    subst hk2
    rw [List.take_length]
    refine t_exit ?_
    refine tx_code ?_
    refine tx_inv ?_
    refine tx_blk ?_
    refine tn_code ?_
    refine t_seq ?_
    refine t_reg ?_
    refine to_mv rfl rfl ?_
    refine to_as rfl rfl ?_
    refine to_nil ?_
    refine tn_code ?_
    refine t_ret1 rfl rfl (res_tmp rfl) (fun w' s => ?_)
    rfl

end Go.Proofs


namespace Go.Proofs
open Go Go.Sx Go.RowKit

set_option maxRecDepth 20000 in
theorem idxfI (xs : List Int) (a : Option Addr) (c : Nat) (q : Nat) (cp : List Value) (p : Int → Bool) (w : World) [hf : FnOk Tryz.prog q] (hr : Ro w 0 w.heap.size a xs.length c 1 (xs.map intC)) (hn : xs.length ≤ 1000000) (hq : ∀ w', Below w.heap.size w w' → ∀ y ∈ xs, Calls Tryz.prog q ([] ++ ([Value.int .i64 y] ++ cp)).toArray w' (RetV w' (.bool (p y)))) : Calls Tryz.prog 89 #[.slice a xs.length c, .func (.func q) ([] : List Value).toArray cp.toArray] w (RetV w (.int .i64 (idxI p xs))) := by
  refine calls_T0 (av := [_, _]) Tryz.func89 rfl rfl rfl ?_
  refine t_seq ?_
  refine t_reg ?_
  refine to_as rfl rfl ?_
  refine to_nil ?_
  refine tn_code ?_
  refine t_seq ?_
  refine t_seq ?_
  refine t_reg ?_
  refine to_mv rfl rfl ?_
  refine to_lenS rfl rfl ?_
  refine to_mv rfl rfl ?_
  refine to_nil ?_
  refine tn_code ?_
  refine t_blk ?_
  refine t_loop2 (ι := Nat) (fun k => k ≤ xs.length ∧ ∀ j, j < k → ∀ y, xs[j]? = some y → p y = false) (fun k => [(0, .slice a xs.length c), (1, .func (.func q) ([] : List Value).toArray cp.toArray), (6, .slice a xs.length c), (7, .int .i64 (xs.length : Int)), (8, .int .i64 (k : Int))]) (fun k => [.snap 0 w.heap.size w]) (fun k => xs.length - k) (0) [.snap 0 w.heap.size w] (rfl) (⟨Nat.zero_le _, fun j hj => absurd hj (Nat.not_lt_zero _)⟩) (⟨rfl, rfl, rfl, rfl, rfl, trivial⟩) ?_
  rintro k ⟨hk, hall⟩
  show T _ _ _ ⟨_, [(0, .slice a xs.length c), (1, .func (.func q) ([] : List Value).toArray cp.toArray), (6, .slice a xs.length c), (7, .int .i64 (xs.length : Int)), (8, .int .i64 (k : Int))], _⟩ [.snap 0 w.heap.size w]
  refine t_seq ?_
  refine t_reg ?_
  refine to_lss rfl rfl rfl ?_
  refine to_nil ?_
  refine tn_code ?_
  refine t_seq ?_
  refine t_if rfl (fun h1 => ?_) (fun h1 => ?_)
  · try simp only [decide_eq_true_eq, decide_eq_false_iff_not, Bool.not_eq_true', Bool.not_eq_false', Int.not_lt, Int.not_le, ne_eq, Decidable.not_not] at h1
    try have h1b := inB_iff.1 h1
    obtain ⟨y, hy⟩ := some_get (xs := xs) (k := k) (by omega)
    have hx := map_get (f := intC) hy
    refine t_skip ?_
    refine tn_code ?_
    refine t_seq ?_
    refine t_blk ?_
    refine t_seq ?_
    refine t_reg ?_
    refine to_mv rfl rfl ?_
    refine to_as rfl rfl ?_
    refine to_nil ?_
    refine tn_code ?_
    refine t_seq ?_
    refine t_reg ?_
    refine to_mv rfl rfl ?_
    refine to_mv rfl rfl ?_
    refine to_mv rfl rfl ?_
    first | refine to_ix rfl rfl rfl (by first | omega | decide) (by first | omega | decide) rfl ?_ | refine to_ixi rfl rfl rfl (by omega) (by omega) (by omega) rfl ?_
    first | refine to_lds rfl rfl rfl ?_ | refine to_ldes rfl (by assumption) rfl rfl ?_
    refine to_call0 rfl rfl (fun w s => hq w (s.below0 (List.mem_cons_self ..)) y (List.mem_of_getElem? hy)) rfl ?_
    refine to_nil ?_
    refine tn_code ?_
    refine t_if rfl (fun h2 => ?_) (fun h2 => ?_)
    · try simp only [decide_eq_true_eq, decide_eq_false_iff_not, Bool.not_eq_true', Bool.not_eq_false', Int.not_lt, Int.not_le, ne_eq, Decidable.not_not] at h2
      try have h2b := inB_iff.1 h2
      have hfin := idxI_found hall hy h2
      refine t_seq ?_
      refine t_reg ?_
      refine to_mv rfl rfl ?_
      refine to_as rfl rfl ?_
      refine to_nil ?_
      refine tn_code ?_
      refine t_ret1 rfl rfl (res_tmp rfl) (fun w' s => ?_)
      rw [hfin]
    · try simp only [decide_eq_true_eq, decide_eq_false_iff_not, Bool.not_eq_true', Bool.not_eq_false', Int.not_lt, Int.not_le, ne_eq, Decidable.not_not] at h2
      try have h2b := inB_iff.1 h2
      refine t_skip ?_
      refine tn_blk ?_
      refine tn_code ?_
      refine t_reg ?_
      refine to_add rfl rfl (by omega) rfl ?_
      refine to_mv rfl rfl ?_
      refine to_nil ?_
      exact tn_loop2 (k + 1) [.snap 0 w.heap.size w] (rfl) (⟨by omega, all_succ hall (fun z hz => by rw [hy] at hz; cases hz; assumption)⟩) (by omega) (⟨rfl, rfl, rfl, rfl, rfl, trivial⟩)
  · try simp only [decide_eq_true_eq, decide_eq_false_iff_not, Bool.not_eq_true', Bool.not_eq_false', Int.not_lt, Int.not_le, ne_eq, Decidable.not_not] at h1
    try have h1b := inB_iff.1 h1
    have hk2 : k = xs.length := by omega
    subst hk2
    have hfin := idxI_none hall
    refine t_exit ?_
    refine tx_code ?_
    refine tx_inv ?_
    refine tx_blk ?_
    refine tn_code ?_
    refine t_seq ?_
    refine t_reg ?_
    refine to_as rfl rfl ?_
    refine to_nil ?_
    refine tn_code ?_
    refine t_ret1 rfl rfl (res_tmp rfl) (fun w' s => ?_)
    rw [hfin]

set_option maxRecDepth 20000 in
theorem conI (xs : List Int) (a : Option Addr) (c : Nat) (q : Nat) (cp : List Value) (p : Int → Bool) (w : World) [hf : FnOk Tryz.prog q] (hr : Ro w 0 w.heap.size a xs.length c 1 (xs.map intC)) (hn : xs.length ≤ 1000000) (hq : ∀ w', Below w.heap.size w w' → ∀ y ∈ xs, Calls Tryz.prog q ([] ++ ([Value.int .i64 y] ++ cp)).toArray w' (RetV w' (.bool (p y)))) : Calls Tryz.prog 85 #[.slice a xs.length c, .func (.func q) ([] : List Value).toArray cp.toArray] w (RetV w (.bool (xs.any p))) := by
  refine calls_T0 (av := [_, _]) Tryz.func85 rfl rfl rfl ?_
  refine t_seq ?_
  refine t_reg ?_
  refine to_as rfl rfl ?_
  refine to_nil ?_
  refine tn_code ?_
  refine t_seq ?_
  refine t_reg ?_
  refine to_mv rfl rfl ?_
  refine to_mv rfl rfl ?_
  refine to_call0 rfl rfl (fun w s => idxfI _ _ _ _ _ _ w (rdw s) hn (fun w' hb y hy => hq w' (below_tr (s.below0 (List.mem_cons_self ..)) hb) y hy)) rfl ?_
  refine to_geq rfl rfl rfl ?_
  refine to_as rfl rfl ?_
  refine to_nil ?_
  refine tn_code ?_
  refine t_ret1 rfl rfl (res_tmp rfl) (fun w' s => ?_)
  rw [idxI_any]

set_option maxRecDepth 20000 in
theorem idxfL (xs : List Lin) (a : Option Addr) (c : Nat) (q : Nat) (cp : List Value) (p : Lin → Bool) (w : World) [hf : FnOk Tryz.prog q] (hr : Ro w 0 w.heap.size a xs.length c 10 (xs.map linC)) (hn : xs.length ≤ 1000000) (hq : ∀ w', Below w.heap.size w w' → ∀ y ∈ xs, Calls Tryz.prog q ([] ++ ([linV y] ++ cp)).toArray w' (RetV w' (.bool (p y)))) : Calls Tryz.prog 105 #[.slice a xs.length c, .func (.func q) ([] : List Value).toArray cp.toArray] w (RetV w (.int .i64 (idxI p xs))) := by
  refine calls_T0 (av := [_, _]) Tryz.func105 rfl rfl rfl ?_
  refine t_seq ?_
  refine t_reg ?_
  refine to_as rfl rfl ?_
  refine to_nil ?_
  refine tn_code ?_
  refine t_seq ?_
  refine t_seq ?_
  refine t_reg ?_
  refine to_mv rfl rfl ?_
  refine to_lenS rfl rfl ?_
  refine to_mv rfl rfl ?_
  refine to_nil ?_
  refine tn_code ?_
  refine t_blk ?_
  refine t_loop2 (ι := Nat) (fun k => k ≤ xs.length ∧ ∀ j, j < k → ∀ y, xs[j]? = some y → p y = false) (fun k => [(0, .slice a xs.length c), (1, .func (.func q) ([] : List Value).toArray cp.toArray), (6, .slice a xs.length c), (7, .int .i64 (xs.length : Int)), (8, .int .i64 (k : Int))]) (fun k => [.snap 0 w.heap.size w]) (fun k => xs.length - k) (0) [.snap 0 w.heap.size w] (rfl) (⟨Nat.zero_le _, fun j hj => absurd hj (Nat.not_lt_zero _)⟩) (⟨rfl, rfl, rfl, rfl, rfl, trivial⟩) ?_
  rintro k ⟨hk, hall⟩
  show T _ _ _ ⟨_, [(0, .slice a xs.length c), (1, .func (.func q) ([] : List Value).toArray cp.toArray), (6, .slice a xs.length c), (7, .int .i64 (xs.length : Int)), (8, .int .i64 (k : Int))], _⟩ [.snap 0 w.heap.size w]
  refine t_seq ?_
  refine t_reg ?_
  refine to_lss rfl rfl rfl ?_
  refine to_nil ?_
  refine tn_code ?_
  refine t_seq ?_
  refine t_if rfl (fun h1 => ?_) (fun h1 => ?_)
  · try simp only [decide_eq_true_eq, decide_eq_false_iff_not, Bool.not_eq_true', Bool.not_eq_false', Int.not_lt, Int.not_le, ne_eq, Decidable.not_not] at h1
    try have h1b := inB_iff.1 h1
    obtain ⟨y, hy⟩ := some_get (xs := xs) (k := k) (by omega)
    have hx := map_get (f := linC) hy
    refine t_skip ?_
    refine tn_code ?_
    refine t_seq ?_
    refine t_blk ?_
    refine t_seq ?_
    refine t_reg ?_
    refine to_mv rfl rfl ?_
    refine to_as rfl rfl ?_
    refine to_nil ?_
    refine tn_code ?_
    refine t_seq ?_
    refine t_reg ?_
    refine to_mv rfl rfl ?_
    refine to_mv rfl rfl ?_
    refine to_mv rfl rfl ?_
    first | refine to_ix rfl rfl rfl (by first | omega | decide) (by first | omega | decide) rfl ?_ | refine to_ixi rfl rfl rfl (by omega) (by omega) (by omega) rfl ?_
    first | refine to_lda rfl rfl rfl ?_ | refine to_ldea rfl (by assumption) rfl rfl ?_
    refine to_call0 rfl rfl (fun w s => hq w (s.below0 (List.mem_cons_self ..)) y (List.mem_of_getElem? hy)) rfl ?_
    refine to_nil ?_
    refine tn_code ?_
    refine t_if rfl (fun h2 => ?_) (fun h2 => ?_)
    · try simp only [decide_eq_true_eq, decide_eq_false_iff_not, Bool.not_eq_true', Bool.not_eq_false', Int.not_lt, Int.not_le, ne_eq, Decidable.not_not] at h2
      try have h2b := inB_iff.1 h2
      have hfin := idxI_found hall hy h2
      refine t_seq ?_
      refine t_reg ?_
      refine to_mv rfl rfl ?_
      refine to_as rfl rfl ?_
      refine to_nil ?_
      refine tn_code ?_
      refine t_ret1 rfl rfl (res_tmp rfl) (fun w' s => ?_)
      rw [hfin]
    · try simp only [decide_eq_true_eq, decide_eq_false_iff_not, Bool.not_eq_true', Bool.not_eq_false', Int.not_lt, Int.not_le, ne_eq, Decidable.not_not] at h2
      try have h2b := inB_iff.1 h2
      refine t_skip ?_
      refine tn_blk ?_
      refine tn_code ?_
      refine t_reg ?_
      refine to_add rfl rfl (by omega) rfl ?_
      refine to_mv rfl rfl ?_
      refine to_nil ?_
      exact tn_loop2 (k + 1) [.snap 0 w.heap.size w] (rfl) (⟨by omega, all_succ hall (fun z hz => by rw [hy] at hz; cases hz; assumption)⟩) (by omega) (⟨rfl, rfl, rfl, rfl, rfl, trivial⟩)
  · try simp only [decide_eq_true_eq, decide_eq_false_iff_not, Bool.not_eq_true', Bool.not_eq_false', Int.not_lt, Int.not_le, ne_eq, Decidable.not_not] at h1
    try have h1b := inB_iff.1 h1
    have hk2 : k = xs.length := by omega
    subst hk2
    have hfin := idxI_none hall
    refine t_exit ?_
    refine tx_code ?_
    refine tx_inv ?_
    refine tx_blk ?_
    refine tn_code ?_
    refine t_seq ?_
    refine t_reg ?_
    refine to_as rfl rfl ?_
    refine to_nil ?_
    refine tn_code ?_
    refine t_ret1 rfl rfl (res_tmp rfl) (fun w' s => ?_)
    rw [hfin]

set_option maxRecDepth 20000 in
theorem conL (xs : List Lin) (a : Option Addr) (c : Nat) (q : Nat) (cp : List Value) (p : Lin → Bool) (w : World) [hf : FnOk Tryz.prog q] (hr : Ro w 0 w.heap.size a xs.length c 10 (xs.map linC)) (hn : xs.length ≤ 1000000) (hq : ∀ w', Below w.heap.size w w' → ∀ y ∈ xs, Calls Tryz.prog q ([] ++ ([linV y] ++ cp)).toArray w' (RetV w' (.bool (p y)))) : Calls Tryz.prog 86 #[.slice a xs.length c, .func (.func q) ([] : List Value).toArray cp.toArray] w (RetV w (.bool (xs.any p))) := by
  refine calls_T0 (av := [_, _]) Tryz.func86 rfl rfl rfl ?_
  refine t_seq ?_
  refine t_reg ?_
  refine to_as rfl rfl ?_
  refine to_nil ?_
  refine tn_code ?_
  refine t_seq ?_
  refine t_reg ?_
  refine to_mv rfl rfl ?_
  refine to_mv rfl rfl ?_
  refine to_call0 rfl rfl (fun w s => idxfL _ _ _ _ _ _ w (rdw s) hn (fun w' hb y hy => hq w' (below_tr (s.below0 (List.mem_cons_self ..)) hb) y hy)) rfl ?_
  refine to_geq rfl rfl rfl ?_
  refine to_as rfl rfl ?_
  refine to_nil ?_
  refine tn_code ?_
  refine t_ret1 rfl rfl (res_tmp rfl) (fun w' s => ?_)
  rw [idxI_any]

end Go.Proofs


namespace Go.Proofs
open Go Go.Sx Go.RowKit

set_option maxRecDepth 20000 in
theorem pay_isBook1 (n : Int) (w : World)  : Calls Tryz.prog 84 #[(.int .i64 n)] w (RetV w (.bool (!inB n 0 800))) := by
  refine calls_T0 (av := [_]) Tryz.func84 rfl rfl rfl ?_
  refine t_seq ?_
  refine t_reg ?_
  refine to_as rfl rfl ?_
  refine to_nil ?_
  refine tn_code ?_
  refine t_seq ?_
  refine t_reg ?_
  refine to_mv rfl rfl ?_
  refine to_call0 rfl rfl (fun w s => pay_in _ _ _ w) rfl ?_
  refine to_not rfl rfl ?_
  refine to_as rfl rfl ?_
  refine to_nil ?_
  refine tn_code ?_
  refine t_ret1 rfl rfl (res_tmp rfl) (fun w' s => ?_)
  rfl

set_option maxRecDepth 20000 in
theorem pay_isLine (b : Bk) (a : Option Addr) (c : Nat) (l : Lin) (w : World) (hh : 1 ≤ b.hands ∧ b.hands ≤ 3) : Calls Tryz.prog 88 #[bkV b a c, linV l] w (RetV w (.bool (isLin b.hands l))) := by
  refine calls_T0 (av := [_, _]) Tryz.func88 rfl rfl rfl ?_
  refine t_seq ?_
  refine t_reg ?_
  refine to_box rfl rfl (fun b2 => ?_)
  refine to_box rfl rfl (fun b3 => ?_)
  refine to_as rfl rfl ?_
  refine to_nil ?_
  refine tn_code ?_
  refine t_seq ?_
  refine t_reg ?_
  first | refine to_fa rfl rfl rfl (by simp only [Nat.reduceAdd]; rfl) rfl ?_ | refine to_fae rfl rfl rfl (by simp only [Nat.reduceAdd]; rfl) rfl ?_
  first | refine to_lda rfl rfl rfl ?_ | refine to_ldea rfl (by assumption) rfl rfl ?_
  refine to_alloc rfl (fun b5 => ?_)
  first | refine to_st rfl rfl rfl rfl ?_ | refine to_ste rfl rfl (by assumption) rfl rfl ?_
  refine to_nil ?_
  refine tn_code ?_
  refine t_seq ?_
  refine t_reg ?_
  first | refine to_fa rfl rfl rfl (by simp only [Nat.reduceAdd]; rfl) rfl ?_ | refine to_fae rfl rfl rfl (by simp only [Nat.reduceAdd]; rfl) rfl ?_
  first | refine to_lds rfl rfl rfl ?_ | refine to_ldes rfl (by assumption) rfl rfl ?_
  refine to_call0 rfl rfl (fun w s => pay_in _ _ _ w) rfl ?_
  refine to_mv rfl rfl ?_
  refine to_gs rfl rfl rfl (fun h1 => ?_) (fun h1 => ?_)
  · try simp only [decide_eq_true_eq, decide_eq_false_iff_not, Bool.not_eq_true', Bool.not_eq_false', Int.not_lt, Int.not_le, ne_eq, Decidable.not_not] at h1
    try have h1b := inB_iff.1 h1
    refine to_gt rfl rfl ?_
    first | refine to_fa rfl rfl rfl (by simp only [Nat.reduceAdd]; rfl) rfl ?_ | refine to_fae rfl rfl rfl (by simp only [Nat.reduceAdd]; rfl) rfl ?_
    refine to_gt rfl rfl ?_
    first | refine to_lds rfl rfl rfl ?_ | refine to_ldes rfl (by assumption) rfl rfl ?_
    refine to_gt rfl rfl ?_
    first | refine to_fa rfl rfl rfl (by simp only [Nat.reduceAdd]; rfl) rfl ?_ | refine to_fae rfl rfl rfl (by simp only [Nat.reduceAdd]; rfl) rfl ?_
    refine to_gt rfl rfl ?_
    first | refine to_lds rfl rfl rfl ?_ | refine to_ldes rfl (by assumption) rfl rfl ?_
    refine to_gt rfl rfl ?_
    first | refine to_fa rfl rfl rfl (by simp only [Nat.reduceAdd]; rfl) rfl ?_ | refine to_fae rfl rfl rfl (by simp only [Nat.reduceAdd]; rfl) rfl ?_
    refine to_gt rfl rfl ?_
    first | refine to_lds rfl rfl rfl ?_ | refine to_ldes rfl (by assumption) rfl rfl ?_
    refine to_gt rfl rfl ?_
    refine to_add rfl rfl (by omega) rfl ?_
    refine to_gt rfl rfl ?_
    refine to_min rfl rfl rfl ?_
    refine to_gt rfl rfl ?_
    refine to_call0 rfl rfl (fun w s => pay_in _ _ _ w) rfl ?_
    refine to_pkT rfl rfl rfl ?_
    refine to_as rfl rfl ?_
    refine to_nil ?_
    refine tn_code ?_
    refine t_seq ?_
    refine t_reg ?_
    refine to_mv rfl rfl ?_
    refine to_mv rfl rfl ?_
    refine to_gs rfl rfl rfl (fun h2 => ?_) (fun h2 => ?_)
    · try simp only [decide_eq_true_eq, decide_eq_false_iff_not, Bool.not_eq_true', Bool.not_eq_false', Int.not_lt, Int.not_le, ne_eq, Decidable.not_not] at h2
      try have h2b := inB_iff.1 h2
      refine to_gt rfl rfl ?_
      first | refine to_fa rfl rfl rfl (by simp only [Nat.reduceAdd]; rfl) rfl ?_ | refine to_fae rfl rfl rfl (by simp only [Nat.reduceAdd]; rfl) rfl ?_
      refine to_gt rfl rfl ?_
      first | refine to_lds rfl rfl rfl ?_ | refine to_ldes rfl (by assumption) rfl rfl ?_
      refine to_gt rfl rfl ?_
      first | refine to_fa rfl rfl rfl (by simp only [Nat.reduceAdd]; rfl) rfl ?_ | refine to_fae rfl rfl rfl (by simp only [Nat.reduceAdd]; rfl) rfl ?_
      refine to_gt rfl rfl ?_
      first | refine to_lds rfl rfl rfl ?_ | refine to_ldes rfl (by assumption) rfl rfl ?_
      refine to_gt rfl rfl ?_
      refine to_sub rfl rfl (by omega) rfl ?_
      refine to_gt rfl rfl ?_
      refine to_call0 rfl rfl (fun w s => pay_in _ _ _ w) rfl ?_
      refine to_pkT rfl rfl rfl ?_
      refine to_mv rfl rfl ?_
      refine to_gs rfl rfl rfl (fun h3 => ?_) (fun h3 => ?_)
      · try simp only [decide_eq_true_eq, decide_eq_false_iff_not, Bool.not_eq_true', Bool.not_eq_false', Int.not_lt, Int.not_le, ne_eq, Decidable.not_not] at h3
        try have h3b := inB_iff.1 h3
        refine to_gt rfl rfl ?_
        first | refine to_fa rfl rfl rfl (by simp only [Nat.reduceAdd]; rfl) rfl ?_ | refine to_fae rfl rfl rfl (by simp only [Nat.reduceAdd]; rfl) rfl ?_
        refine to_gt rfl rfl ?_
        first | refine to_lds rfl rfl rfl ?_ | refine to_ldes rfl (by assumption) rfl rfl ?_
        refine to_gt rfl rfl ?_
        refine to_call0 rfl rfl (fun w s => pay_in _ _ _ w) rfl ?_
        refine to_pkT rfl rfl rfl ?_
        refine to_mv rfl rfl ?_
        refine to_gs rfl rfl rfl (fun h4 => ?_) (fun h4 => ?_)
        · try simp only [decide_eq_true_eq, decide_eq_false_iff_not, Bool.not_eq_true', Bool.not_eq_false', Int.not_lt, Int.not_le, ne_eq, Decidable.not_not] at h4
          try have h4b := inB_iff.1 h4
          refine to_gt rfl rfl ?_
          first | refine to_fa rfl rfl rfl (by simp only [Nat.reduceAdd]; rfl) rfl ?_ | refine to_fae rfl rfl rfl (by simp only [Nat.reduceAdd]; rfl) rfl ?_
          refine to_gt rfl rfl ?_
          first | refine to_lds rfl rfl rfl ?_ | refine to_ldes rfl (by assumption) rfl rfl ?_
          refine to_gt rfl rfl ?_
          refine to_call0 rfl rfl (fun w s => pay_in _ _ _ w) rfl ?_
          refine to_pkT rfl rfl rfl ?_
          refine to_mv rfl rfl ?_
          refine to_gs rfl rfl rfl (fun h5 => ?_) (fun h5 => ?_)
          · try simp only [decide_eq_true_eq, decide_eq_false_iff_not, Bool.not_eq_true', Bool.not_eq_false', Int.not_lt, Int.not_le, ne_eq, Decidable.not_not] at h5
            try have h5b := inB_iff.1 h5
            refine to_gt rfl rfl ?_
            first | refine to_fa rfl rfl rfl (by simp only [Nat.reduceAdd]; rfl) rfl ?_ | refine to_fae rfl rfl rfl (by simp only [Nat.reduceAdd]; rfl) rfl ?_
            refine to_gt rfl rfl ?_
            first | refine to_lds rfl rfl rfl ?_ | refine to_ldes rfl (by assumption) rfl rfl ?_
            refine to_gt rfl rfl ?_
            refine to_call0 rfl rfl (fun w s => pay_in _ _ _ w) rfl ?_
            refine to_pkT rfl rfl rfl ?_
            refine to_mv rfl rfl ?_
            refine to_gs rfl rfl rfl (fun h6 => ?_) (fun h6 => ?_)
            · try simp only [decide_eq_true_eq, decide_eq_false_iff_not, Bool.not_eq_true', Bool.not_eq_false', Int.not_lt, Int.not_le, ne_eq, Decidable.not_not] at h6
              try have h6b := inB_iff.1 h6
              refine to_gt rfl rfl ?_
              first | refine to_fa rfl rfl rfl (by simp only [Nat.reduceAdd]; rfl) rfl ?_ | refine to_fae rfl rfl rfl (by simp only [Nat.reduceAdd]; rfl) rfl ?_
              refine to_gt rfl rfl ?_
              first | refine to_lda rfl rfl rfl ?_ | refine to_ldea rfl (by assumption) rfl rfl ?_
              refine to_gt rfl rfl ?_
              refine to_call0 rfl rfl (fun w s => pay_isMoney l.paid w) rfl ?_
              refine to_pkT rfl rfl rfl ?_
              refine to_as rfl rfl ?_
              refine to_nil ?_
              refine tn_code ?_
              refine t_ret1 rfl rfl (res_tmp rfl) (fun w' s => ?_)
              simp_all [isLin]
            · try simp only [decide_eq_true_eq, decide_eq_false_iff_not, Bool.not_eq_true', Bool.not_eq_false', Int.not_lt, Int.not_le, ne_eq, Decidable.not_not] at h6
              try have h6b := inB_iff.1 h6
              refine to_gf rfl rfl rfl rfl ?_
              refine to_gf rfl rfl rfl rfl ?_
              refine to_gf rfl rfl rfl rfl ?_
              refine to_pkF rfl rfl rfl ?_
              refine to_as rfl rfl ?_
              refine to_nil ?_
              refine tn_code ?_
              refine t_ret1 rfl rfl (res_tmp rfl) (fun w' s => ?_)
              simp_all [isLin]
          · try simp only [decide_eq_true_eq, decide_eq_false_iff_not, Bool.not_eq_true', Bool.not_eq_false', Int.not_lt, Int.not_le, ne_eq, Decidable.not_not] at h5
            try have h5b := inB_iff.1 h5
            refine to_gf rfl rfl rfl rfl ?_
            refine to_gf rfl rfl rfl rfl ?_
            refine to_gf rfl rfl rfl rfl ?_
            refine to_pkF rfl rfl rfl ?_
            refine to_mv rfl rfl ?_
            refine to_gf rfl rfl rfl rfl ?_
            refine to_gf rfl rfl rfl rfl ?_
            refine to_gf rfl rfl rfl rfl ?_
            refine to_pkF rfl rfl rfl ?_
            refine to_as rfl rfl ?_
            refine to_nil ?_
            refine tn_code ?_
            refine t_ret1 rfl rfl (res_tmp rfl) (fun w' s => ?_)
            simp_all [isLin]
        · try simp only [decide_eq_true_eq, decide_eq_false_iff_not, Bool.not_eq_true', Bool.not_eq_false', Int.not_lt, Int.not_le, ne_eq, Decidable.not_not] at h4
          try have h4b := inB_iff.1 h4
          refine to_gf rfl rfl rfl rfl ?_
          refine to_gf rfl rfl rfl rfl ?_
          refine to_gf rfl rfl rfl rfl ?_
          refine to_pkF rfl rfl rfl ?_
          refine to_mv rfl rfl ?_
          refine to_gf rfl rfl rfl rfl ?_
          refine to_gf rfl rfl rfl rfl ?_
          refine to_gf rfl rfl rfl rfl ?_
          refine to_pkF rfl rfl rfl ?_
          refine to_mv rfl rfl ?_
          refine to_gf rfl rfl rfl rfl ?_
          refine to_gf rfl rfl rfl rfl ?_
          refine to_gf rfl rfl rfl rfl ?_
          refine to_pkF rfl rfl rfl ?_
          refine to_as rfl rfl ?_
          refine to_nil ?_
          refine tn_code ?_
          refine t_ret1 rfl rfl (res_tmp rfl) (fun w' s => ?_)
          simp_all [isLin]
      · try simp only [decide_eq_true_eq, decide_eq_false_iff_not, Bool.not_eq_true', Bool.not_eq_false', Int.not_lt, Int.not_le, ne_eq, Decidable.not_not] at h3
        try have h3b := inB_iff.1 h3
        refine to_gf rfl rfl rfl rfl ?_
        refine to_gf rfl rfl rfl rfl ?_
        refine to_gf rfl rfl rfl rfl ?_
        refine to_pkF rfl rfl rfl ?_
        refine to_mv rfl rfl ?_
        refine to_gf rfl rfl rfl rfl ?_
        refine to_gf rfl rfl rfl rfl ?_
        refine to_gf rfl rfl rfl rfl ?_
        refine to_pkF rfl rfl rfl ?_
        refine to_mv rfl rfl ?_
        refine to_gf rfl rfl rfl rfl ?_
        refine to_gf rfl rfl rfl rfl ?_
        refine to_gf rfl rfl rfl rfl ?_
        refine to_pkF rfl rfl rfl ?_
        refine to_mv rfl rfl ?_
        refine to_gf rfl rfl rfl rfl ?_
        refine to_gf rfl rfl rfl rfl ?_
        refine to_gf rfl rfl rfl rfl ?_
        refine to_pkF rfl rfl rfl ?_
        refine to_as rfl rfl ?_
        refine to_nil ?_
        refine tn_code ?_
        refine t_ret1 rfl rfl (res_tmp rfl) (fun w' s => ?_)
        simp_all [isLin]
    · try simp only [decide_eq_true_eq, decide_eq_false_iff_not, Bool.not_eq_true', Bool.not_eq_false', Int.not_lt, Int.not_le, ne_eq, Decidable.not_not] at h2
      try have h2b := inB_iff.1 h2
      refine to_gf rfl rfl rfl rfl ?_
      refine to_gf rfl rfl rfl rfl ?_
      refine to_gf rfl rfl rfl rfl ?_
      refine to_gf rfl rfl rfl rfl ?_
      refine to_gf rfl rfl rfl rfl ?_
      refine to_gf rfl rfl rfl rfl ?_
      refine to_pkF rfl rfl rfl ?_
      refine to_mv rfl rfl ?_
      refine to_gf rfl rfl rfl rfl ?_
      refine to_gf rfl rfl rfl rfl ?_
      refine to_gf rfl rfl rfl rfl ?_
      refine to_pkF rfl rfl rfl ?_
      refine to_mv rfl rfl ?_
      refine to_gf rfl rfl rfl rfl ?_
      refine to_gf rfl rfl rfl rfl ?_
      refine to_gf rfl rfl rfl rfl ?_
      refine to_pkF rfl rfl rfl ?_
      refine to_mv rfl rfl ?_
      refine to_gf rfl rfl rfl rfl ?_
      refine to_gf rfl rfl rfl rfl ?_
      refine to_gf rfl rfl rfl rfl ?_
      refine to_pkF rfl rfl rfl ?_
      refine to_mv rfl rfl ?_
      refine to_gf rfl rfl rfl rfl ?_
      refine to_gf rfl rfl rfl rfl ?_
      refine to_gf rfl rfl rfl rfl ?_
      refine to_pkF rfl rfl rfl ?_
      refine to_as rfl rfl ?_
      refine to_nil ?_
      refine tn_code ?_
      refine t_ret1 rfl rfl (res_tmp rfl) (fun w' s => ?_)
      simp_all [isLin]
  · try simp only [decide_eq_true_eq, decide_eq_false_iff_not, Bool.not_eq_true', Bool.not_eq_false', Int.not_lt, Int.not_le, ne_eq, Decidable.not_not] at h1
    try have h1b := inB_iff.1 h1
    refine to_gf rfl rfl rfl rfl ?_
    refine to_gf rfl rfl rfl rfl ?_
    refine to_gf rfl rfl rfl rfl ?_
    refine to_gf rfl rfl rfl rfl ?_
    refine to_gf rfl rfl rfl rfl ?_
    refine to_gf rfl rfl rfl rfl ?_
    refine to_gf rfl rfl rfl rfl ?_
    refine to_gf rfl rfl rfl rfl ?_
    refine to_gf rfl rfl rfl rfl ?_
    refine to_pkF rfl rfl rfl ?_
    refine to_as rfl rfl ?_
    refine to_nil ?_
    refine tn_code ?_
    refine t_seq ?_
    refine t_reg ?_
    refine to_mv rfl rfl ?_
    refine to_mv rfl rfl ?_
    refine to_gf rfl rfl rfl rfl ?_
    refine to_gf rfl rfl rfl rfl ?_
    refine to_gf rfl rfl rfl rfl ?_
    refine to_gf rfl rfl rfl rfl ?_
    refine to_gf rfl rfl rfl rfl ?_
    refine to_gf rfl rfl rfl rfl ?_
    refine to_pkF rfl rfl rfl ?_
    refine to_mv rfl rfl ?_
    refine to_gf rfl rfl rfl rfl ?_
    refine to_gf rfl rfl rfl rfl ?_
    refine to_gf rfl rfl rfl rfl ?_
    refine to_pkF rfl rfl rfl ?_
    refine to_mv rfl rfl ?_
    refine to_gf rfl rfl rfl rfl ?_
    refine to_gf rfl rfl rfl rfl ?_
    refine to_gf rfl rfl rfl rfl ?_
    refine to_pkF rfl rfl rfl ?_
    refine to_mv rfl rfl ?_
    refine to_gf rfl rfl rfl rfl ?_
    refine to_gf rfl rfl rfl rfl ?_
    refine to_gf rfl rfl rfl rfl ?_
    refine to_pkF rfl rfl rfl ?_
    refine to_mv rfl rfl ?_
    refine to_gf rfl rfl rfl rfl ?_
    refine to_gf rfl rfl rfl rfl ?_
    refine to_gf rfl rfl rfl rfl ?_
    refine to_pkF rfl rfl rfl ?_
    refine to_as rfl rfl ?_
    refine to_nil ?_
    refine tn_code ?_
    refine t_ret1 rfl rfl (res_tmp rfl) (fun w' s => ?_)
    simp_all [isLin]

set_option maxRecDepth 20000 in
theorem pay_isBook2 (b : Bk) (a : Option Addr) (c : Nat) (bb : Nat) (l : Lin) (w : World) (hb : Rb w 0 w.heap.size bb (bkC b a c)) (hh : 1 ≤ b.hands ∧ b.hands ≤ 3) : Calls Tryz.prog 87 #[linV l, .pointer (some ⟨bb, 0, none⟩)] w (RetV w (.bool (!isLin b.hands l))) := by
  refine calls_T0 (av := [_, _]) Tryz.func87 rfl rfl rfl ?_
  refine t_seq ?_
  refine t_reg ?_
  refine to_box rfl rfl (fun b2 => ?_)
  refine to_as rfl rfl ?_
  refine to_nil ?_
  refine tn_code ?_
  refine t_seq ?_
  refine t_reg ?_
  first | refine to_lda rfl rfl rfl ?_ | refine to_ldea rfl (by assumption) rfl rfl ?_
  first | refine to_lda rfl rfl rfl ?_ | refine to_ldea rfl (by assumption) rfl rfl ?_
  refine to_call0 rfl rfl (fun w s => pay_isLine b a c l w hh) rfl ?_
  refine to_not rfl rfl ?_
  refine to_as rfl rfl ?_
  refine to_nil ?_
  refine tn_code ?_
  refine t_ret1 rfl rfl (res_tmp rfl) (fun w' s => ?_)
  rfl

set_option maxRecDepth 20000 in
theorem pay_isBook (b : Bk) (a : Option Addr) (c : Nat) (w : World) (hr : Ro w 0 w.heap.size a b.lines.length c 10 (b.lines.map linC)) : Calls Tryz.prog 48 #[bkV b a c] w (RetV w (.bool (isBk b))) := by
  refine calls_T0 (av := [_]) Tryz.func48 rfl rfl rfl ?_
  refine t_seq ?_
  refine t_reg ?_
  refine to_box rfl rfl (fun b1 => ?_)
  refine to_as rfl rfl ?_
  refine to_nil ?_
  refine tn_code ?_
  refine t_seq ?_
  refine t_seq ?_
  refine t_reg ?_
  first | refine to_fa rfl rfl rfl (by simp only [Nat.reduceAdd]; rfl) rfl ?_ | refine to_fae rfl rfl rfl (by simp only [Nat.reduceAdd]; rfl) rfl ?_
  first | refine to_lds rfl rfl rfl ?_ | refine to_ldes rfl (by assumption) rfl rfl ?_
  refine to_call0 rfl rfl (fun w s => pay_in _ _ _ w) rfl ?_
  refine to_not rfl rfl ?_
  refine to_mv rfl rfl ?_
  refine to_gs rfl rfl rfl (fun h1 => ?_) (fun h1 => ?_)
  · try simp only [decide_eq_true_eq, decide_eq_false_iff_not, Bool.not_eq_true', Bool.not_eq_false', Int.not_lt, Int.not_le, ne_eq, Decidable.not_not] at h1
    try have h1b := inB_iff.1 h1
    refine to_gf rfl rfl rfl rfl ?_
    refine to_gf rfl rfl rfl rfl ?_
    refine to_gf rfl rfl rfl rfl ?_
    refine to_gf rfl rfl rfl rfl ?_
    refine to_pkT rfl rfl rfl ?_
    refine to_mv rfl rfl ?_
    refine to_gf rfl rfl rfl rfl ?_
    refine to_gf rfl rfl rfl rfl ?_
    refine to_gf rfl rfl rfl rfl ?_
    refine to_gf rfl rfl rfl rfl ?_
    refine to_gf rfl rfl rfl rfl ?_
    refine to_pkT rfl rfl rfl ?_
    refine to_nil ?_
    refine tn_code ?_
    refine t_ifT rfl ?_
    refine t_seq ?_
    refine t_reg ?_
    refine to_as rfl rfl ?_
    refine to_nil ?_
    refine tn_code ?_
    refine t_ret1 rfl rfl (res_tmp rfl) (fun w' s => ?_)
    first | (simp_all [isBk, List.all_eq_not_any_not]; done) | (rcases h4 with h | h | h | h <;> simp_all [isBk])
  · try simp only [decide_eq_true_eq, decide_eq_false_iff_not, Bool.not_eq_true', Bool.not_eq_false', Int.not_lt, Int.not_le, ne_eq, Decidable.not_not] at h1
    try have h1b := inB_iff.1 h1
    refine to_gt rfl rfl ?_
    first | refine to_fa rfl rfl rfl (by simp only [Nat.reduceAdd]; rfl) rfl ?_ | refine to_fae rfl rfl rfl (by simp only [Nat.reduceAdd]; rfl) rfl ?_
    refine to_gt rfl rfl ?_
    first | refine to_lds rfl rfl rfl ?_ | refine to_ldes rfl (by assumption) rfl rfl ?_
    refine to_gt rfl rfl ?_
    refine to_call0 rfl rfl (fun w s => pay_in _ _ _ w) rfl ?_
    refine to_gt rfl rfl ?_
    refine to_not rfl rfl ?_
    refine to_pkF rfl rfl rfl ?_
    refine to_mv rfl rfl ?_
    refine to_gs rfl rfl rfl (fun h2 => ?_) (fun h2 => ?_)
    · try simp only [decide_eq_true_eq, decide_eq_false_iff_not, Bool.not_eq_true', Bool.not_eq_false', Int.not_lt, Int.not_le, ne_eq, Decidable.not_not] at h2
      try have h2b := inB_iff.1 h2
      refine to_gf rfl rfl rfl rfl ?_
      refine to_gf rfl rfl rfl rfl ?_
      refine to_gf rfl rfl rfl rfl ?_
      refine to_gf rfl rfl rfl rfl ?_
      refine to_gf rfl rfl rfl rfl ?_
      refine to_pkT rfl rfl rfl ?_
      refine to_nil ?_
      refine tn_code ?_
      refine t_ifT rfl ?_
      refine t_seq ?_
      refine t_reg ?_
      refine to_as rfl rfl ?_
      refine to_nil ?_
      refine tn_code ?_
      refine t_ret1 rfl rfl (res_tmp rfl) (fun w' s => ?_)
      first | (simp_all [isBk, List.all_eq_not_any_not]; done) | (rcases h4 with h | h | h | h <;> simp_all [isBk])
    · try simp only [decide_eq_true_eq, decide_eq_false_iff_not, Bool.not_eq_true', Bool.not_eq_false', Int.not_lt, Int.not_le, ne_eq, Decidable.not_not] at h2
      try have h2b := inB_iff.1 h2
      refine to_gt rfl rfl ?_
      first | refine to_fa rfl rfl rfl (by simp only [Nat.reduceAdd]; rfl) rfl ?_ | refine to_fae rfl rfl rfl (by simp only [Nat.reduceAdd]; rfl) rfl ?_
      refine to_gt rfl rfl ?_
      first | refine to_lds rfl rfl rfl ?_ | refine to_ldes rfl (by assumption) rfl rfl ?_
      refine to_gt rfl rfl ?_
      refine to_lenS rfl rfl ?_
      refine to_gt rfl rfl ?_
      refine to_call0 rfl rfl (fun w s => pay_in _ _ _ w) rfl ?_
      refine to_gt rfl rfl ?_
      refine to_not rfl rfl ?_
      refine to_pkF rfl rfl rfl ?_
      refine to_nil ?_
      refine tn_code ?_
      refine t_if rfl (fun h3 => ?_) (fun h3 => ?_)
      · try simp only [decide_eq_true_eq, decide_eq_false_iff_not, Bool.not_eq_true', Bool.not_eq_false', Int.not_lt, Int.not_le, ne_eq, Decidable.not_not] at h3
        try have h3b := inB_iff.1 h3
        refine t_seq ?_
        refine t_reg ?_
        refine to_as rfl rfl ?_
        refine to_nil ?_
        refine tn_code ?_
        refine t_ret1 rfl rfl (res_tmp rfl) (fun w' s => ?_)
        first | (simp_all [isBk, List.all_eq_not_any_not]; done) | (rcases h4 with h | h | h | h <;> simp_all [isBk])
      · try simp only [decide_eq_true_eq, decide_eq_false_iff_not, Bool.not_eq_true', Bool.not_eq_false', Int.not_lt, Int.not_le, ne_eq, Decidable.not_not] at h3
        try have h3b := inB_iff.1 h3
        refine t_skip ?_
        refine tn_code ?_
        refine t_seq ?_
        refine t_reg ?_
        refine to_as rfl rfl ?_
        refine to_nil ?_
        refine tn_code ?_
        refine t_seq ?_
        refine t_seq ?_
        refine t_reg ?_
        first | refine to_fa rfl rfl rfl (by simp only [Nat.reduceAdd]; rfl) rfl ?_ | refine to_fae rfl rfl rfl (by simp only [Nat.reduceAdd]; rfl) rfl ?_
        first | refine to_lds rfl rfl rfl ?_ | refine to_ldes rfl (by assumption) rfl rfl ?_
        first | refine to_fa rfl rfl rfl (by simp only [Nat.reduceAdd]; rfl) rfl ?_ | refine to_fae rfl rfl rfl (by simp only [Nat.reduceAdd]; rfl) rfl ?_
        first | refine to_lds rfl rfl rfl ?_ | refine to_ldes rfl (by assumption) rfl rfl ?_
        first | refine to_fa rfl rfl rfl (by simp only [Nat.reduceAdd]; rfl) rfl ?_ | refine to_fae rfl rfl rfl (by simp only [Nat.reduceAdd]; rfl) rfl ?_
        first | refine to_lds rfl rfl rfl ?_ | refine to_ldes rfl (by assumption) rfl rfl ?_
        first | refine to_fa rfl rfl rfl (by simp only [Nat.reduceAdd]; rfl) rfl ?_ | refine to_fae rfl rfl rfl (by simp only [Nat.reduceAdd]; rfl) rfl ?_
        first | refine to_lds rfl rfl rfl ?_ | refine to_ldes rfl (by assumption) rfl rfl ?_
        refine to_bsl rfl rfl rfl rfl (fun a29 => ?_)
        refine to_mv rfl rfl ?_
        refine to_call0 rfl rfl (fun w s => conI [b.sheet, b.error, b.morning, b.post] _ _ _ _ (fun n => !inB n 0 800) w (rdw s) (by simp) (fun w' hb y hy => pay_isBook1 y w')) rfl ?_
        refine to_nil ?_
        refine tn_code ?_
        refine t_if rfl (fun h4 => ?_) (fun h4 => ?_)
        · try simp only [decide_eq_true_eq, decide_eq_false_iff_not, Bool.not_eq_true', Bool.not_eq_false', Int.not_lt, Int.not_le, ne_eq, Decidable.not_not] at h4
          try have h4b := inB_iff.1 h4
          simp at h4
          refine t_seq ?_
          refine t_reg ?_
          refine to_as rfl rfl ?_
          refine to_nil ?_
          refine tn_code ?_
          refine t_ret1 rfl rfl (res_tmp rfl) (fun w' s => ?_)
          first | (simp_all [isBk, List.all_eq_not_any_not]; done) | (rcases h4 with h | h | h | h <;> simp_all [isBk])
        · try simp only [decide_eq_true_eq, decide_eq_false_iff_not, Bool.not_eq_true', Bool.not_eq_false', Int.not_lt, Int.not_le, ne_eq, Decidable.not_not] at h4
          try have h4b := inB_iff.1 h4
          simp at h4
          refine t_skip ?_
          refine tn_code ?_
          refine t_seq ?_
          refine t_reg ?_
          first | refine to_fa rfl rfl rfl (by simp only [Nat.reduceAdd]; rfl) rfl ?_ | refine to_fae rfl rfl rfl (by simp only [Nat.reduceAdd]; rfl) rfl ?_
          first | refine to_lds rfl rfl rfl ?_ | refine to_ldes rfl (by assumption) rfl rfl ?_
          refine to_mf rfl rfl rfl ?_
          refine to_call0 rfl rfl (fun w s => conL b.lines _ _ _ _ (fun l => !isLin b.hands l) w (rdw s) (by clear h4; omega) (fun w' hb y hy => pay_isBook2 b a c _ y w' (rbw (s.below hb)) (by clear h4; omega))) rfl ?_
          refine to_not rfl rfl ?_
          refine to_as rfl rfl ?_
          refine to_nil ?_
          refine tn_code ?_
          refine t_ret1 rfl rfl (res_tmp rfl) (fun w' s => ?_)
          first | (simp_all [isBk, List.all_eq_not_any_not]; done) | (rcases h4 with h | h | h | h <;> simp_all [isBk])

end Go.Proofs


namespace Go.Proofs
open Go Go.Sx Go.RowKit

set_option maxRecDepth 20000 in
theorem ref_Rate (n : Int) (w : World)  : Calls Tryz.prog 24 #[(.int .i64 n)] w (RetV w (.bool (inB n 0 800))) := by
  refine calls_T0 (av := [_]) Tryz.func24 rfl rfl rfl ?_
  refine t_seq ?_
  refine t_reg ?_
  refine to_as rfl rfl ?_
  refine to_nil ?_
  refine tn_code ?_
  refine t_seq ?_
  refine t_reg ?_
  refine to_mv rfl rfl ?_
  refine to_call0 rfl rfl (fun w s => ref_in _ _ _ w) rfl ?_
  refine to_as rfl rfl ?_
  refine to_nil ?_
  refine tn_code ?_
  refine t_ret1 rfl rfl (res_tmp rfl) (fun w' s => ?_)
  rfl

set_option maxRecDepth 20000 in
theorem ref_Hand (b : Bk) (a : Option Addr) (c : Nat) (n : Int) (w : World) (hh : 1 ≤ b.hands ∧ b.hands ≤ 3) : Calls Tryz.prog 20 #[bkV b a c, (.int .i64 n)] w (RetV w (.bool (inB n 0 (b.hands - 1)))) := by
  refine calls_T0 (av := [_, _]) Tryz.func20 rfl rfl rfl ?_
  refine t_seq ?_
  refine t_reg ?_
  refine to_box rfl rfl (fun b2 => ?_)
  refine to_as rfl rfl ?_
  refine to_nil ?_
  refine tn_code ?_
  refine t_seq ?_
  refine t_reg ?_
  refine to_mv rfl rfl ?_
  first | refine to_fa rfl rfl rfl (by simp only [Nat.reduceAdd]; rfl) rfl ?_ | refine to_fae rfl rfl rfl (by simp only [Nat.reduceAdd]; rfl) rfl ?_
  first | refine to_lds rfl rfl rfl ?_ | refine to_ldes rfl (by assumption) rfl rfl ?_
  refine to_sub rfl rfl (by omega) rfl ?_
  refine to_call0 rfl rfl (fun w s => ref_in _ _ _ w) rfl ?_
  refine to_as rfl rfl ?_
  refine to_nil ?_
  refine tn_code ?_
  refine t_ret1 rfl rfl (res_tmp rfl) (fun w' s => ?_)
  rfl

set_option maxRecDepth 20000 in
theorem ref_Row (b : Bk) (a : Option Addr) (c : Nat) (n : Int) (w : World) (hn : b.lines.length ≤ 1000) : Calls Tryz.prog 27 #[bkV b a c, (.int .i64 n)] w (RetV w (.bool (inB n 0 (b.lines.length - 1)))) := by
  refine calls_T0 (av := [_, _]) Tryz.func27 rfl rfl rfl ?_
  refine t_seq ?_
  refine t_reg ?_
  refine to_box rfl rfl (fun b2 => ?_)
  refine to_as rfl rfl ?_
  refine to_nil ?_
  refine tn_code ?_
  refine t_seq ?_
  refine t_reg ?_
  refine to_mv rfl rfl ?_
  first | refine to_fa rfl rfl rfl (by simp only [Nat.reduceAdd]; rfl) rfl ?_ | refine to_fae rfl rfl rfl (by simp only [Nat.reduceAdd]; rfl) rfl ?_
  first | refine to_lds rfl rfl rfl ?_ | refine to_ldes rfl (by assumption) rfl rfl ?_
  refine to_lenS rfl rfl ?_
  refine to_sub rfl rfl (by omega) rfl ?_
  refine to_call0 rfl rfl (fun w s => ref_in _ _ _ w) rfl ?_
  refine to_as rfl rfl ?_
  refine to_nil ?_
  refine tn_code ?_
  refine t_ret1 rfl rfl (res_tmp rfl) (fun w' s => ?_)
  rfl

set_option maxRecDepth 20000 in
theorem ref_Line (b : Bk) (a : Option Addr) (c : Nat) (l : Lin) (w : World) (hh : 1 ≤ b.hands ∧ b.hands ≤ 3) : Calls Tryz.prog 56 #[bkV b a c, linV l] w (RetV w (.bool (isLin b.hands l))) := by
  refine calls_T0 (av := [_, _]) Tryz.func56 rfl rfl rfl ?_
  refine t_seq ?_
  refine t_reg ?_
  refine to_box rfl rfl (fun b2 => ?_)
  refine to_box rfl rfl (fun b3 => ?_)
  refine to_as rfl rfl ?_
  refine to_nil ?_
  refine tn_code ?_
  refine t_seq ?_
  refine t_reg ?_
  first | refine to_lda rfl rfl rfl ?_ | refine to_ldea rfl (by assumption) rfl rfl ?_
  first | refine to_fa rfl rfl rfl (by simp only [Nat.reduceAdd]; rfl) rfl ?_ | refine to_fae rfl rfl rfl (by simp only [Nat.reduceAdd]; rfl) rfl ?_
  first | refine to_lds rfl rfl rfl ?_ | refine to_ldes rfl (by assumption) rfl rfl ?_
  refine to_call0 rfl rfl (fun w s => ref_Hand b a c _ w (by assumption)) rfl ?_
  refine to_mv rfl rfl ?_
  refine to_gs rfl rfl rfl (fun h1 => ?_) (fun h1 => ?_)
  · try simp only [decide_eq_true_eq, decide_eq_false_iff_not, Bool.not_eq_true', Bool.not_eq_false', Int.not_lt, Int.not_le, ne_eq, Decidable.not_not] at h1
    try have h1b := inB_iff.1 h1
    refine to_gt rfl rfl ?_
    first | refine to_fa rfl rfl rfl (by simp only [Nat.reduceAdd]; rfl) rfl ?_ | refine to_fae rfl rfl rfl (by simp only [Nat.reduceAdd]; rfl) rfl ?_
    refine to_gt rfl rfl ?_
    first | refine to_lds rfl rfl rfl ?_ | refine to_ldes rfl (by assumption) rfl rfl ?_
    refine to_gt rfl rfl ?_
    refine to_call0 rfl rfl (fun w s => ref_in _ _ _ w) rfl ?_
    refine to_pkT rfl rfl rfl ?_
    refine to_mv rfl rfl ?_
    refine to_gs rfl rfl rfl (fun h2 => ?_) (fun h2 => ?_)
    · try simp only [decide_eq_true_eq, decide_eq_false_iff_not, Bool.not_eq_true', Bool.not_eq_false', Int.not_lt, Int.not_le, ne_eq, Decidable.not_not] at h2
      try have h2b := inB_iff.1 h2
      refine to_gt rfl rfl ?_
      first | refine to_fa rfl rfl rfl (by simp only [Nat.reduceAdd]; rfl) rfl ?_ | refine to_fae rfl rfl rfl (by simp only [Nat.reduceAdd]; rfl) rfl ?_
      refine to_gt rfl rfl ?_
      first | refine to_fa rfl rfl rfl (by simp only [Nat.reduceAdd]; rfl) rfl ?_ | refine to_fae rfl rfl rfl (by simp only [Nat.reduceAdd]; rfl) rfl ?_
      refine to_gt rfl rfl ?_
      first | refine to_lds rfl rfl rfl ?_ | refine to_ldes rfl (by assumption) rfl rfl ?_
      refine to_gt rfl rfl ?_
      refine to_call0 rfl rfl (fun w s => ref_in _ _ _ w) rfl ?_
      refine to_pkT rfl rfl rfl ?_
      refine to_mv rfl rfl ?_
      refine to_gs rfl rfl rfl (fun h3 => ?_) (fun h3 => ?_)
      · try simp only [decide_eq_true_eq, decide_eq_false_iff_not, Bool.not_eq_true', Bool.not_eq_false', Int.not_lt, Int.not_le, ne_eq, Decidable.not_not] at h3
        try have h3b := inB_iff.1 h3
        refine to_gt rfl rfl ?_
        first | refine to_fa rfl rfl rfl (by simp only [Nat.reduceAdd]; rfl) rfl ?_ | refine to_fae rfl rfl rfl (by simp only [Nat.reduceAdd]; rfl) rfl ?_
        refine to_gt rfl rfl ?_
        first | refine to_fa rfl rfl rfl (by simp only [Nat.reduceAdd]; rfl) rfl ?_ | refine to_fae rfl rfl rfl (by simp only [Nat.reduceAdd]; rfl) rfl ?_
        refine to_gt rfl rfl ?_
        first | refine to_lds rfl rfl rfl ?_ | refine to_ldes rfl (by assumption) rfl rfl ?_
        refine to_gt rfl rfl ?_
        first | refine to_fa rfl rfl rfl (by simp only [Nat.reduceAdd]; rfl) rfl ?_ | refine to_fae rfl rfl rfl (by simp only [Nat.reduceAdd]; rfl) rfl ?_
        refine to_gt rfl rfl ?_
        first | refine to_fa rfl rfl rfl (by simp only [Nat.reduceAdd]; rfl) rfl ?_ | refine to_fae rfl rfl rfl (by simp only [Nat.reduceAdd]; rfl) rfl ?_
        refine to_gt rfl rfl ?_
        first | refine to_lds rfl rfl rfl ?_ | refine to_ldes rfl (by assumption) rfl rfl ?_
        refine to_gt rfl rfl ?_
        first | refine to_fa rfl rfl rfl (by simp only [Nat.reduceAdd]; rfl) rfl ?_ | refine to_fae rfl rfl rfl (by simp only [Nat.reduceAdd]; rfl) rfl ?_
        refine to_gt rfl rfl ?_
        first | refine to_fa rfl rfl rfl (by simp only [Nat.reduceAdd]; rfl) rfl ?_ | refine to_fae rfl rfl rfl (by simp only [Nat.reduceAdd]; rfl) rfl ?_
        refine to_gt rfl rfl ?_
        first | refine to_lds rfl rfl rfl ?_ | refine to_ldes rfl (by assumption) rfl rfl ?_
        refine to_gt rfl rfl ?_
        refine to_add rfl rfl (by omega) rfl ?_
        refine to_gt rfl rfl ?_
        refine to_min rfl rfl rfl ?_
        refine to_gt rfl rfl ?_
        refine to_call0 rfl rfl (fun w s => ref_in _ _ _ w) rfl ?_
        refine to_pkT rfl rfl rfl ?_
        refine to_mv rfl rfl ?_
        refine to_gs rfl rfl rfl (fun h4 => ?_) (fun h4 => ?_)
        · try simp only [decide_eq_true_eq, decide_eq_false_iff_not, Bool.not_eq_true', Bool.not_eq_false', Int.not_lt, Int.not_le, ne_eq, Decidable.not_not] at h4
          try have h4b := inB_iff.1 h4
          refine to_gt rfl rfl ?_
          first | refine to_fa rfl rfl rfl (by simp only [Nat.reduceAdd]; rfl) rfl ?_ | refine to_fae rfl rfl rfl (by simp only [Nat.reduceAdd]; rfl) rfl ?_
          refine to_gt rfl rfl ?_
          first | refine to_lds rfl rfl rfl ?_ | refine to_ldes rfl (by assumption) rfl rfl ?_
          refine to_gt rfl rfl ?_
          refine to_call0 rfl rfl (fun w s => ref_in _ _ _ w) rfl ?_
          refine to_pkT rfl rfl rfl ?_
          refine to_mv rfl rfl ?_
          refine to_gs rfl rfl rfl (fun h5 => ?_) (fun h5 => ?_)
          · try simp only [decide_eq_true_eq, decide_eq_false_iff_not, Bool.not_eq_true', Bool.not_eq_false', Int.not_lt, Int.not_le, ne_eq, Decidable.not_not] at h5
            try have h5b := inB_iff.1 h5
            refine to_gt rfl rfl ?_
            first | refine to_fa rfl rfl rfl (by simp only [Nat.reduceAdd]; rfl) rfl ?_ | refine to_fae rfl rfl rfl (by simp only [Nat.reduceAdd]; rfl) rfl ?_
            refine to_gt rfl rfl ?_
            first | refine to_lds rfl rfl rfl ?_ | refine to_ldes rfl (by assumption) rfl rfl ?_
            refine to_gt rfl rfl ?_
            refine to_call0 rfl rfl (fun w s => ref_in _ _ _ w) rfl ?_
            refine to_pkT rfl rfl rfl ?_
            refine to_mv rfl rfl ?_
            refine to_gs rfl rfl rfl (fun h6 => ?_) (fun h6 => ?_)
            · try simp only [decide_eq_true_eq, decide_eq_false_iff_not, Bool.not_eq_true', Bool.not_eq_false', Int.not_lt, Int.not_le, ne_eq, Decidable.not_not] at h6
              try have h6b := inB_iff.1 h6
              refine to_gt rfl rfl ?_
              first | refine to_fa rfl rfl rfl (by simp only [Nat.reduceAdd]; rfl) rfl ?_ | refine to_fae rfl rfl rfl (by simp only [Nat.reduceAdd]; rfl) rfl ?_
              refine to_gt rfl rfl ?_
              first | refine to_lda rfl rfl rfl ?_ | refine to_ldea rfl (by assumption) rfl rfl ?_
              refine to_gt rfl rfl ?_
              refine to_call0 rfl rfl (fun w s => ref_Money l.paid w) rfl ?_
              refine to_pkT rfl rfl rfl ?_
              refine to_as rfl rfl ?_
              refine to_nil ?_
              refine tn_code ?_
              refine t_ret1 rfl rfl (res_tmp rfl) (fun w' s => ?_)
              simp_all [isLin]
            · try simp only [decide_eq_true_eq, decide_eq_false_iff_not, Bool.not_eq_true', Bool.not_eq_false', Int.not_lt, Int.not_le, ne_eq, Decidable.not_not] at h6
              try have h6b := inB_iff.1 h6
              refine to_gf rfl rfl rfl rfl ?_
              refine to_gf rfl rfl rfl rfl ?_
              refine to_gf rfl rfl rfl rfl ?_
              refine to_pkF rfl rfl rfl ?_
              refine to_as rfl rfl ?_
              refine to_nil ?_
              refine tn_code ?_
              refine t_ret1 rfl rfl (res_tmp rfl) (fun w' s => ?_)
              simp_all [isLin]
          · try simp only [decide_eq_true_eq, decide_eq_false_iff_not, Bool.not_eq_true', Bool.not_eq_false', Int.not_lt, Int.not_le, ne_eq, Decidable.not_not] at h5
            try have h5b := inB_iff.1 h5
            refine to_gf rfl rfl rfl rfl ?_
            refine to_gf rfl rfl rfl rfl ?_
            refine to_gf rfl rfl rfl rfl ?_
            refine to_pkF rfl rfl rfl ?_
            refine to_mv rfl rfl ?_
            refine to_gf rfl rfl rfl rfl ?_
            refine to_gf rfl rfl rfl rfl ?_
            refine to_gf rfl rfl rfl rfl ?_
            refine to_pkF rfl rfl rfl ?_
            refine to_as rfl rfl ?_
            refine to_nil ?_
            refine tn_code ?_
            refine t_ret1 rfl rfl (res_tmp rfl) (fun w' s => ?_)
            simp_all [isLin]
        · try simp only [decide_eq_true_eq, decide_eq_false_iff_not, Bool.not_eq_true', Bool.not_eq_false', Int.not_lt, Int.not_le, ne_eq, Decidable.not_not] at h4
          try have h4b := inB_iff.1 h4
          refine to_gf rfl rfl rfl rfl ?_
          refine to_gf rfl rfl rfl rfl ?_
          refine to_gf rfl rfl rfl rfl ?_
          refine to_pkF rfl rfl rfl ?_
          refine to_mv rfl rfl ?_
          refine to_gf rfl rfl rfl rfl ?_
          refine to_gf rfl rfl rfl rfl ?_
          refine to_gf rfl rfl rfl rfl ?_
          refine to_pkF rfl rfl rfl ?_
          refine to_mv rfl rfl ?_
          refine to_gf rfl rfl rfl rfl ?_
          refine to_gf rfl rfl rfl rfl ?_
          refine to_gf rfl rfl rfl rfl ?_
          refine to_pkF rfl rfl rfl ?_
          refine to_as rfl rfl ?_
          refine to_nil ?_
          refine tn_code ?_
          refine t_ret1 rfl rfl (res_tmp rfl) (fun w' s => ?_)
          simp_all [isLin]
      · try simp only [decide_eq_true_eq, decide_eq_false_iff_not, Bool.not_eq_true', Bool.not_eq_false', Int.not_lt, Int.not_le, ne_eq, Decidable.not_not] at h3
        try have h3b := inB_iff.1 h3
        refine to_gf rfl rfl rfl rfl ?_
        refine to_gf rfl rfl rfl rfl ?_
        refine to_gf rfl rfl rfl rfl ?_
        refine to_gf rfl rfl rfl rfl ?_
        refine to_gf rfl rfl rfl rfl ?_
        refine to_gf rfl rfl rfl rfl ?_
        refine to_gf rfl rfl rfl rfl ?_
        refine to_gf rfl rfl rfl rfl ?_
        refine to_gf rfl rfl rfl rfl ?_
        refine to_gf rfl rfl rfl rfl ?_
        refine to_gf rfl rfl rfl rfl ?_
        refine to_gf rfl rfl rfl rfl ?_
        refine to_pkF rfl rfl rfl ?_
        refine to_mv rfl rfl ?_
        refine to_gf rfl rfl rfl rfl ?_
        refine to_gf rfl rfl rfl rfl ?_
        refine to_gf rfl rfl rfl rfl ?_
        refine to_pkF rfl rfl rfl ?_
        refine to_mv rfl rfl ?_
        refine to_gf rfl rfl rfl rfl ?_
        refine to_gf rfl rfl rfl rfl ?_
        refine to_gf rfl rfl rfl rfl ?_
        refine to_pkF rfl rfl rfl ?_
        refine to_mv rfl rfl ?_
        refine to_gf rfl rfl rfl rfl ?_
        refine to_gf rfl rfl rfl rfl ?_
        refine to_gf rfl rfl rfl rfl ?_
        refine to_pkF rfl rfl rfl ?_
        refine to_as rfl rfl ?_
        refine to_nil ?_
        refine tn_code ?_
        refine t_ret1 rfl rfl (res_tmp rfl) (fun w' s => ?_)
        simp_all [isLin]
    · try simp only [decide_eq_true_eq, decide_eq_false_iff_not, Bool.not_eq_true', Bool.not_eq_false', Int.not_lt, Int.not_le, ne_eq, Decidable.not_not] at h2
      try have h2b := inB_iff.1 h2
      refine to_gf rfl rfl rfl rfl ?_
      refine to_gf rfl rfl rfl rfl ?_
      refine to_gf rfl rfl rfl rfl ?_
      refine to_gf rfl rfl rfl rfl ?_
      refine to_pkF rfl rfl rfl ?_
      refine to_mv rfl rfl ?_
      refine to_gf rfl rfl rfl rfl ?_
      refine to_gf rfl rfl rfl rfl ?_
      refine to_gf rfl rfl rfl rfl ?_
      refine to_gf rfl rfl rfl rfl ?_
      refine to_gf rfl rfl rfl rfl ?_
      refine to_gf rfl rfl rfl rfl ?_
      refine to_gf rfl rfl rfl rfl ?_
      refine to_gf rfl rfl rfl rfl ?_
      refine to_gf rfl rfl rfl rfl ?_
      refine to_gf rfl rfl rfl rfl ?_
      refine to_gf rfl rfl rfl rfl ?_
      refine to_gf rfl rfl rfl rfl ?_
      refine to_pkF rfl rfl rfl ?_
      refine to_mv rfl rfl ?_
      refine to_gf rfl rfl rfl rfl ?_
      refine to_gf rfl rfl rfl rfl ?_
      refine to_gf rfl rfl rfl rfl ?_
      refine to_pkF rfl rfl rfl ?_
      refine to_mv rfl rfl ?_
      refine to_gf rfl rfl rfl rfl ?_
      refine to_gf rfl rfl rfl rfl ?_
      refine to_gf rfl rfl rfl rfl ?_
      refine to_pkF rfl rfl rfl ?_
      refine to_mv rfl rfl ?_
      refine to_gf rfl rfl rfl rfl ?_
      refine to_gf rfl rfl rfl rfl ?_
      refine to_gf rfl rfl rfl rfl ?_
      refine to_pkF rfl rfl rfl ?_
      refine to_as rfl rfl ?_
      refine to_nil ?_
      refine tn_code ?_
      refine t_ret1 rfl rfl (res_tmp rfl) (fun w' s => ?_)
      simp_all [isLin]
  · try simp only [decide_eq_true_eq, decide_eq_false_iff_not, Bool.not_eq_true', Bool.not_eq_false', Int.not_lt, Int.not_le, ne_eq, Decidable.not_not] at h1
    try have h1b := inB_iff.1 h1
    refine to_gf rfl rfl rfl rfl ?_
    refine to_gf rfl rfl rfl rfl ?_
    refine to_gf rfl rfl rfl rfl ?_
    refine to_pkF rfl rfl rfl ?_
    refine to_mv rfl rfl ?_
    refine to_gf rfl rfl rfl rfl ?_
    refine to_gf rfl rfl rfl rfl ?_
    refine to_gf rfl rfl rfl rfl ?_
    refine to_gf rfl rfl rfl rfl ?_
    refine to_pkF rfl rfl rfl ?_
    refine to_mv rfl rfl ?_
    refine to_gf rfl rfl rfl rfl ?_
    refine to_gf rfl rfl rfl rfl ?_
    refine to_gf rfl rfl rfl rfl ?_
    refine to_gf rfl rfl rfl rfl ?_
    refine to_gf rfl rfl rfl rfl ?_
    refine to_gf rfl rfl rfl rfl ?_
    refine to_gf rfl rfl rfl rfl ?_
    refine to_gf rfl rfl rfl rfl ?_
    refine to_gf rfl rfl rfl rfl ?_
    refine to_gf rfl rfl rfl rfl ?_
    refine to_gf rfl rfl rfl rfl ?_
    refine to_gf rfl rfl rfl rfl ?_
    refine to_pkF rfl rfl rfl ?_
    refine to_mv rfl rfl ?_
    refine to_gf rfl rfl rfl rfl ?_
    refine to_gf rfl rfl rfl rfl ?_
    refine to_gf rfl rfl rfl rfl ?_
    refine to_pkF rfl rfl rfl ?_
    refine to_mv rfl rfl ?_
    refine to_gf rfl rfl rfl rfl ?_
    refine to_gf rfl rfl rfl rfl ?_
    refine to_gf rfl rfl rfl rfl ?_
    refine to_pkF rfl rfl rfl ?_
    refine to_mv rfl rfl ?_
    refine to_gf rfl rfl rfl rfl ?_
    refine to_gf rfl rfl rfl rfl ?_
    refine to_gf rfl rfl rfl rfl ?_
    refine to_pkF rfl rfl rfl ?_
    refine to_as rfl rfl ?_
    refine to_nil ?_
    refine tn_code ?_
    refine t_ret1 rfl rfl (res_tmp rfl) (fun w' s => ?_)
    simp_all [isLin]

set_option maxRecDepth 20000 in
theorem ref_Book (b : Bk) (a : Option Addr) (c : Nat) (w : World) (hr : Ro w 0 w.heap.size a b.lines.length c 10 (b.lines.map linC)) : Calls Tryz.prog 15 #[bkV b a c] w (RetV w (.bool (isBk b))) := by
  refine calls_T0 (av := [_]) Tryz.func15 rfl rfl rfl ?_
  refine t_seq ?_
  refine t_reg ?_
  refine to_box rfl rfl (fun b1 => ?_)
  refine to_as rfl rfl ?_
  refine to_nil ?_
  refine tn_code ?_
  refine t_seq ?_
  refine t_seq ?_
  refine t_reg ?_
  first | refine to_fa rfl rfl rfl (by simp only [Nat.reduceAdd]; rfl) rfl ?_ | refine to_fae rfl rfl rfl (by simp only [Nat.reduceAdd]; rfl) rfl ?_
  first | refine to_lds rfl rfl rfl ?_ | refine to_ldes rfl (by assumption) rfl rfl ?_
  refine to_call0 rfl rfl (fun w s => ref_in _ _ _ w) rfl ?_
  refine to_not rfl rfl ?_
  refine to_mv rfl rfl ?_
  refine to_gs rfl rfl rfl (fun h1 => ?_) (fun h1 => ?_)
  · try simp only [decide_eq_true_eq, decide_eq_false_iff_not, Bool.not_eq_true', Bool.not_eq_false', Int.not_lt, Int.not_le, ne_eq, Decidable.not_not] at h1
    try have h1b := inB_iff.1 h1
    refine to_gf rfl rfl rfl rfl ?_
    refine to_gf rfl rfl rfl rfl ?_
    refine to_gf rfl rfl rfl rfl ?_
    refine to_gf rfl rfl rfl rfl ?_
    refine to_pkT rfl rfl rfl ?_
    refine to_mv rfl rfl ?_
    refine to_gf rfl rfl rfl rfl ?_
    refine to_gf rfl rfl rfl rfl ?_
    refine to_gf rfl rfl rfl rfl ?_
    refine to_gf rfl rfl rfl rfl ?_
    refine to_pkT rfl rfl rfl ?_
    refine to_mv rfl rfl ?_
    refine to_gf rfl rfl rfl rfl ?_
    refine to_gf rfl rfl rfl rfl ?_
    refine to_gf rfl rfl rfl rfl ?_
    refine to_gf rfl rfl rfl rfl ?_
    refine to_pkT rfl rfl rfl ?_
    refine to_mv rfl rfl ?_
    refine to_gf rfl rfl rfl rfl ?_
    refine to_gf rfl rfl rfl rfl ?_
    refine to_gf rfl rfl rfl rfl ?_
    refine to_gf rfl rfl rfl rfl ?_
    refine to_pkT rfl rfl rfl ?_
    refine to_mv rfl rfl ?_
    refine to_gf rfl rfl rfl rfl ?_
    refine to_gf rfl rfl rfl rfl ?_
    refine to_gf rfl rfl rfl rfl ?_
    refine to_gf rfl rfl rfl rfl ?_
    refine to_pkT rfl rfl rfl ?_
    refine to_mv rfl rfl ?_
    refine to_gf rfl rfl rfl rfl ?_
    refine to_gf rfl rfl rfl rfl ?_
    refine to_gf rfl rfl rfl rfl ?_
    refine to_gf rfl rfl rfl rfl ?_
    refine to_gf rfl rfl rfl rfl ?_
    refine to_pkT rfl rfl rfl ?_
    refine to_nil ?_
    refine tn_code ?_
    refine t_ifT rfl ?_
    refine t_seq ?_
    refine t_reg ?_
    refine to_as rfl rfl ?_
    refine to_nil ?_
    refine tn_code ?_
    refine t_ret1 rfl rfl (res_tmp rfl) (fun w' s => ?_)
    first | (simp_all [isBk]; done) | (have hfin := not_all_of_get hy h9; simp_all [isBk]; done) | (have hfin := all_of_get hall; simp_all [isBk]; done)
  · try simp only [decide_eq_true_eq, decide_eq_false_iff_not, Bool.not_eq_true', Bool.not_eq_false', Int.not_lt, Int.not_le, ne_eq, Decidable.not_not] at h1
    try have h1b := inB_iff.1 h1
    refine to_gt rfl rfl ?_
    first | refine to_fa rfl rfl rfl (by simp only [Nat.reduceAdd]; rfl) rfl ?_ | refine to_fae rfl rfl rfl (by simp only [Nat.reduceAdd]; rfl) rfl ?_
    refine to_gt rfl rfl ?_
    first | refine to_lds rfl rfl rfl ?_ | refine to_ldes rfl (by assumption) rfl rfl ?_
    refine to_gt rfl rfl ?_
    refine to_call0 rfl rfl (fun w s => ref_in _ _ _ w) rfl ?_
    refine to_gt rfl rfl ?_
    refine to_not rfl rfl ?_
    refine to_pkF rfl rfl rfl ?_
    refine to_mv rfl rfl ?_
    refine to_gs rfl rfl rfl (fun h2 => ?_) (fun h2 => ?_)
    · try simp only [decide_eq_true_eq, decide_eq_false_iff_not, Bool.not_eq_true', Bool.not_eq_false', Int.not_lt, Int.not_le, ne_eq, Decidable.not_not] at h2
      try have h2b := inB_iff.1 h2
      refine to_gf rfl rfl rfl rfl ?_
      refine to_gf rfl rfl rfl rfl ?_
      refine to_gf rfl rfl rfl rfl ?_
      refine to_gf rfl rfl rfl rfl ?_
      refine to_pkT rfl rfl rfl ?_
      refine to_mv rfl rfl ?_
      refine to_gf rfl rfl rfl rfl ?_
      refine to_gf rfl rfl rfl rfl ?_
      refine to_gf rfl rfl rfl rfl ?_
      refine to_gf rfl rfl rfl rfl ?_
      refine to_pkT rfl rfl rfl ?_
      refine to_mv rfl rfl ?_
      refine to_gf rfl rfl rfl rfl ?_
      refine to_gf rfl rfl rfl rfl ?_
      refine to_gf rfl rfl rfl rfl ?_
      refine to_gf rfl rfl rfl rfl ?_
      refine to_pkT rfl rfl rfl ?_
      refine to_mv rfl rfl ?_
      refine to_gf rfl rfl rfl rfl ?_
      refine to_gf rfl rfl rfl rfl ?_
      refine to_gf rfl rfl rfl rfl ?_
      refine to_gf rfl rfl rfl rfl ?_
      refine to_pkT rfl rfl rfl ?_
      refine to_mv rfl rfl ?_
      refine to_gf rfl rfl rfl rfl ?_
      refine to_gf rfl rfl rfl rfl ?_
      refine to_gf rfl rfl rfl rfl ?_
      refine to_gf rfl rfl rfl rfl ?_
      refine to_gf rfl rfl rfl rfl ?_
      refine to_pkT rfl rfl rfl ?_
      refine to_nil ?_
      refine tn_code ?_
      refine t_ifT rfl ?_
      refine t_seq ?_
      refine t_reg ?_
      refine to_as rfl rfl ?_
      refine to_nil ?_
      refine tn_code ?_
      refine t_ret1 rfl rfl (res_tmp rfl) (fun w' s => ?_)
      first | (simp_all [isBk]; done) | (have hfin := not_all_of_get hy h9; simp_all [isBk]; done) | (have hfin := all_of_get hall; simp_all [isBk]; done)
    · try simp only [decide_eq_true_eq, decide_eq_false_iff_not, Bool.not_eq_true', Bool.not_eq_false', Int.not_lt, Int.not_le, ne_eq, Decidable.not_not] at h2
      try have h2b := inB_iff.1 h2
      refine to_gt rfl rfl ?_
      first | refine to_fa rfl rfl rfl (by simp only [Nat.reduceAdd]; rfl) rfl ?_ | refine to_fae rfl rfl rfl (by simp only [Nat.reduceAdd]; rfl) rfl ?_
      refine to_gt rfl rfl ?_
      first | refine to_lds rfl rfl rfl ?_ | refine to_ldes rfl (by assumption) rfl rfl ?_
      refine to_gt rfl rfl ?_
      refine to_call0 rfl rfl (fun w s => ref_Rate _ w) rfl ?_
      refine to_gt rfl rfl ?_
      refine to_not rfl rfl ?_
      refine to_pkF rfl rfl rfl ?_
      refine to_mv rfl rfl ?_
      refine to_gs rfl rfl rfl (fun h3 => ?_) (fun h3 => ?_)
      · try simp only [decide_eq_true_eq, decide_eq_false_iff_not, Bool.not_eq_true', Bool.not_eq_false', Int.not_lt, Int.not_le, ne_eq, Decidable.not_not] at h3
        try have h3b := inB_iff.1 h3
        refine to_gf rfl rfl rfl rfl ?_
        refine to_gf rfl rfl rfl rfl ?_
        refine to_gf rfl rfl rfl rfl ?_
        refine to_gf rfl rfl rfl rfl ?_
        refine to_pkT rfl rfl rfl ?_
        refine to_mv rfl rfl ?_
        refine to_gf rfl rfl rfl rfl ?_
        refine to_gf rfl rfl rfl rfl ?_
        refine to_gf rfl rfl rfl rfl ?_
        refine to_gf rfl rfl rfl rfl ?_
        refine to_pkT rfl rfl rfl ?_
        refine to_mv rfl rfl ?_
        refine to_gf rfl rfl rfl rfl ?_
        refine to_gf rfl rfl rfl rfl ?_
        refine to_gf rfl rfl rfl rfl ?_
        refine to_gf rfl rfl rfl rfl ?_
        refine to_pkT rfl rfl rfl ?_
        refine to_mv rfl rfl ?_
        refine to_gf rfl rfl rfl rfl ?_
        refine to_gf rfl rfl rfl rfl ?_
        refine to_gf rfl rfl rfl rfl ?_
        refine to_gf rfl rfl rfl rfl ?_
        refine to_gf rfl rfl rfl rfl ?_
        refine to_pkT rfl rfl rfl ?_
        refine to_nil ?_
        refine tn_code ?_
        refine t_ifT rfl ?_
        refine t_seq ?_
        refine t_reg ?_
        refine to_as rfl rfl ?_
        refine to_nil ?_
        refine tn_code ?_
        refine t_ret1 rfl rfl (res_tmp rfl) (fun w' s => ?_)
        first | (simp_all [isBk]; done) | (have hfin := not_all_of_get hy h9; simp_all [isBk]; done) | (have hfin := all_of_get hall; simp_all [isBk]; done)
      · try simp only [decide_eq_true_eq, decide_eq_false_iff_not, Bool.not_eq_true', Bool.not_eq_false', Int.not_lt, Int.not_le, ne_eq, Decidable.not_not] at h3
        try have h3b := inB_iff.1 h3
        refine to_gt rfl rfl ?_
        first | refine to_fa rfl rfl rfl (by simp only [Nat.reduceAdd]; rfl) rfl ?_ | refine to_fae rfl rfl rfl (by simp only [Nat.reduceAdd]; rfl) rfl ?_
        refine to_gt rfl rfl ?_
        first | refine to_lds rfl rfl rfl ?_ | refine to_ldes rfl (by assumption) rfl rfl ?_
        refine to_gt rfl rfl ?_
        refine to_call0 rfl rfl (fun w s => ref_Rate _ w) rfl ?_
        refine to_gt rfl rfl ?_
        refine to_not rfl rfl ?_
        refine to_pkF rfl rfl rfl ?_
        refine to_mv rfl rfl ?_
        refine to_gs rfl rfl rfl (fun h4 => ?_) (fun h4 => ?_)
        · try simp only [decide_eq_true_eq, decide_eq_false_iff_not, Bool.not_eq_true', Bool.not_eq_false', Int.not_lt, Int.not_le, ne_eq, Decidable.not_not] at h4
          try have h4b := inB_iff.1 h4
          refine to_gf rfl rfl rfl rfl ?_
          refine to_gf rfl rfl rfl rfl ?_
          refine to_gf rfl rfl rfl rfl ?_
          refine to_gf rfl rfl rfl rfl ?_
          refine to_pkT rfl rfl rfl ?_
          refine to_mv rfl rfl ?_
          refine to_gf rfl rfl rfl rfl ?_
          refine to_gf rfl rfl rfl rfl ?_
          refine to_gf rfl rfl rfl rfl ?_
          refine to_gf rfl rfl rfl rfl ?_
          refine to_pkT rfl rfl rfl ?_
          refine to_mv rfl rfl ?_
          refine to_gf rfl rfl rfl rfl ?_
          refine to_gf rfl rfl rfl rfl ?_
          refine to_gf rfl rfl rfl rfl ?_
          refine to_gf rfl rfl rfl rfl ?_
          refine to_gf rfl rfl rfl rfl ?_
          refine to_pkT rfl rfl rfl ?_
          refine to_nil ?_
          refine tn_code ?_
          refine t_ifT rfl ?_
          refine t_seq ?_
          refine t_reg ?_
          refine to_as rfl rfl ?_
          refine to_nil ?_
          refine tn_code ?_
          refine t_ret1 rfl rfl (res_tmp rfl) (fun w' s => ?_)
          first | (simp_all [isBk]; done) | (have hfin := not_all_of_get hy h9; simp_all [isBk]; done) | (have hfin := all_of_get hall; simp_all [isBk]; done)
        · try simp only [decide_eq_true_eq, decide_eq_false_iff_not, Bool.not_eq_true', Bool.not_eq_false', Int.not_lt, Int.not_le, ne_eq, Decidable.not_not] at h4
          try have h4b := inB_iff.1 h4
          refine to_gt rfl rfl ?_
          first | refine to_fa rfl rfl rfl (by simp only [Nat.reduceAdd]; rfl) rfl ?_ | refine to_fae rfl rfl rfl (by simp only [Nat.reduceAdd]; rfl) rfl ?_
          refine to_gt rfl rfl ?_
          first | refine to_lds rfl rfl rfl ?_ | refine to_ldes rfl (by assumption) rfl rfl ?_
          refine to_gt rfl rfl ?_
          refine to_call0 rfl rfl (fun w s => ref_Rate _ w) rfl ?_
          refine to_gt rfl rfl ?_
          refine to_not rfl rfl ?_
          refine to_pkF rfl rfl rfl ?_
          refine to_mv rfl rfl ?_
          refine to_gs rfl rfl rfl (fun h5 => ?_) (fun h5 => ?_)
          · try simp only [decide_eq_true_eq, decide_eq_false_iff_not, Bool.not_eq_true', Bool.not_eq_false', Int.not_lt, Int.not_le, ne_eq, Decidable.not_not] at h5
            try have h5b := inB_iff.1 h5
            refine to_gf rfl rfl rfl rfl ?_
            refine to_gf rfl rfl rfl rfl ?_
            refine to_gf rfl rfl rfl rfl ?_
            refine to_gf rfl rfl rfl rfl ?_
            refine to_pkT rfl rfl rfl ?_
            refine to_mv rfl rfl ?_
            refine to_gf rfl rfl rfl rfl ?_
            refine to_gf rfl rfl rfl rfl ?_
            refine to_gf rfl rfl rfl rfl ?_
            refine to_gf rfl rfl rfl rfl ?_
            refine to_gf rfl rfl rfl rfl ?_
            refine to_pkT rfl rfl rfl ?_
            refine to_nil ?_
            refine tn_code ?_
            refine t_ifT rfl ?_
            refine t_seq ?_
            refine t_reg ?_
            refine to_as rfl rfl ?_
            refine to_nil ?_
            refine tn_code ?_
            refine t_ret1 rfl rfl (res_tmp rfl) (fun w' s => ?_)
            first | (simp_all [isBk]; done) | (have hfin := not_all_of_get hy h9; simp_all [isBk]; done) | (have hfin := all_of_get hall; simp_all [isBk]; done)
          · try simp only [decide_eq_true_eq, decide_eq_false_iff_not, Bool.not_eq_true', Bool.not_eq_false', Int.not_lt, Int.not_le, ne_eq, Decidable.not_not] at h5
            try have h5b := inB_iff.1 h5
            refine to_gt rfl rfl ?_
            first | refine to_fa rfl rfl rfl (by simp only [Nat.reduceAdd]; rfl) rfl ?_ | refine to_fae rfl rfl rfl (by simp only [Nat.reduceAdd]; rfl) rfl ?_
            refine to_gt rfl rfl ?_
            first | refine to_lds rfl rfl rfl ?_ | refine to_ldes rfl (by assumption) rfl rfl ?_
            refine to_gt rfl rfl ?_
            refine to_call0 rfl rfl (fun w s => ref_Rate _ w) rfl ?_
            refine to_gt rfl rfl ?_
            refine to_not rfl rfl ?_
            refine to_pkF rfl rfl rfl ?_
            refine to_mv rfl rfl ?_
            refine to_gs rfl rfl rfl (fun h6 => ?_) (fun h6 => ?_)
            · try simp only [decide_eq_true_eq, decide_eq_false_iff_not, Bool.not_eq_true', Bool.not_eq_false', Int.not_lt, Int.not_le, ne_eq, Decidable.not_not] at h6
              try have h6b := inB_iff.1 h6
              refine to_gf rfl rfl rfl rfl ?_
              refine to_gf rfl rfl rfl rfl ?_
              refine to_gf rfl rfl rfl rfl ?_
              refine to_gf rfl rfl rfl rfl ?_
              refine to_gf rfl rfl rfl rfl ?_
              refine to_pkT rfl rfl rfl ?_
              refine to_nil ?_
              refine tn_code ?_
              refine t_ifT rfl ?_
              refine t_seq ?_
              refine t_reg ?_
              refine to_as rfl rfl ?_
              refine to_nil ?_
              refine tn_code ?_
              refine t_ret1 rfl rfl (res_tmp rfl) (fun w' s => ?_)
              first | (simp_all [isBk]; done) | (have hfin := not_all_of_get hy h9; simp_all [isBk]; done) | (have hfin := all_of_get hall; simp_all [isBk]; done)
            · try simp only [decide_eq_true_eq, decide_eq_false_iff_not, Bool.not_eq_true', Bool.not_eq_false', Int.not_lt, Int.not_le, ne_eq, Decidable.not_not] at h6
              try have h6b := inB_iff.1 h6
              refine to_gt rfl rfl ?_
              first | refine to_fa rfl rfl rfl (by simp only [Nat.reduceAdd]; rfl) rfl ?_ | refine to_fae rfl rfl rfl (by simp only [Nat.reduceAdd]; rfl) rfl ?_
              refine to_gt rfl rfl ?_
              first | refine to_lds rfl rfl rfl ?_ | refine to_ldes rfl (by assumption) rfl rfl ?_
              refine to_gt rfl rfl ?_
              refine to_lenS rfl rfl ?_
              refine to_gt rfl rfl ?_
              refine to_call0 rfl rfl (fun w s => ref_in _ _ _ w) rfl ?_
              refine to_gt rfl rfl ?_
              refine to_not rfl rfl ?_
              refine to_pkF rfl rfl rfl ?_
              refine to_nil ?_
              refine tn_code ?_
              refine t_if rfl (fun h7 => ?_) (fun h7 => ?_)
              · try simp only [decide_eq_true_eq, decide_eq_false_iff_not, Bool.not_eq_true', Bool.not_eq_false', Int.not_lt, Int.not_le, ne_eq, Decidable.not_not] at h7
                try have h7b := inB_iff.1 h7
                refine t_seq ?_
                refine t_reg ?_
                refine to_as rfl rfl ?_
                refine to_nil ?_
                refine tn_code ?_
                refine t_ret1 rfl rfl (res_tmp rfl) (fun w' s => ?_)
                first | (simp_all [isBk]; done) | (have hfin := not_all_of_get hy h9; simp_all [isBk]; done) | (have hfin := all_of_get hall; simp_all [isBk]; done)
              · try simp only [decide_eq_true_eq, decide_eq_false_iff_not, Bool.not_eq_true', Bool.not_eq_false', Int.not_lt, Int.not_le, ne_eq, Decidable.not_not] at h7
                try have h7b := inB_iff.1 h7
                refine t_skip ?_
                refine tn_code ?_
                refine t_seq ?_
                refine t_seq ?_
                refine t_reg ?_
                refine to_as rfl rfl ?_
                refine to_nil ?_
                refine tn_code ?_
                refine t_blk ?_
                refine t_loop2 (ι := Nat) (fun k => k ≤ b.lines.length ∧ ∀ j, j < k → ∀ y, b.lines[j]? = some y → isLin b.hands y = true) (fun k => [(1, (.pointer (some ⟨b1, 0, none⟩))), (3, .int .i64 (k : Int))]) (fun k => [.own b1 (isC (bkC b a c) 24), .snap 0 w.heap.size w]) (fun k => b.lines.length - k) (0) [.own b1 (isC (bkC b a c) 24), .snap 0 w.heap.size w] (rfl) (⟨Nat.zero_le _, fun j hj => absurd hj (Nat.not_lt_zero _)⟩) (⟨rfl, rfl, trivial⟩) ?_
                rintro k ⟨hk, hall⟩
                show T _ _ _ ⟨_, [(1, (.pointer (some ⟨b1, 0, none⟩))), (3, .int .i64 (k : Int))], _⟩ [.own b1 (isC (bkC b a c) 24), .snap 0 w.heap.size w]
                refine t_seq ?_
                refine t_seq ?_
                refine t_reg ?_
                refine to_mv rfl rfl ?_
                first | refine to_fa rfl rfl rfl (by simp only [Nat.reduceAdd]; rfl) rfl ?_ | refine to_fae rfl rfl rfl (by simp only [Nat.reduceAdd]; rfl) rfl ?_
                first | refine to_lds rfl rfl rfl ?_ | refine to_ldes rfl (by assumption) rfl rfl ?_
                refine to_lenS rfl rfl ?_
                refine to_lss rfl rfl rfl ?_
                refine to_nil ?_
                refine tn_code ?_
                refine t_if rfl (fun h8 => ?_) (fun h8 => ?_)
                · try simp only [decide_eq_true_eq, decide_eq_false_iff_not, Bool.not_eq_true', Bool.not_eq_false', Int.not_lt, Int.not_le, ne_eq, Decidable.not_not] at h8
                  try have h8b := inB_iff.1 h8
                  obtain ⟨y, hy⟩ := some_get (xs := b.lines) (k := k) (by omega)
                  have hx := map_get (f := linC) hy
                  refine t_skip ?_
                  refine tn_code ?_
                  refine t_seq ?_
                  refine t_blk ?_
                  refine t_seq ?_
                  refine t_regD rfl (by kernel_rfl) (by kernel_rfl) ?_
                  first | refine to_lda rfl rfl rfl ?_ | refine to_ldea rfl (by assumption) rfl rfl ?_
                  first | refine to_fa rfl rfl rfl (by simp only [Nat.reduceAdd]; rfl) rfl ?_ | refine to_fae rfl rfl rfl (by simp only [Nat.reduceAdd]; rfl) rfl ?_
                  first | refine to_lds rfl rfl rfl ?_ | refine to_ldes rfl (by assumption) rfl rfl ?_
                  refine to_mv rfl rfl ?_
                  first | refine to_ix rfl rfl rfl (by first | omega | decide) (by first | omega | decide) rfl ?_ | refine to_ixi rfl rfl rfl (by omega) (by omega) (by omega) rfl ?_
                  first | refine to_lda rfl rfl rfl ?_ | refine to_ldea rfl (by assumption) rfl rfl ?_
                  refine to_call0 rfl rfl (fun w s => ref_Line b a c y w (by omega)) rfl ?_
                  refine to_not rfl rfl ?_
                  refine to_nil ?_
                  refine tn_code ?_
                  refine t_if rfl (fun h9 => ?_) (fun h9 => ?_)
                  · try simp only [decide_eq_true_eq, decide_eq_false_iff_not, Bool.not_eq_true', Bool.not_eq_false', Int.not_lt, Int.not_le, ne_eq, Decidable.not_not] at h9
                    try have h9b := inB_iff.1 h9
                    refine t_seq ?_
                    refine t_reg ?_
                    refine to_as rfl rfl ?_
                    refine to_nil ?_
                    refine tn_code ?_
                    refine t_ret1 rfl rfl (res_tmp rfl) (fun w' s => ?_)
                    first | (simp_all [isBk]; done) | (have hfin := not_all_of_get hy h9; simp_all [isBk]; done) | (have hfin := all_of_get hall; simp_all [isBk]; done)
                  · try simp only [decide_eq_true_eq, decide_eq_false_iff_not, Bool.not_eq_true', Bool.not_eq_false', Int.not_lt, Int.not_le, ne_eq, Decidable.not_not] at h9
                    try have h9b := inB_iff.1 h9
                    refine t_skip ?_
                    refine tn_blk ?_
                    refine tn_code ?_
                    refine t_reg ?_
                    refine to_mv rfl rfl ?_
                    refine to_add rfl rfl (by omega) rfl ?_
                    refine to_as rfl rfl ?_
                    refine to_nil ?_
                    exact tn_loop2 (k + 1) [.own b1 (isC (bkC b a c) 24), .snap 0 w.heap.size w] (rfl) (⟨by omega, all_succ hall (fun z hz => by rw [hy] at hz; cases hz; assumption)⟩) (by omega) (⟨rfl, rfl, trivial⟩)
                · try simp only [decide_eq_true_eq, decide_eq_false_iff_not, Bool.not_eq_true', Bool.not_eq_false', Int.not_lt, Int.not_le, ne_eq, Decidable.not_not] at h8
                  try have h8b := inB_iff.1 h8
                  have hk2 : k = b.lines.length := by omega
                  subst hk2
                  refine t_exit ?_
                  refine tx_code ?_
                  refine tx_inv ?_
                  refine tx_blk ?_
                  refine tn_code ?_
                  refine t_seq ?_
                  refine t_reg ?_
                  refine to_as rfl rfl ?_
                  refine to_nil ?_
                  refine tn_code ?_
                  refine t_ret1 rfl rfl (res_tmp rfl) (fun w' s => ?_)
                  first | (simp_all [isBk]; done) | (have hfin := not_all_of_get hy h9; simp_all [isBk]; done) | (have hfin := all_of_get hall; simp_all [isBk]; done)

set_option maxRecDepth 20000 in
theorem pay_isTruth (b : Bk) (a : Option Addr) (c : Nat) (t : List Int) (ta : Option Addr) (tc : Nat) (w : World) (hr : Ro w 0 w.heap.size a b.lines.length c 10 (b.lines.map linC)) (ht : Ro w 0 w.heap.size ta t.length tc 1 (ints t)) (hn : b.lines.length ≤ 1000) : Calls Tryz.prog 78 #[bkV b a c, .slice ta t.length tc] w (RetV w (.bool (truOk b.lines t))) := by
  refine calls_T0 (av := [_, _]) Tryz.func78 rfl rfl rfl ?_
  refine t_seq ?_
  refine t_reg ?_
  refine to_box rfl rfl (fun b2 => ?_)
  refine to_as rfl rfl ?_
  refine to_nil ?_
  refine tn_code ?_
  refine t_seq ?_
  refine t_seq ?_
  refine t_reg ?_
  refine to_mv rfl rfl ?_
  refine to_lenS rfl rfl ?_
  first | refine to_fa rfl rfl rfl (by simp only [Nat.reduceAdd]; rfl) rfl ?_ | refine to_fae rfl rfl rfl (by simp only [Nat.reduceAdd]; rfl) rfl ?_
  first | refine to_lds rfl rfl rfl ?_ | refine to_ldes rfl (by assumption) rfl rfl ?_
  refine to_lenS rfl rfl ?_
  refine to_neq rfl rfl rfl ?_
  refine to_nil ?_
  refine tn_code ?_
  refine t_if rfl (fun h1 => ?_) (fun h1 => ?_)
  · try simp only [decide_eq_true_eq, decide_eq_false_iff_not, Bool.not_eq_true', Bool.not_eq_false', Int.not_lt, Int.not_le, ne_eq, Decidable.not_not] at h1
    try have h1b := inB_iff.1 h1
    refine t_seq ?_
    refine t_reg ?_
    refine to_as rfl rfl ?_
    refine to_nil ?_
    refine tn_code ?_
    refine t_ret1 rfl rfl (res_tmp rfl) (fun w' s => ?_)
    first | (have hfin : truOk b.lines t = false := by rw [Bool.eq_false_iff]; intro hh; exact absurd (truOk_iff.1 hh).1 (by omega)) | (have hfin : truOk b.lines t = false := by rw [Bool.eq_false_iff]; intro hh; have := (truOk_iff.1 hh).2 k l y hl hy; simp_all) | (have hfin : truOk b.lines t = true := truOk_iff.2 ⟨by omega, fun j l e h1 h2 => hall j (List.getElem?_eq_some_iff.1 h2).1 l e h1 h2⟩)
    rw [hfin]
  · try simp only [decide_eq_true_eq, decide_eq_false_iff_not, Bool.not_eq_true', Bool.not_eq_false', Int.not_lt, Int.not_le, ne_eq, Decidable.not_not] at h1
    try have h1b := inB_iff.1 h1
    refine t_skip ?_
    refine tn_code ?_
    refine t_seq ?_
    refine t_seq ?_
    refine t_reg ?_
    refine to_mv rfl rfl ?_
    refine to_lenS rfl rfl ?_
    refine to_mv rfl rfl ?_
    refine to_nil ?_
    refine tn_code ?_
    refine t_blk ?_
    refine t_loop2 (ι := Nat) (fun k => k ≤ t.length ∧ ∀ j, j < k → ∀ l e, b.lines[j]? = some l → t[j]? = some e → inB e l.lo l.hi = true) (fun k => [(1, .slice ta t.length tc), (2, (.pointer (some ⟨b2, 0, none⟩))), (13, .slice ta t.length tc), (14, .int .i64 (t.length : Int)), (15, .int .i64 (k : Int))]) (fun k => [.own b2 (isC (bkC b a c) 24), .snap 0 w.heap.size w]) (fun k => t.length - k) (0) [.own b2 (isC (bkC b a c) 24), .snap 0 w.heap.size w] (rfl) (⟨Nat.zero_le _, fun j hj => absurd hj (Nat.not_lt_zero _)⟩) (⟨rfl, rfl, rfl, rfl, rfl, trivial⟩) ?_
    rintro k ⟨hk, hall⟩
    show T _ _ _ ⟨_, [(1, .slice ta t.length tc), (2, (.pointer (some ⟨b2, 0, none⟩))), (13, .slice ta t.length tc), (14, .int .i64 (t.length : Int)), (15, .int .i64 (k : Int))], _⟩ [.own b2 (isC (bkC b a c) 24), .snap 0 w.heap.size w]
    refine t_seq ?_
    refine t_reg ?_
    refine to_lss rfl rfl rfl ?_
    refine to_nil ?_
    refine tn_code ?_
    refine t_seq ?_
    refine t_if rfl (fun h2 => ?_) (fun h2 => ?_)
    · try simp only [decide_eq_true_eq, decide_eq_false_iff_not, Bool.not_eq_true', Bool.not_eq_false', Int.not_lt, Int.not_le, ne_eq, Decidable.not_not] at h2
      try have h2b := inB_iff.1 h2
      obtain ⟨y, hy⟩ := some_get (xs := t) (k := k) (by omega)
      have hx := map_get (f := intC) hy
      obtain ⟨l, hl⟩ := some_get (xs := b.lines) (k := k) (by omega)
      have hx2 := map_get (f := linC) hl
      refine t_skip ?_
      refine tn_code ?_
      refine t_seq ?_
      refine t_blk ?_
      refine t_seq ?_
      refine t_reg ?_
      refine to_mv rfl rfl ?_
      first | refine to_ix rfl rfl rfl (by first | omega | decide) (by first | omega | decide) rfl ?_ | refine to_ixi rfl rfl rfl (by omega) (by omega) (by omega) rfl ?_
      first | refine to_lds rfl rfl rfl ?_ | refine to_ldes rfl (by assumption) rfl rfl ?_
      refine to_as rfl rfl ?_
      refine to_as rfl rfl ?_
      refine to_nil ?_
      refine tn_code ?_
      refine t_seq ?_
      refine t_regD rfl (by kernel_rfl) (by kernel_rfl) ?_
      refine to_mv rfl rfl ?_
      first | refine to_fa rfl rfl rfl (by simp only [Nat.reduceAdd]; rfl) rfl ?_ | refine to_fae rfl rfl rfl (by simp only [Nat.reduceAdd]; rfl) rfl ?_
      first | refine to_lds rfl rfl rfl ?_ | refine to_ldes rfl (by assumption) rfl rfl ?_
      refine to_mv rfl rfl ?_
      first | refine to_ix rfl rfl rfl (by first | omega | decide) (by first | omega | decide) rfl ?_ | refine to_ixi rfl rfl rfl (by omega) (by omega) (by omega) rfl ?_
      first | refine to_fa rfl rfl rfl (by simp only [Nat.reduceAdd]; rfl) rfl ?_ | refine to_fae rfl rfl rfl (by simp only [Nat.reduceAdd]; rfl) rfl ?_
      first | refine to_fa rfl rfl rfl (by simp only [Nat.reduceAdd]; rfl) rfl ?_ | refine to_fae rfl rfl rfl (by simp only [Nat.reduceAdd]; rfl) rfl ?_
      first | refine to_lds rfl rfl rfl ?_ | refine to_ldes rfl (by assumption) rfl rfl ?_
      first | refine to_fa rfl rfl rfl (by simp only [Nat.reduceAdd]; rfl) rfl ?_ | refine to_fae rfl rfl rfl (by simp only [Nat.reduceAdd]; rfl) rfl ?_
      first | refine to_lds rfl rfl rfl ?_ | refine to_ldes rfl (by assumption) rfl rfl ?_
      refine to_mv rfl rfl ?_
      first | refine to_ix rfl rfl rfl (by first | omega | decide) (by first | omega | decide) rfl ?_ | refine to_ixi rfl rfl rfl (by omega) (by omega) (by omega) rfl ?_
      first | refine to_fa rfl rfl rfl (by simp only [Nat.reduceAdd]; rfl) rfl ?_ | refine to_fae rfl rfl rfl (by simp only [Nat.reduceAdd]; rfl) rfl ?_
      first | refine to_fa rfl rfl rfl (by simp only [Nat.reduceAdd]; rfl) rfl ?_ | refine to_fae rfl rfl rfl (by simp only [Nat.reduceAdd]; rfl) rfl ?_
      first | refine to_lds rfl rfl rfl ?_ | refine to_ldes rfl (by assumption) rfl rfl ?_
      refine to_call0 rfl rfl (fun w s => pay_in _ _ _ w) rfl ?_
      refine to_not rfl rfl ?_
      refine to_nil ?_
      refine tn_code ?_
      refine t_if rfl (fun h3 => ?_) (fun h3 => ?_)
      · try simp only [decide_eq_true_eq, decide_eq_false_iff_not, Bool.not_eq_true', Bool.not_eq_false', Int.not_lt, Int.not_le, ne_eq, Decidable.not_not] at h3
        try have h3b := inB_iff.1 h3
        refine t_seq ?_
        refine t_reg ?_
        refine to_as rfl rfl ?_
        refine to_nil ?_
        refine tn_code ?_
        refine t_ret1 rfl rfl (res_tmp rfl) (fun w' s => ?_)
        first | (have hfin : truOk b.lines t = false := by rw [Bool.eq_false_iff]; intro hh; exact absurd (truOk_iff.1 hh).1 (by omega)) | (have hfin : truOk b.lines t = false := by rw [Bool.eq_false_iff]; intro hh; have := (truOk_iff.1 hh).2 k l y hl hy; simp_all) | (have hfin : truOk b.lines t = true := truOk_iff.2 ⟨by omega, fun j l e h1 h2 => hall j (List.getElem?_eq_some_iff.1 h2).1 l e h1 h2⟩)
        rw [hfin]
      · try simp only [decide_eq_true_eq, decide_eq_false_iff_not, Bool.not_eq_true', Bool.not_eq_false', Int.not_lt, Int.not_le, ne_eq, Decidable.not_not] at h3
        try have h3b := inB_iff.1 h3
        refine t_skip ?_
        refine tn_blk ?_
        refine tn_code ?_
        refine t_reg ?_
        refine to_add rfl rfl (by omega) rfl ?_
        refine to_mv rfl rfl ?_
        refine to_nil ?_
        exact tn_loop2 (k + 1) [.own b2 (isC (bkC b a c) 24), .snap 0 w.heap.size w] (rfl) (⟨by omega, all_succ hall (fun l' e' h1 h2 => by rw [hl] at h1; rw [hy] at h2; cases h1; cases h2; assumption)⟩) (by omega) (⟨rfl, rfl, rfl, rfl, rfl, trivial⟩)
    · try simp only [decide_eq_true_eq, decide_eq_false_iff_not, Bool.not_eq_true', Bool.not_eq_false', Int.not_lt, Int.not_le, ne_eq, Decidable.not_not] at h2
      try have h2b := inB_iff.1 h2
      have hk2 : k = t.length := by omega
      subst hk2
      refine t_exit ?_
      refine tx_code ?_
      refine tx_inv ?_
      refine tx_blk ?_
      refine tn_code ?_
      refine t_seq ?_
      refine t_reg ?_
      refine to_as rfl rfl ?_
      refine to_nil ?_
      refine tn_code ?_
      refine t_ret1 rfl rfl (res_tmp rfl) (fun w' s => ?_)
      first | (have hfin : truOk b.lines t = false := by rw [Bool.eq_false_iff]; intro hh; exact absurd (truOk_iff.1 hh).1 (by omega)) | (have hfin : truOk b.lines t = false := by rw [Bool.eq_false_iff]; intro hh; have := (truOk_iff.1 hh).2 k l y hl hy; simp_all) | (have hfin : truOk b.lines t = true := truOk_iff.2 ⟨by omega, fun j l e h1 h2 => hall j (List.getElem?_eq_some_iff.1 h2).1 l e h1 h2⟩)
      rw [hfin]

end Go.Proofs


namespace Go.Proofs
open Go Go.Sx Go.RowKit

set_option maxRecDepth 20000 in
theorem law_short (b : Bk) (a : Option Addr) (c : Nat) (w : World)  : Calls Tryz.prog 12 #[bkV b a c] w (RetV w (.bool (decide (b.lines.length ≤ 7)))) := by
  refine calls_T0 (av := [_]) Tryz.func12 rfl rfl rfl ?_
  refine t_seq ?_
  refine t_reg ?_
  refine to_box rfl rfl (fun b1 => ?_)
  refine to_as rfl rfl ?_
  refine to_nil ?_
  refine tn_code ?_
  refine t_seq ?_
  refine t_reg ?_
  first | refine to_fa rfl rfl rfl (by simp only [Nat.reduceAdd]; rfl) rfl ?_ | refine to_fae rfl rfl rfl (by simp only [Nat.reduceAdd]; rfl) rfl ?_
  first | refine to_lds rfl rfl rfl ?_ | refine to_ldes rfl (by assumption) rfl rfl ?_
  refine to_lenS rfl rfl ?_
  refine to_leq rfl rfl rfl ?_
  refine to_as rfl rfl ?_
  refine to_nil ?_
  refine tn_code ?_
  refine t_ret1 rfl rfl (res_tmp rfl) (fun w' s => ?_)
  simp; omega

set_option maxRecDepth 20000 in
theorem law_right (b : Bk) (a : Option Addr) (c : Nat) (w : World) (hr : Ro w 0 w.heap.size a b.lines.length c 10 (b.lines.map linC)) : Calls Tryz.prog 19 #[bkV b a c] w (RetV w (.bool (isBk b))) := by
  have hlen : isBk b = true → b.lines.length ≤ 7 := fun h => by have := (isBk_b h).2.2.1; omega
  refine calls_T0 (av := [_]) Tryz.func19 rfl rfl rfl ?_
  refine t_seq ?_
  refine t_reg ?_
  refine to_box rfl rfl (fun b1 => ?_)
  refine to_as rfl rfl ?_
  refine to_nil ?_
  refine tn_code ?_
  refine t_seq ?_
  refine t_reg ?_
  first | refine to_lda rfl rfl rfl ?_ | refine to_ldea rfl (by assumption) rfl rfl ?_
  refine to_call0 rfl rfl (fun w s => law_short b a c w) rfl ?_
  refine to_mv rfl rfl ?_
  refine to_gs rfl rfl rfl (fun h1 => ?_) (fun h1 => ?_)
  · try simp only [decide_eq_true_eq, decide_eq_false_iff_not, Bool.not_eq_true', Bool.not_eq_false', Int.not_lt, Int.not_le, ne_eq, Decidable.not_not] at h1
    try have h1b := inB_iff.1 h1
    refine to_gt rfl rfl ?_
    first | refine to_lda rfl rfl rfl ?_ | refine to_ldea rfl (by assumption) rfl rfl ?_
    refine to_gt rfl rfl ?_
    refine to_call0 rfl rfl (fun w s => ref_Book b a c w (rdw s)) rfl ?_
    refine to_pkT rfl rfl rfl ?_
    refine to_as rfl rfl ?_
    refine to_nil ?_
    refine tn_code ?_
    refine t_ret1 rfl rfl (res_tmp rfl) (fun w' s => ?_)
    first | rfl | (have hfin : isBk b = false := (by rw [Bool.eq_false_iff]; intro hh; have := hlen hh; omega); rw [hfin])
  · try simp only [decide_eq_true_eq, decide_eq_false_iff_not, Bool.not_eq_true', Bool.not_eq_false', Int.not_lt, Int.not_le, ne_eq, Decidable.not_not] at h1
    try have h1b := inB_iff.1 h1
    refine to_gf rfl rfl rfl rfl ?_
    refine to_gf rfl rfl rfl rfl ?_
    refine to_pkF rfl rfl rfl ?_
    refine to_as rfl rfl ?_
    refine to_nil ?_
    refine tn_code ?_
    refine t_ret1 rfl rfl (res_tmp rfl) (fun w' s => ?_)
    first | rfl | (have hfin : isBk b = false := (by rw [Bool.eq_false_iff]; intro hh; have := hlen hh; omega); rw [hfin])

set_option maxRecDepth 20000 in
theorem law_span (x y : Int) (w : World)  : Calls Tryz.prog 28 #[(.int .i64 x), (.int .i64 y)] w (RetV w (spanV (x, y))) := by
  refine calls_T0 (av := [_, _]) Tryz.func28 rfl rfl rfl ?_
  refine t_seq ?_
  refine t_reg ?_
  refine to_alloc rfl (fun b4 => ?_)
  refine to_nil ?_
  refine tn_code ?_
  refine t_seq ?_
  refine t_reg ?_
  refine to_mv rfl rfl ?_
  refine to_mv rfl rfl ?_
  refine to_bs rfl rfl ?_
  first | refine to_st rfl rfl rfl rfl ?_ | refine to_ste rfl rfl (by assumption) rfl rfl ?_
  refine to_nil ?_
  refine tn_code ?_
  refine t_ret1 rfl rfl (res_cellA rfl rfl) (fun w' s => ?_)
  rfl

set_option maxRecDepth 20000 in
theorem ref_Same (xs ys : List Int) (a : Option Addr) (c : Nat) (a2 : Option Addr) (c2 : Nat) (w : World) (hr : Ro w 0 w.heap.size a xs.length c 1 (ints xs)) (hs : Ro w 0 w.heap.size a2 ys.length c2 1 (ints ys)) (hn : xs.length ≤ 1000) : Calls Tryz.prog 18 #[.slice a xs.length c, .slice a2 ys.length c2] w (RetV w (.bool (decide (xs = ys)))) := by
  refine calls_T0 (av := [_, _]) Tryz.func18 rfl rfl rfl ?_
  refine t_seq ?_
  refine t_reg ?_
  refine to_as rfl rfl ?_
  refine to_nil ?_
  refine tn_code ?_
  refine t_seq ?_
  refine t_seq ?_
  refine t_reg ?_
  refine to_mv rfl rfl ?_
  refine to_lenS rfl rfl ?_
  refine to_mv rfl rfl ?_
  refine to_lenS rfl rfl ?_
  refine to_neq rfl rfl rfl ?_
  refine to_nil ?_
  refine tn_code ?_
  refine t_if rfl (fun h1 => ?_) (fun h1 => ?_)
  · try simp only [decide_eq_true_eq, decide_eq_false_iff_not, Bool.not_eq_true', Bool.not_eq_false', Int.not_lt, Int.not_le, ne_eq, Decidable.not_not] at h1
    try have h1b := inB_iff.1 h1
    refine t_seq ?_
    refine t_reg ?_
    refine to_as rfl rfl ?_
    refine to_nil ?_
    refine tn_code ?_
    refine t_ret1 rfl rfl (res_tmp rfl) (fun w' s => ?_)
    first | (have hfin : xs ≠ ys := ne_of_len (by omega)) | (have hfin : xs ≠ ys := ne_of_get hy hz (by assumption)) | (have hfin : xs = ys := eq_of_get (by omega) hall)
    simp [hfin]
  · try simp only [decide_eq_true_eq, decide_eq_false_iff_not, Bool.not_eq_true', Bool.not_eq_false', Int.not_lt, Int.not_le, ne_eq, Decidable.not_not] at h1
    try have h1b := inB_iff.1 h1
    refine t_skip ?_
    refine tn_code ?_
    refine t_seq ?_
    refine t_seq ?_
    refine t_reg ?_
    refine to_as rfl rfl ?_
    refine to_nil ?_
    refine tn_code ?_
    refine t_blk ?_
    refine t_loop2 (ι := Nat) (fun k => k ≤ xs.length ∧ ∀ j, j < k → ∀ y z, xs[j]? = some y → ys[j]? = some z → y = z) (fun k => [(0, .slice a xs.length c), (1, .slice a2 ys.length c2), (5, .int .i64 (k : Int))]) (fun k => [.snap 0 w.heap.size w]) (fun k => xs.length - k) (0) [.snap 0 w.heap.size w] (rfl) (⟨Nat.zero_le _, fun j hj => absurd hj (Nat.not_lt_zero _)⟩) (⟨rfl, rfl, rfl, trivial⟩) ?_
    rintro k ⟨hk, hall⟩
    show T _ _ _ ⟨_, [(0, .slice a xs.length c), (1, .slice a2 ys.length c2), (5, .int .i64 (k : Int))], _⟩ [.snap 0 w.heap.size w]
    refine t_seq ?_
    refine t_seq ?_
    refine t_reg ?_
    refine to_mv rfl rfl ?_
    refine to_mv rfl rfl ?_
    refine to_lenS rfl rfl ?_
    refine to_lss rfl rfl rfl ?_
    refine to_nil ?_
    refine tn_code ?_
    refine t_if rfl (fun h2 => ?_) (fun h2 => ?_)
    · try simp only [decide_eq_true_eq, decide_eq_false_iff_not, Bool.not_eq_true', Bool.not_eq_false', Int.not_lt, Int.not_le, ne_eq, Decidable.not_not] at h2
      try have h2b := inB_iff.1 h2
      obtain ⟨y, hy⟩ := some_get (xs := xs) (k := k) (by omega)
      have hx := map_get (f := intC) hy
      obtain ⟨z, hz⟩ := some_get (xs := ys) (k := k) (by omega)
      have hx2 := map_get (f := intC) hz
      refine t_skip ?_
      refine tn_code ?_
      refine t_seq ?_
      refine t_blk ?_
      refine t_seq ?_
      refine t_regD rfl (by kernel_rfl) (by kernel_rfl) ?_
      refine to_mv rfl rfl ?_
      refine to_mv rfl rfl ?_
      first | refine to_ix rfl rfl rfl (by first | omega | decide) (by first | omega | decide) rfl ?_ | refine to_ixi rfl rfl rfl (by omega) (by omega) (by omega) rfl ?_
      first | refine to_lds rfl rfl rfl ?_ | refine to_ldes rfl (by assumption) rfl rfl ?_
      refine to_mv rfl rfl ?_
      refine to_mv rfl rfl ?_
      first | refine to_ix rfl rfl rfl (by first | omega | decide) (by first | omega | decide) rfl ?_ | refine to_ixi rfl rfl rfl (by omega) (by omega) (by omega) rfl ?_
      first | refine to_lds rfl rfl rfl ?_ | refine to_ldes rfl (by assumption) rfl rfl ?_
      refine to_neq rfl rfl rfl ?_
      refine to_nil ?_
      refine tn_code ?_
      refine t_if rfl (fun h3 => ?_) (fun h3 => ?_)
      · try simp only [decide_eq_true_eq, decide_eq_false_iff_not, Bool.not_eq_true', Bool.not_eq_false', Int.not_lt, Int.not_le, ne_eq, Decidable.not_not] at h3
        try have h3b := inB_iff.1 h3
        refine t_seq ?_
        refine t_reg ?_
        refine to_as rfl rfl ?_
        refine to_nil ?_
        refine tn_code ?_
        refine t_ret1 rfl rfl (res_tmp rfl) (fun w' s => ?_)
        first | (have hfin : xs ≠ ys := ne_of_len (by omega)) | (have hfin : xs ≠ ys := ne_of_get hy hz (by assumption)) | (have hfin : xs = ys := eq_of_get (by omega) hall)
        simp [hfin]
      · try simp only [decide_eq_true_eq, decide_eq_false_iff_not, Bool.not_eq_true', Bool.not_eq_false', Int.not_lt, Int.not_le, ne_eq, Decidable.not_not] at h3
        try have h3b := inB_iff.1 h3
        refine t_skip ?_
        refine tn_blk ?_
        refine tn_code ?_
        refine t_reg ?_
        refine to_mv rfl rfl ?_
        refine to_add rfl rfl (by omega) rfl ?_
        refine to_as rfl rfl ?_
        refine to_nil ?_
        exact tn_loop2 (k + 1) [.snap 0 w.heap.size w] (rfl) (⟨by omega, all_succ hall (fun u v h1 h2 => by rw [hy] at h1; rw [hz] at h2; cases h1; cases h2; assumption)⟩) (by omega) (⟨rfl, rfl, rfl, trivial⟩)
    · try simp only [decide_eq_true_eq, decide_eq_false_iff_not, Bool.not_eq_true', Bool.not_eq_false', Int.not_lt, Int.not_le, ne_eq, Decidable.not_not] at h2
      try have h2b := inB_iff.1 h2
      have hk2 : k = xs.length := by omega
      subst hk2
      refine t_exit ?_
      refine tx_code ?_
      refine tx_inv ?_
      refine tx_blk ?_
      refine tn_code ?_
      refine t_seq ?_
      refine t_reg ?_
      refine to_as rfl rfl ?_
      refine to_nil ?_
      refine tn_code ?_
      refine t_ret1 rfl rfl (res_tmp rfl) (fun w' s => ?_)
      first | (have hfin : xs ≠ ys := ne_of_len (by omega)) | (have hfin : xs ≠ ys := ne_of_get hy hz (by assumption)) | (have hfin : xs = ys := eq_of_get (by omega) hall)
      simp [hfin]

set_option maxRecDepth 20000 in
theorem ref_SameSpans (xs ys : List (Int × Int)) (a : Option Addr) (c : Nat) (a2 : Option Addr) (c2 : Nat) (w : World) (hr : Ro w 0 w.heap.size a xs.length c 2 (spans xs)) (hs : Ro w 0 w.heap.size a2 ys.length c2 2 (spans ys)) (hn : xs.length ≤ 1000) : Calls Tryz.prog 47 #[.slice a xs.length c, .slice a2 ys.length c2] w (RetV w (.bool (decide (xs = ys)))) := by
  refine calls_T0 (av := [_, _]) Tryz.func47 rfl rfl rfl ?_
  refine t_seq ?_
  refine t_reg ?_
  refine to_as rfl rfl ?_
  refine to_nil ?_
  refine tn_code ?_
  refine t_seq ?_
  refine t_seq ?_
  refine t_reg ?_
  refine to_mv rfl rfl ?_
  refine to_lenS rfl rfl ?_
  refine to_mv rfl rfl ?_
  refine to_lenS rfl rfl ?_
  refine to_neq rfl rfl rfl ?_
  refine to_nil ?_
  refine tn_code ?_
  refine t_if rfl (fun h1 => ?_) (fun h1 => ?_)
  · try simp only [decide_eq_true_eq, decide_eq_false_iff_not, Bool.not_eq_true', Bool.not_eq_false', Int.not_lt, Int.not_le, ne_eq, Decidable.not_not] at h1
    try have h1b := inB_iff.1 h1
    refine t_seq ?_
    refine t_reg ?_
    refine to_as rfl rfl ?_
    refine to_nil ?_
    refine tn_code ?_
    refine t_ret1 rfl rfl (res_tmp rfl) (fun w' s => ?_)
    first | (have hfin : xs ≠ ys := ne_of_len (by omega)) | (have hfin : xs ≠ ys := ne_of_get hy hz (by intro he; subst he; simp_all [ieq])) | (have hfin : xs = ys := eq_of_get (by omega) hall)
    simp [hfin]
  · try simp only [decide_eq_true_eq, decide_eq_false_iff_not, Bool.not_eq_true', Bool.not_eq_false', Int.not_lt, Int.not_le, ne_eq, Decidable.not_not] at h1
    try have h1b := inB_iff.1 h1
    refine t_skip ?_
    refine tn_code ?_
    refine t_seq ?_
    refine t_seq ?_
    refine t_reg ?_
    refine to_as rfl rfl ?_
    refine to_nil ?_
    refine tn_code ?_
    refine t_blk ?_
    refine t_loop2 (ι := Nat) (fun k => k ≤ xs.length ∧ ∀ j, j < k → ∀ y z, xs[j]? = some y → ys[j]? = some z → y = z) (fun k => [(0, .slice a xs.length c), (1, .slice a2 ys.length c2), (5, .int .i64 (k : Int))]) (fun k => [.snap 0 w.heap.size w]) (fun k => xs.length - k) (0) [.snap 0 w.heap.size w] (rfl) (⟨Nat.zero_le _, fun j hj => absurd hj (Nat.not_lt_zero _)⟩) (⟨rfl, rfl, rfl, trivial⟩) ?_
    rintro k ⟨hk, hall⟩
    show T _ _ _ ⟨_, [(0, .slice a xs.length c), (1, .slice a2 ys.length c2), (5, .int .i64 (k : Int))], _⟩ [.snap 0 w.heap.size w]
    refine t_seq ?_
    refine t_seq ?_
    refine t_reg ?_
    refine to_mv rfl rfl ?_
    refine to_mv rfl rfl ?_
    refine to_lenS rfl rfl ?_
    refine to_lss rfl rfl rfl ?_
    refine to_nil ?_
    refine tn_code ?_
    refine t_if rfl (fun h2 => ?_) (fun h2 => ?_)
    · try simp only [decide_eq_true_eq, decide_eq_false_iff_not, Bool.not_eq_true', Bool.not_eq_false', Int.not_lt, Int.not_le, ne_eq, Decidable.not_not] at h2
      try have h2b := inB_iff.1 h2
      obtain ⟨y, hy⟩ := some_get (xs := xs) (k := k) (by omega)
      have hx := map_get (f := spanC) hy
      obtain ⟨z, hz⟩ := some_get (xs := ys) (k := k) (by omega)
      have hx2 := map_get (f := spanC) hz
      refine t_skip ?_
      refine tn_code ?_
      refine t_seq ?_
      refine t_blk ?_
      refine t_seq ?_
      refine t_regD rfl (by kernel_rfl) (by kernel_rfl) ?_
      refine to_mv rfl rfl ?_
      refine to_mv rfl rfl ?_
      first | refine to_ix rfl rfl rfl (by first | omega | decide) (by first | omega | decide) rfl ?_ | refine to_ixi rfl rfl rfl (by omega) (by omega) (by omega) rfl ?_
      first | refine to_lda rfl rfl rfl ?_ | refine to_ldea rfl (by assumption) rfl rfl ?_
      refine to_mv rfl rfl ?_
      refine to_mv rfl rfl ?_
      first | refine to_ix rfl rfl rfl (by first | omega | decide) (by first | omega | decide) rfl ?_ | refine to_ixi rfl rfl rfl (by omega) (by omega) (by omega) rfl ?_
      first | refine to_lda rfl rfl rfl ?_ | refine to_ldea rfl (by assumption) rfl rfl ?_
      refine to_nes rfl rfl rfl rfl rfl rfl rfl ?_
      refine to_nil ?_
      refine tn_code ?_
      refine t_if rfl (fun h3 => ?_) (fun h3 => ?_)
      · try simp only [decide_eq_true_eq, decide_eq_false_iff_not, Bool.not_eq_true', Bool.not_eq_false', Int.not_lt, Int.not_le, ne_eq, Decidable.not_not] at h3
        try have h3b := inB_iff.1 h3
        refine t_seq ?_
        refine t_reg ?_
        refine to_as rfl rfl ?_
        refine to_nil ?_
        refine tn_code ?_
        refine t_ret1 rfl rfl (res_tmp rfl) (fun w' s => ?_)
        first | (have hfin : xs ≠ ys := ne_of_len (by omega)) | (have hfin : xs ≠ ys := ne_of_get hy hz (by intro he; subst he; simp_all [ieq])) | (have hfin : xs = ys := eq_of_get (by omega) hall)
        simp [hfin]
      · try simp only [decide_eq_true_eq, decide_eq_false_iff_not, Bool.not_eq_true', Bool.not_eq_false', Int.not_lt, Int.not_le, ne_eq, Decidable.not_not] at h3
        try have h3b := inB_iff.1 h3
        refine t_skip ?_
        refine tn_blk ?_
        refine tn_code ?_
        refine t_reg ?_
        refine to_mv rfl rfl ?_
        refine to_add rfl rfl (by omega) rfl ?_
        refine to_as rfl rfl ?_
        refine to_nil ?_
        exact tn_loop2 (k + 1) [.snap 0 w.heap.size w] (rfl) (⟨by omega, all_succ hall (fun u v h1 h2 => by rw [hy] at h1; rw [hz] at h2; cases h1; cases h2; simp_all [ieq, Prod.ext_iff])⟩) (by omega) (⟨rfl, rfl, rfl, trivial⟩)
    · try simp only [decide_eq_true_eq, decide_eq_false_iff_not, Bool.not_eq_true', Bool.not_eq_false', Int.not_lt, Int.not_le, ne_eq, Decidable.not_not] at h2
      try have h2b := inB_iff.1 h2
      have hk2 : k = xs.length := by omega
      subst hk2
      refine t_exit ?_
      refine tx_code ?_
      refine tx_inv ?_
      refine tx_blk ?_
      refine tn_code ?_
      refine t_seq ?_
      refine t_reg ?_
      refine to_as rfl rfl ?_
      refine to_nil ?_
      refine tn_code ?_
      refine t_ret1 rfl rfl (res_tmp rfl) (fun w' s => ?_)
      first | (have hfin : xs ≠ ys := ne_of_len (by omega)) | (have hfin : xs ≠ ys := ne_of_get hy hz (by intro he; subst he; simp_all [ieq])) | (have hfin : xs = ys := eq_of_get (by omega) hall)
      simp [hfin]

end Go.Proofs

