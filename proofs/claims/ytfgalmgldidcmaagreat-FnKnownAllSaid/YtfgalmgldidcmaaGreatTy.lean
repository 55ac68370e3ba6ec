/- The types of the translation, as the abstract logic has them: for each its form, its cells, its bytes and its zero value. Printed by a program from the translation; each row is proved from the loaded program's own facts. -/
import Derived.Test.YtfgalmgldidcmaaGreatProg
import Derived.Test.YtfgalmgldidcmaaGreatCoreD
namespace Go.Proofs.YtfgalmgldidcmaaGreat
open Go Go.AL
set_option maxRecDepth 100000

set_option maxRecDepth 100000 in
def tyT : Nat → TyI
  | 1 => ⟨Ty.func, 1, 8, none⟩
  | 2 => ⟨Ty.int .i64, 1, 8, some [.int .i64 0]⟩
  | 3 => ⟨Ty.int .i64, 1, 8, some [.int .i64 0]⟩
  | 4 => ⟨Ty.bool, 1, 1, some [.bool false]⟩
  | 5 => ⟨Ty.int .u8, 1, 1, some [.int .u8 0]⟩
  | 6 => ⟨Ty.int .u8, 1, 1, some [.int .u8 0]⟩
  | 7 => ⟨Ty.strct [(0, 2), (1, 3), (2, 4), (3, 6)], 4, 24, some [.int .i64 0, .int .i64 0, .bool false, .int .u8 0]⟩
  | 8 => ⟨Ty.strct [(0, 2), (1, 3), (2, 4), (3, 6)], 4, 24, some [.int .i64 0, .int .i64 0, .bool false, .int .u8 0]⟩
  | 9 => ⟨Ty.str, 1, 16, some [.str []]⟩
  | 10 => ⟨Ty.str, 1, 16, some [.str []]⟩
  | 11 => ⟨Ty.str, 1, 16, some [.str []]⟩
  | 12 => ⟨Ty.int .u64, 1, 8, some [.int .u64 0]⟩
  | 13 => ⟨Ty.strct [(0, 9), (1, 12)], 2, 24, some [.str [], .int .u64 0]⟩
  | 14 => ⟨Ty.strct [(0, 9), (1, 12)], 2, 24, some [.str [], .int .u64 0]⟩
  | 15 => ⟨Ty.ptr, 1, 8, none⟩
  | 16 => ⟨Ty.ptr, 1, 8, none⟩
  | 17 => ⟨Ty.ptr, 1, 8, none⟩
  | 18 => ⟨Ty.strct [(0, 17)], 1, 8, none⟩
  | 19 => ⟨Ty.strct [(0, 17)], 1, 8, none⟩
  | 20 => ⟨Ty.iface, 1, 16, none⟩
  | 21 => ⟨Ty.int .i32, 1, 4, some [.int .i32 0]⟩
  | 22 => ⟨Ty.slice 5, 1, 24, some [.sl 1 [] .full]⟩
  | 23 => ⟨Ty.slice 67, 1, 24, some [.sl 2 [] .full]⟩
  | 24 => ⟨Ty.slice 72, 1, 24, some [.sl 3 [] .full]⟩
  | 25 => ⟨Ty.strct [(0, 3), (1, 3), (2, 3), (3, 24)], 4, 48, some [.int .i64 0, .int .i64 0, .int .i64 0, .sl 3 [] .full]⟩
  | 26 => ⟨Ty.strct [(0, 3), (1, 3), (2, 3), (3, 24)], 4, 48, some [.int .i64 0, .int .i64 0, .int .i64 0, .sl 3 [] .full]⟩
  | 27 => ⟨Ty.slice 39, 1, 24, some [.sl 9 [] .full]⟩
  | 28 => ⟨Ty.slice 9, 1, 24, some [.sl 1 [] .full]⟩
  | 30 => ⟨Ty.func, 1, 8, none⟩
  | 31 => ⟨Ty.strct [(0, 4), (1, 4)], 2, 2, some [.bool false, .bool false]⟩
  | 32 => ⟨Ty.strct [(0, 4), (1, 4)], 2, 2, some [.bool false, .bool false]⟩
  | 33 => ⟨Ty.func, 1, 8, none⟩
  | 34 => ⟨Ty.func, 1, 8, none⟩
  | 35 => ⟨Ty.slice 37, 1, 24, some [.sl 4 [] .full]⟩
  | 36 => ⟨Ty.strct [(0, 3), (1, 3), (2, 9), (3, 35)], 4, 56, some [.int .i64 0, .int .i64 0, .str [], .sl 4 [] .full]⟩
  | 37 => ⟨Ty.strct [(0, 3), (1, 3), (2, 9), (3, 35)], 4, 56, some [.int .i64 0, .int .i64 0, .str [], .sl 4 [] .full]⟩
  | 38 => ⟨Ty.strct [(0, 9), (1, 4), (2, 3), (3, 3), (4, 3), (5, 37)], 9, 104, some [.str [], .bool false, .int .i64 0, .int .i64 0, .int .i64 0, .int .i64 0, .int .i64 0, .str [], .sl 4 [] .full]⟩
  | 39 => ⟨Ty.strct [(0, 9), (1, 4), (2, 3), (3, 3), (4, 3), (5, 37)], 9, 104, some [.str [], .bool false, .int .i64 0, .int .i64 0, .int .i64 0, .int .i64 0, .int .i64 0, .str [], .sl 4 [] .full]⟩
  | 40 => ⟨Ty.func, 1, 8, none⟩
  | 41 => ⟨Ty.func, 1, 8, none⟩
  | 42 => ⟨Ty.func, 1, 8, none⟩
  | 43 => ⟨Ty.ptr, 1, 8, none⟩
  | 44 => ⟨Ty.func, 1, 8, none⟩
  | 45 => ⟨Ty.func, 1, 8, none⟩
  | 46 => ⟨Ty.func, 1, 8, none⟩
  | 47 => ⟨Ty.func, 1, 8, none⟩
  | 48 => ⟨Ty.func, 1, 8, none⟩
  | 49 => ⟨Ty.func, 1, 8, none⟩
  | 50 => ⟨Ty.func, 1, 8, none⟩
  | 51 => ⟨Ty.func, 1, 8, none⟩
  | 52 => ⟨Ty.func, 1, 8, none⟩
  | 53 => ⟨Ty.func, 1, 8, none⟩
  | 54 => ⟨Ty.func, 1, 8, none⟩
  | 55 => ⟨Ty.func, 1, 8, none⟩
  | 56 => ⟨Ty.func, 1, 8, none⟩
  | 57 => ⟨Ty.func, 1, 8, none⟩
  | 58 => ⟨Ty.slice 3, 1, 24, some [.sl 1 [] .full]⟩
  | 59 => ⟨Ty.strct [(0, 4), (1, 58), (2, 58)], 3, 56, some [.bool false, .sl 1 [] .full, .sl 1 [] .full]⟩
  | 60 => ⟨Ty.strct [(0, 4), (1, 58), (2, 58)], 3, 56, some [.bool false, .sl 1 [] .full, .sl 1 [] .full]⟩
  | 61 => ⟨Ty.func, 1, 8, none⟩
  | 62 => ⟨Ty.func, 1, 8, none⟩
  | 63 => ⟨Ty.strct [(0, 22), (1, 3)], 2, 32, some [.sl 1 [] .full, .int .i64 0]⟩
  | 64 => ⟨Ty.strct [(0, 22), (1, 3)], 2, 32, some [.sl 1 [] .full, .int .i64 0]⟩
  | 65 => ⟨Ty.func, 1, 8, none⟩
  | 66 => ⟨Ty.strct [(0, 58), (1, 24)], 2, 48, some [.sl 1 [] .full, .sl 3 [] .full]⟩
  | 67 => ⟨Ty.strct [(0, 58), (1, 24)], 2, 48, some [.sl 1 [] .full, .sl 3 [] .full]⟩
  | 68 => ⟨Ty.func, 1, 8, none⟩
  | 69 => ⟨Ty.strct [(0, 3), (1, 3)], 2, 16, some [.int .i64 0, .int .i64 0]⟩
  | 70 => ⟨Ty.strct [(0, 3), (1, 3)], 2, 16, some [.int .i64 0, .int .i64 0]⟩
  | 71 => ⟨Ty.strct [(0, 9), (1, 70)], 3, 32, some [.str [], .int .i64 0, .int .i64 0]⟩
  | 72 => ⟨Ty.strct [(0, 9), (1, 70)], 3, 32, some [.str [], .int .i64 0, .int .i64 0]⟩
  | 73 => ⟨Ty.func, 1, 8, none⟩
  | 74 => ⟨Ty.func, 1, 8, none⟩
  | 75 => ⟨Ty.func, 1, 8, none⟩
  | 76 => ⟨Ty.func, 1, 8, none⟩
  | 77 => ⟨Ty.func, 1, 8, none⟩
  | 78 => ⟨Ty.func, 1, 8, none⟩
  | 79 => ⟨Ty.map 9 4, 1, 8, none⟩
  | 80 => ⟨Ty.func, 1, 8, none⟩
  | 81 => ⟨Ty.func, 1, 8, none⟩
  | 82 => ⟨Ty.func, 1, 8, none⟩
  | 83 => ⟨Ty.func, 1, 8, none⟩
  | 84 => ⟨Ty.func, 1, 8, none⟩
  | 86 => ⟨Ty.func, 1, 8, none⟩
  | 87 => ⟨Ty.func, 1, 8, none⟩
  | 88 => ⟨Ty.func, 1, 8, none⟩
  | 89 => ⟨Ty.func, 1, 8, none⟩
  | 90 => ⟨Ty.func, 1, 8, none⟩
  | 91 => ⟨Ty.func, 1, 8, none⟩
  | 92 => ⟨Ty.slice 70, 1, 24, some [.sl 2 [] .full]⟩
  | 93 => ⟨Ty.func, 1, 8, none⟩
  | 94 => ⟨Ty.func, 1, 8, none⟩
  | 95 => ⟨Ty.func, 1, 8, none⟩
  | 96 => ⟨Ty.func, 1, 8, none⟩
  | 97 => ⟨Ty.strct [(0, 23), (1, 26)], 5, 72, some [.sl 2 [] .full, .int .i64 0, .int .i64 0, .int .i64 0, .sl 3 [] .full]⟩
  | 98 => ⟨Ty.strct [(0, 23), (1, 26)], 5, 72, some [.sl 2 [] .full, .int .i64 0, .int .i64 0, .int .i64 0, .sl 3 [] .full]⟩
  | 99 => ⟨Ty.func, 1, 8, none⟩
  | 100 => ⟨Ty.func, 1, 8, none⟩
  | 101 => ⟨Ty.func, 1, 8, none⟩
  | 103 => ⟨Ty.func, 1, 8, none⟩
  | 104 => ⟨Ty.func, 1, 8, none⟩
  | 105 => ⟨Ty.func, 1, 8, none⟩
  | 106 => ⟨Ty.int .u64, 1, 8, some [.int .u64 0]⟩
  | 108 => ⟨Ty.func, 1, 8, none⟩
  | 109 => ⟨Ty.func, 1, 8, none⟩
  | 110 => ⟨Ty.func, 1, 8, none⟩
  | 112 => ⟨Ty.func, 1, 8, none⟩
  | 113 => ⟨Ty.func, 1, 8, none⟩
  | 114 => ⟨Ty.func, 1, 8, none⟩
  | 115 => ⟨Ty.func, 1, 8, none⟩
  | 116 => ⟨Ty.int .i64, 1, 8, some [.int .i64 0]⟩
  | 118 => ⟨Ty.func, 1, 8, none⟩
  | 119 => ⟨Ty.func, 1, 8, none⟩
  | 120 => ⟨Ty.func, 1, 8, none⟩
  | 121 => ⟨Ty.func, 1, 8, none⟩
  | 122 => ⟨Ty.func, 1, 8, none⟩
  | 123 => ⟨Ty.func, 1, 8, none⟩
  | 124 => ⟨Ty.int .u32, 1, 4, some [.int .u32 0]⟩
  | 125 => ⟨Ty.func, 1, 8, none⟩
  | 126 => ⟨Ty.int .u64, 1, 8, some [.int .u64 0]⟩
  | 127 => ⟨Ty.func, 1, 8, none⟩
  | 128 => ⟨Ty.func, 1, 8, none⟩
  | 129 => ⟨Ty.int .u64, 1, 8, some [.int .u64 0]⟩
  | 130 => ⟨Ty.func, 1, 8, none⟩
  | 131 => ⟨Ty.func, 1, 8, none⟩
  | 132 => ⟨Ty.func, 1, 8, none⟩
  | 133 => ⟨Ty.ptr, 1, 8, none⟩
  | 134 => ⟨Ty.func, 1, 8, none⟩
  | 135 => ⟨Ty.func, 1, 8, none⟩
  | 136 => ⟨Ty.ptr, 1, 8, none⟩
  | 138 => ⟨Ty.func, 1, 8, none⟩
  | 139 => ⟨Ty.func, 1, 8, none⟩
  | 140 => ⟨Ty.strct [(0, 17), (1, 17), (2, 17), (3, 9)], 4, 40, none⟩
  | 141 => ⟨Ty.strct [(0, 17), (1, 17), (2, 17), (3, 9)], 4, 40, none⟩
  | 143 => ⟨Ty.strct [(0, 142)], 0, 0, none⟩
  | 144 => ⟨Ty.strct [(0, 142)], 0, 0, none⟩
  | 145 => ⟨Ty.func, 1, 8, none⟩
  | 146 => ⟨Ty.int .u8, 1, 1, some [.int .u8 0]⟩
  | 147 => ⟨Ty.int .u8, 1, 1, some [.int .u8 0]⟩
  | 148 => ⟨Ty.func, 1, 8, none⟩
  | 149 => ⟨Ty.ptr, 1, 8, none⟩
  | 150 => ⟨Ty.int .i32, 1, 4, some [.int .i32 0]⟩
  | 151 => ⟨Ty.int .i32, 1, 4, some [.int .i32 0]⟩
  | 152 => ⟨Ty.strct [(0, 12), (1, 12), (2, 124), (3, 146), (4, 5), (5, 5), (6, 147), (7, 148), (8, 149), (9, 150), (10, 151)], 11, 48, none⟩
  | 153 => ⟨Ty.strct [(0, 12), (1, 12), (2, 124), (3, 146), (4, 5), (5, 5), (6, 147), (7, 148), (8, 149), (9, 150), (10, 151)], 11, 48, none⟩
  | 154 => ⟨Ty.func, 1, 8, none⟩
  | _ => ⟨.other, 0, 0, none⟩

theorem tyOK1 : TyOK Tryz.prog 1 (tyT 1) := ⟨⟨_, _, _, Tryz.underlying1⟩, ⟨Tryz.t1, Tryz.type1, rfl, rfl, trivial⟩⟩
theorem tyOK2 : TyOK Tryz.prog 2 (tyT 2) := ⟨Tryz.underlying2, ⟨Tryz.t2, Tryz.type2, rfl, rfl, ⟨rfl, rfl, rfl, fun h => by first | rfl | cases h⟩⟩⟩
theorem tyOK3 : TyOK Tryz.prog 3 (tyT 3) := ⟨Tryz.underlying3, ⟨Tryz.t3, Tryz.type3, rfl, rfl, ⟨rfl, rfl, rfl, fun h => by first | rfl | cases h⟩⟩⟩
theorem tyOK4 : TyOK Tryz.prog 4 (tyT 4) := ⟨Tryz.underlying4, ⟨Tryz.t4, Tryz.type4, rfl, rfl, ⟨rfl, rfl, rfl, fun h => by first | rfl | cases h⟩⟩⟩
theorem tyOK5 : TyOK Tryz.prog 5 (tyT 5) := ⟨Tryz.underlying5, ⟨Tryz.t5, Tryz.type5, rfl, rfl, ⟨rfl, rfl, rfl, fun h => by first | rfl | cases h⟩⟩⟩
theorem tyOK6 : TyOK Tryz.prog 6 (tyT 6) := ⟨Tryz.underlying6, ⟨Tryz.t6, Tryz.type6, rfl, rfl, ⟨rfl, rfl, rfl, fun h => by first | rfl | cases h⟩⟩⟩
theorem tyOK7 : TyOK Tryz.prog 7 (tyT 7) := ⟨⟨_, Tryz.underlying7, rfl⟩, ⟨Tryz.t7, Tryz.type7, rfl, rfl, ⟨rfl, rfl, rfl, fun h => by first | rfl | cases h⟩⟩⟩
theorem tyOK8 : TyOK Tryz.prog 8 (tyT 8) := ⟨⟨_, Tryz.underlying8, rfl⟩, ⟨Tryz.t8, Tryz.type8, rfl, rfl, ⟨rfl, rfl, rfl, fun h => by first | rfl | cases h⟩⟩⟩
theorem tyOK9 : TyOK Tryz.prog 9 (tyT 9) := ⟨Tryz.underlying9, ⟨Tryz.t9, Tryz.type9, rfl, rfl, ⟨rfl, rfl, rfl, fun h => by first | rfl | cases h⟩⟩⟩
theorem tyOK10 : TyOK Tryz.prog 10 (tyT 10) := ⟨Tryz.underlying10, ⟨Tryz.t10, Tryz.type10, rfl, rfl, ⟨rfl, rfl, rfl, fun h => by first | rfl | cases h⟩⟩⟩
theorem tyOK11 : TyOK Tryz.prog 11 (tyT 11) := ⟨Tryz.underlying11, ⟨Tryz.t11, Tryz.type11, rfl, rfl, ⟨rfl, rfl, rfl, fun h => by first | rfl | cases h⟩⟩⟩
theorem tyOK12 : TyOK Tryz.prog 12 (tyT 12) := ⟨Tryz.underlying12, ⟨Tryz.t12, Tryz.type12, rfl, rfl, ⟨rfl, rfl, rfl, fun h => by first | rfl | cases h⟩⟩⟩
theorem tyOK13 : TyOK Tryz.prog 13 (tyT 13) := ⟨⟨_, Tryz.underlying13, rfl⟩, ⟨Tryz.t13, Tryz.type13, rfl, rfl, ⟨rfl, rfl, rfl, fun h => by first | rfl | cases h⟩⟩⟩
theorem tyOK14 : TyOK Tryz.prog 14 (tyT 14) := ⟨⟨_, Tryz.underlying14, rfl⟩, ⟨Tryz.t14, Tryz.type14, rfl, rfl, ⟨rfl, rfl, rfl, fun h => by first | rfl | cases h⟩⟩⟩
theorem tyOK15 : TyOK Tryz.prog 15 (tyT 15) := ⟨⟨_, Tryz.underlying15⟩, ⟨Tryz.t15, Tryz.type15, rfl, rfl, trivial⟩⟩
theorem tyOK16 : TyOK Tryz.prog 16 (tyT 16) := ⟨⟨_, Tryz.underlying16⟩, ⟨Tryz.t16, Tryz.type16, rfl, rfl, trivial⟩⟩
theorem tyOK17 : TyOK Tryz.prog 17 (tyT 17) := ⟨⟨_, Tryz.underlying17⟩, ⟨Tryz.t17, Tryz.type17, rfl, rfl, trivial⟩⟩
theorem tyOK18 : TyOK Tryz.prog 18 (tyT 18) := ⟨⟨_, Tryz.underlying18, rfl⟩, ⟨Tryz.t18, Tryz.type18, rfl, rfl, trivial⟩⟩
theorem tyOK19 : TyOK Tryz.prog 19 (tyT 19) := ⟨⟨_, Tryz.underlying19, rfl⟩, ⟨Tryz.t19, Tryz.type19, rfl, rfl, trivial⟩⟩
theorem tyOK20 : TyOK Tryz.prog 20 (tyT 20) := ⟨⟨_, Tryz.underlying20⟩, ⟨Tryz.t20, Tryz.type20, rfl, rfl, trivial⟩⟩
theorem tyOK21 : TyOK Tryz.prog 21 (tyT 21) := ⟨Tryz.underlying21, ⟨Tryz.t21, Tryz.type21, rfl, rfl, ⟨rfl, rfl, rfl, fun h => by first | rfl | cases h⟩⟩⟩
theorem tyOK22 : TyOK Tryz.prog 22 (tyT 22) := ⟨Tryz.underlying22, ⟨Tryz.t22, Tryz.type22, rfl, rfl, ⟨rfl, rfl, rfl, fun h => by first | rfl | cases h⟩⟩⟩
theorem tyOK23 : TyOK Tryz.prog 23 (tyT 23) := ⟨Tryz.underlying23, ⟨Tryz.t23, Tryz.type23, rfl, rfl, ⟨rfl, rfl, rfl, fun h => by first | rfl | cases h⟩⟩⟩
theorem tyOK24 : TyOK Tryz.prog 24 (tyT 24) := ⟨Tryz.underlying24, ⟨Tryz.t24, Tryz.type24, rfl, rfl, ⟨rfl, rfl, rfl, fun h => by first | rfl | cases h⟩⟩⟩
theorem tyOK25 : TyOK Tryz.prog 25 (tyT 25) := ⟨⟨_, Tryz.underlying25, rfl⟩, ⟨Tryz.t25, Tryz.type25, rfl, rfl, ⟨rfl, rfl, rfl, fun h => by first | rfl | cases h⟩⟩⟩
theorem tyOK26 : TyOK Tryz.prog 26 (tyT 26) := ⟨⟨_, Tryz.underlying26, rfl⟩, ⟨Tryz.t26, Tryz.type26, rfl, rfl, ⟨rfl, rfl, rfl, fun h => by first | rfl | cases h⟩⟩⟩
theorem tyOK27 : TyOK Tryz.prog 27 (tyT 27) := ⟨Tryz.underlying27, ⟨Tryz.t27, Tryz.type27, rfl, rfl, ⟨rfl, rfl, rfl, fun h => by first | rfl | cases h⟩⟩⟩
theorem tyOK28 : TyOK Tryz.prog 28 (tyT 28) := ⟨Tryz.underlying28, ⟨Tryz.t28, Tryz.type28, rfl, rfl, ⟨rfl, rfl, rfl, fun h => by first | rfl | cases h⟩⟩⟩
theorem tyOK30 : TyOK Tryz.prog 30 (tyT 30) := ⟨⟨_, _, _, Tryz.underlying30⟩, ⟨Tryz.t30, Tryz.type30, rfl, rfl, trivial⟩⟩
theorem tyOK31 : TyOK Tryz.prog 31 (tyT 31) := ⟨⟨_, Tryz.underlying31, rfl⟩, ⟨Tryz.t31, Tryz.type31, rfl, rfl, ⟨rfl, rfl, rfl, fun h => by first | rfl | cases h⟩⟩⟩
theorem tyOK32 : TyOK Tryz.prog 32 (tyT 32) := ⟨⟨_, Tryz.underlying32, rfl⟩, ⟨Tryz.t32, Tryz.type32, rfl, rfl, ⟨rfl, rfl, rfl, fun h => by first | rfl | cases h⟩⟩⟩
theorem tyOK33 : TyOK Tryz.prog 33 (tyT 33) := ⟨⟨_, _, _, Tryz.underlying33⟩, ⟨Tryz.t33, Tryz.type33, rfl, rfl, trivial⟩⟩
theorem tyOK34 : TyOK Tryz.prog 34 (tyT 34) := ⟨⟨_, _, _, Tryz.underlying34⟩, ⟨Tryz.t34, Tryz.type34, rfl, rfl, trivial⟩⟩
theorem tyOK35 : TyOK Tryz.prog 35 (tyT 35) := ⟨Tryz.underlying35, ⟨Tryz.t35, Tryz.type35, rfl, rfl, ⟨rfl, rfl, rfl, fun h => by first | rfl | cases h⟩⟩⟩
theorem tyOK36 : TyOK Tryz.prog 36 (tyT 36) := ⟨⟨_, Tryz.underlying36, rfl⟩, ⟨Tryz.t36, Tryz.type36, rfl, rfl, ⟨rfl, rfl, rfl, fun h => by first | rfl | cases h⟩⟩⟩
theorem tyOK37 : TyOK Tryz.prog 37 (tyT 37) := ⟨⟨_, Tryz.underlying37, rfl⟩, ⟨Tryz.t37, Tryz.type37, rfl, rfl, ⟨rfl, rfl, rfl, fun h => by first | rfl | cases h⟩⟩⟩
theorem tyOK38 : TyOK Tryz.prog 38 (tyT 38) := ⟨⟨_, Tryz.underlying38, rfl⟩, ⟨Tryz.t38, Tryz.type38, rfl, rfl, ⟨rfl, rfl, rfl, fun h => by first | rfl | cases h⟩⟩⟩
theorem tyOK39 : TyOK Tryz.prog 39 (tyT 39) := ⟨⟨_, Tryz.underlying39, rfl⟩, ⟨Tryz.t39, Tryz.type39, rfl, rfl, ⟨rfl, rfl, rfl, fun h => by first | rfl | cases h⟩⟩⟩
theorem tyOK40 : TyOK Tryz.prog 40 (tyT 40) := ⟨⟨_, _, _, Tryz.underlying40⟩, ⟨Tryz.t40, Tryz.type40, rfl, rfl, trivial⟩⟩
theorem tyOK41 : TyOK Tryz.prog 41 (tyT 41) := ⟨⟨_, _, _, Tryz.underlying41⟩, ⟨Tryz.t41, Tryz.type41, rfl, rfl, trivial⟩⟩
theorem tyOK42 : TyOK Tryz.prog 42 (tyT 42) := ⟨⟨_, _, _, Tryz.underlying42⟩, ⟨Tryz.t42, Tryz.type42, rfl, rfl, trivial⟩⟩
theorem tyOK43 : TyOK Tryz.prog 43 (tyT 43) := ⟨⟨_, Tryz.underlying43⟩, ⟨Tryz.t43, Tryz.type43, rfl, rfl, trivial⟩⟩
theorem tyOK44 : TyOK Tryz.prog 44 (tyT 44) := ⟨⟨_, _, _, Tryz.underlying44⟩, ⟨Tryz.t44, Tryz.type44, rfl, rfl, trivial⟩⟩
theorem tyOK45 : TyOK Tryz.prog 45 (tyT 45) := ⟨⟨_, _, _, Tryz.underlying45⟩, ⟨Tryz.t45, Tryz.type45, rfl, rfl, trivial⟩⟩
theorem tyOK46 : TyOK Tryz.prog 46 (tyT 46) := ⟨⟨_, _, _, Tryz.underlying46⟩, ⟨Tryz.t46, Tryz.type46, rfl, rfl, trivial⟩⟩
theorem tyOK47 : TyOK Tryz.prog 47 (tyT 47) := ⟨⟨_, _, _, Tryz.underlying47⟩, ⟨Tryz.t47, Tryz.type47, rfl, rfl, trivial⟩⟩
theorem tyOK48 : TyOK Tryz.prog 48 (tyT 48) := ⟨⟨_, _, _, Tryz.underlying48⟩, ⟨Tryz.t48, Tryz.type48, rfl, rfl, trivial⟩⟩
theorem tyOK49 : TyOK Tryz.prog 49 (tyT 49) := ⟨⟨_, _, _, Tryz.underlying49⟩, ⟨Tryz.t49, Tryz.type49, rfl, rfl, trivial⟩⟩
theorem tyOK50 : TyOK Tryz.prog 50 (tyT 50) := ⟨⟨_, _, _, Tryz.underlying50⟩, ⟨Tryz.t50, Tryz.type50, rfl, rfl, trivial⟩⟩
theorem tyOK51 : TyOK Tryz.prog 51 (tyT 51) := ⟨⟨_, _, _, Tryz.underlying51⟩, ⟨Tryz.t51, Tryz.type51, rfl, rfl, trivial⟩⟩
theorem tyOK52 : TyOK Tryz.prog 52 (tyT 52) := ⟨⟨_, _, _, Tryz.underlying52⟩, ⟨Tryz.t52, Tryz.type52, rfl, rfl, trivial⟩⟩
theorem tyOK53 : TyOK Tryz.prog 53 (tyT 53) := ⟨⟨_, _, _, Tryz.underlying53⟩, ⟨Tryz.t53, Tryz.type53, rfl, rfl, trivial⟩⟩
theorem tyOK54 : TyOK Tryz.prog 54 (tyT 54) := ⟨⟨_, _, _, Tryz.underlying54⟩, ⟨Tryz.t54, Tryz.type54, rfl, rfl, trivial⟩⟩
theorem tyOK55 : TyOK Tryz.prog 55 (tyT 55) := ⟨⟨_, _, _, Tryz.underlying55⟩, ⟨Tryz.t55, Tryz.type55, rfl, rfl, trivial⟩⟩
theorem tyOK56 : TyOK Tryz.prog 56 (tyT 56) := ⟨⟨_, _, _, Tryz.underlying56⟩, ⟨Tryz.t56, Tryz.type56, rfl, rfl, trivial⟩⟩
theorem tyOK57 : TyOK Tryz.prog 57 (tyT 57) := ⟨⟨_, _, _, Tryz.underlying57⟩, ⟨Tryz.t57, Tryz.type57, rfl, rfl, trivial⟩⟩
theorem tyOK58 : TyOK Tryz.prog 58 (tyT 58) := ⟨Tryz.underlying58, ⟨Tryz.t58, Tryz.type58, rfl, rfl, ⟨rfl, rfl, rfl, fun h => by first | rfl | cases h⟩⟩⟩
theorem tyOK59 : TyOK Tryz.prog 59 (tyT 59) := ⟨⟨_, Tryz.underlying59, rfl⟩, ⟨Tryz.t59, Tryz.type59, rfl, rfl, ⟨rfl, rfl, rfl, fun h => by first | rfl | cases h⟩⟩⟩
theorem tyOK60 : TyOK Tryz.prog 60 (tyT 60) := ⟨⟨_, Tryz.underlying60, rfl⟩, ⟨Tryz.t60, Tryz.type60, rfl, rfl, ⟨rfl, rfl, rfl, fun h => by first | rfl | cases h⟩⟩⟩
theorem tyOK61 : TyOK Tryz.prog 61 (tyT 61) := ⟨⟨_, _, _, Tryz.underlying61⟩, ⟨Tryz.t61, Tryz.type61, rfl, rfl, trivial⟩⟩
theorem tyOK62 : TyOK Tryz.prog 62 (tyT 62) := ⟨⟨_, _, _, Tryz.underlying62⟩, ⟨Tryz.t62, Tryz.type62, rfl, rfl, trivial⟩⟩
theorem tyOK63 : TyOK Tryz.prog 63 (tyT 63) := ⟨⟨_, Tryz.underlying63, rfl⟩, ⟨Tryz.t63, Tryz.type63, rfl, rfl, ⟨rfl, rfl, rfl, fun h => by first | rfl | cases h⟩⟩⟩
theorem tyOK64 : TyOK Tryz.prog 64 (tyT 64) := ⟨⟨_, Tryz.underlying64, rfl⟩, ⟨Tryz.t64, Tryz.type64, rfl, rfl, ⟨rfl, rfl, rfl, fun h => by first | rfl | cases h⟩⟩⟩
theorem tyOK65 : TyOK Tryz.prog 65 (tyT 65) := ⟨⟨_, _, _, Tryz.underlying65⟩, ⟨Tryz.t65, Tryz.type65, rfl, rfl, trivial⟩⟩
theorem tyOK66 : TyOK Tryz.prog 66 (tyT 66) := ⟨⟨_, Tryz.underlying66, rfl⟩, ⟨Tryz.t66, Tryz.type66, rfl, rfl, ⟨rfl, rfl, rfl, fun h => by first | rfl | cases h⟩⟩⟩
theorem tyOK67 : TyOK Tryz.prog 67 (tyT 67) := ⟨⟨_, Tryz.underlying67, rfl⟩, ⟨Tryz.t67, Tryz.type67, rfl, rfl, ⟨rfl, rfl, rfl, fun h => by first | rfl | cases h⟩⟩⟩
theorem tyOK68 : TyOK Tryz.prog 68 (tyT 68) := ⟨⟨_, _, _, Tryz.underlying68⟩, ⟨Tryz.t68, Tryz.type68, rfl, rfl, trivial⟩⟩
theorem tyOK69 : TyOK Tryz.prog 69 (tyT 69) := ⟨⟨_, Tryz.underlying69, rfl⟩, ⟨Tryz.t69, Tryz.type69, rfl, rfl, ⟨rfl, rfl, rfl, fun h => by first | rfl | cases h⟩⟩⟩
theorem tyOK70 : TyOK Tryz.prog 70 (tyT 70) := ⟨⟨_, Tryz.underlying70, rfl⟩, ⟨Tryz.t70, Tryz.type70, rfl, rfl, ⟨rfl, rfl, rfl, fun h => by first | rfl | cases h⟩⟩⟩
theorem tyOK71 : TyOK Tryz.prog 71 (tyT 71) := ⟨⟨_, Tryz.underlying71, rfl⟩, ⟨Tryz.t71, Tryz.type71, rfl, rfl, ⟨rfl, rfl, rfl, fun h => by first | rfl | cases h⟩⟩⟩
theorem tyOK72 : TyOK Tryz.prog 72 (tyT 72) := ⟨⟨_, Tryz.underlying72, rfl⟩, ⟨Tryz.t72, Tryz.type72, rfl, rfl, ⟨rfl, rfl, rfl, fun h => by first | rfl | cases h⟩⟩⟩
theorem tyOK73 : TyOK Tryz.prog 73 (tyT 73) := ⟨⟨_, _, _, Tryz.underlying73⟩, ⟨Tryz.t73, Tryz.type73, rfl, rfl, trivial⟩⟩
theorem tyOK74 : TyOK Tryz.prog 74 (tyT 74) := ⟨⟨_, _, _, Tryz.underlying74⟩, ⟨Tryz.t74, Tryz.type74, rfl, rfl, trivial⟩⟩
theorem tyOK75 : TyOK Tryz.prog 75 (tyT 75) := ⟨⟨_, _, _, Tryz.underlying75⟩, ⟨Tryz.t75, Tryz.type75, rfl, rfl, trivial⟩⟩
theorem tyOK76 : TyOK Tryz.prog 76 (tyT 76) := ⟨⟨_, _, _, Tryz.underlying76⟩, ⟨Tryz.t76, Tryz.type76, rfl, rfl, trivial⟩⟩
theorem tyOK77 : TyOK Tryz.prog 77 (tyT 77) := ⟨⟨_, _, _, Tryz.underlying77⟩, ⟨Tryz.t77, Tryz.type77, rfl, rfl, trivial⟩⟩
theorem tyOK78 : TyOK Tryz.prog 78 (tyT 78) := ⟨⟨_, _, _, Tryz.underlying78⟩, ⟨Tryz.t78, Tryz.type78, rfl, rfl, trivial⟩⟩
theorem tyOK79 : TyOK Tryz.prog 79 (tyT 79) := ⟨Tryz.underlying79, ⟨Tryz.t79, Tryz.type79, rfl, rfl, trivial⟩⟩
theorem tyOK80 : TyOK Tryz.prog 80 (tyT 80) := ⟨⟨_, _, _, Tryz.underlying80⟩, ⟨Tryz.t80, Tryz.type80, rfl, rfl, trivial⟩⟩
theorem tyOK81 : TyOK Tryz.prog 81 (tyT 81) := ⟨⟨_, _, _, Tryz.underlying81⟩, ⟨Tryz.t81, Tryz.type81, rfl, rfl, trivial⟩⟩
theorem tyOK82 : TyOK Tryz.prog 82 (tyT 82) := ⟨⟨_, _, _, Tryz.underlying82⟩, ⟨Tryz.t82, Tryz.type82, rfl, rfl, trivial⟩⟩
theorem tyOK83 : TyOK Tryz.prog 83 (tyT 83) := ⟨⟨_, _, _, Tryz.underlying83⟩, ⟨Tryz.t83, Tryz.type83, rfl, rfl, trivial⟩⟩
theorem tyOK84 : TyOK Tryz.prog 84 (tyT 84) := ⟨⟨_, _, _, Tryz.underlying84⟩, ⟨Tryz.t84, Tryz.type84, rfl, rfl, trivial⟩⟩
theorem tyOK86 : TyOK Tryz.prog 86 (tyT 86) := ⟨⟨_, _, _, Tryz.underlying86⟩, ⟨Tryz.t86, Tryz.type86, rfl, rfl, trivial⟩⟩
theorem tyOK87 : TyOK Tryz.prog 87 (tyT 87) := ⟨⟨_, _, _, Tryz.underlying87⟩, ⟨Tryz.t87, Tryz.type87, rfl, rfl, trivial⟩⟩
theorem tyOK88 : TyOK Tryz.prog 88 (tyT 88) := ⟨⟨_, _, _, Tryz.underlying88⟩, ⟨Tryz.t88, Tryz.type88, rfl, rfl, trivial⟩⟩
theorem tyOK89 : TyOK Tryz.prog 89 (tyT 89) := ⟨⟨_, _, _, Tryz.underlying89⟩, ⟨Tryz.t89, Tryz.type89, rfl, rfl, trivial⟩⟩
theorem tyOK90 : TyOK Tryz.prog 90 (tyT 90) := ⟨⟨_, _, _, Tryz.underlying90⟩, ⟨Tryz.t90, Tryz.type90, rfl, rfl, trivial⟩⟩
theorem tyOK91 : TyOK Tryz.prog 91 (tyT 91) := ⟨⟨_, _, _, Tryz.underlying91⟩, ⟨Tryz.t91, Tryz.type91, rfl, rfl, trivial⟩⟩
theorem tyOK92 : TyOK Tryz.prog 92 (tyT 92) := ⟨Tryz.underlying92, ⟨Tryz.t92, Tryz.type92, rfl, rfl, ⟨rfl, rfl, rfl, fun h => by first | rfl | cases h⟩⟩⟩
theorem tyOK93 : TyOK Tryz.prog 93 (tyT 93) := ⟨⟨_, _, _, Tryz.underlying93⟩, ⟨Tryz.t93, Tryz.type93, rfl, rfl, trivial⟩⟩
theorem tyOK94 : TyOK Tryz.prog 94 (tyT 94) := ⟨⟨_, _, _, Tryz.underlying94⟩, ⟨Tryz.t94, Tryz.type94, rfl, rfl, trivial⟩⟩
theorem tyOK95 : TyOK Tryz.prog 95 (tyT 95) := ⟨⟨_, _, _, Tryz.underlying95⟩, ⟨Tryz.t95, Tryz.type95, rfl, rfl, trivial⟩⟩
theorem tyOK96 : TyOK Tryz.prog 96 (tyT 96) := ⟨⟨_, _, _, Tryz.underlying96⟩, ⟨Tryz.t96, Tryz.type96, rfl, rfl, trivial⟩⟩
theorem tyOK97 : TyOK Tryz.prog 97 (tyT 97) := ⟨⟨_, Tryz.underlying97, rfl⟩, ⟨Tryz.t97, Tryz.type97, rfl, rfl, ⟨rfl, rfl, rfl, fun h => by first | rfl | cases h⟩⟩⟩
theorem tyOK98 : TyOK Tryz.prog 98 (tyT 98) := ⟨⟨_, Tryz.underlying98, rfl⟩, ⟨Tryz.t98, Tryz.type98, rfl, rfl, ⟨rfl, rfl, rfl, fun h => by first | rfl | cases h⟩⟩⟩
theorem tyOK99 : TyOK Tryz.prog 99 (tyT 99) := ⟨⟨_, _, _, Tryz.underlying99⟩, ⟨Tryz.t99, Tryz.type99, rfl, rfl, trivial⟩⟩
theorem tyOK100 : TyOK Tryz.prog 100 (tyT 100) := ⟨⟨_, _, _, Tryz.underlying100⟩, ⟨Tryz.t100, Tryz.type100, rfl, rfl, trivial⟩⟩
theorem tyOK101 : TyOK Tryz.prog 101 (tyT 101) := ⟨⟨_, _, _, Tryz.underlying101⟩, ⟨Tryz.t101, Tryz.type101, rfl, rfl, trivial⟩⟩
theorem tyOK103 : TyOK Tryz.prog 103 (tyT 103) := ⟨⟨_, _, _, Tryz.underlying103⟩, ⟨Tryz.t103, Tryz.type103, rfl, rfl, trivial⟩⟩
theorem tyOK104 : TyOK Tryz.prog 104 (tyT 104) := ⟨⟨_, _, _, Tryz.underlying104⟩, ⟨Tryz.t104, Tryz.type104, rfl, rfl, trivial⟩⟩
theorem tyOK105 : TyOK Tryz.prog 105 (tyT 105) := ⟨⟨_, _, _, Tryz.underlying105⟩, ⟨Tryz.t105, Tryz.type105, rfl, rfl, trivial⟩⟩
theorem tyOK106 : TyOK Tryz.prog 106 (tyT 106) := ⟨Tryz.underlying106, ⟨Tryz.t106, Tryz.type106, rfl, rfl, ⟨rfl, rfl, rfl, fun h => by first | rfl | cases h⟩⟩⟩
theorem tyOK108 : TyOK Tryz.prog 108 (tyT 108) := ⟨⟨_, _, _, Tryz.underlying108⟩, ⟨Tryz.t108, Tryz.type108, rfl, rfl, trivial⟩⟩
theorem tyOK109 : TyOK Tryz.prog 109 (tyT 109) := ⟨⟨_, _, _, Tryz.underlying109⟩, ⟨Tryz.t109, Tryz.type109, rfl, rfl, trivial⟩⟩
theorem tyOK110 : TyOK Tryz.prog 110 (tyT 110) := ⟨⟨_, _, _, Tryz.underlying110⟩, ⟨Tryz.t110, Tryz.type110, rfl, rfl, trivial⟩⟩
theorem tyOK112 : TyOK Tryz.prog 112 (tyT 112) := ⟨⟨_, _, _, Tryz.underlying112⟩, ⟨Tryz.t112, Tryz.type112, rfl, rfl, trivial⟩⟩
theorem tyOK113 : TyOK Tryz.prog 113 (tyT 113) := ⟨⟨_, _, _, Tryz.underlying113⟩, ⟨Tryz.t113, Tryz.type113, rfl, rfl, trivial⟩⟩
theorem tyOK114 : TyOK Tryz.prog 114 (tyT 114) := ⟨⟨_, _, _, Tryz.underlying114⟩, ⟨Tryz.t114, Tryz.type114, rfl, rfl, trivial⟩⟩
theorem tyOK115 : TyOK Tryz.prog 115 (tyT 115) := ⟨⟨_, _, _, Tryz.underlying115⟩, ⟨Tryz.t115, Tryz.type115, rfl, rfl, trivial⟩⟩
theorem tyOK116 : TyOK Tryz.prog 116 (tyT 116) := ⟨Tryz.underlying116, ⟨Tryz.t116, Tryz.type116, rfl, rfl, ⟨rfl, rfl, rfl, fun h => by first | rfl | cases h⟩⟩⟩
theorem tyOK118 : TyOK Tryz.prog 118 (tyT 118) := ⟨⟨_, _, _, Tryz.underlying118⟩, ⟨Tryz.t118, Tryz.type118, rfl, rfl, trivial⟩⟩
theorem tyOK119 : TyOK Tryz.prog 119 (tyT 119) := ⟨⟨_, _, _, Tryz.underlying119⟩, ⟨Tryz.t119, Tryz.type119, rfl, rfl, trivial⟩⟩
theorem tyOK120 : TyOK Tryz.prog 120 (tyT 120) := ⟨⟨_, _, _, Tryz.underlying120⟩, ⟨Tryz.t120, Tryz.type120, rfl, rfl, trivial⟩⟩
theorem tyOK121 : TyOK Tryz.prog 121 (tyT 121) := ⟨⟨_, _, _, Tryz.underlying121⟩, ⟨Tryz.t121, Tryz.type121, rfl, rfl, trivial⟩⟩
theorem tyOK122 : TyOK Tryz.prog 122 (tyT 122) := ⟨⟨_, _, _, Tryz.underlying122⟩, ⟨Tryz.t122, Tryz.type122, rfl, rfl, trivial⟩⟩
theorem tyOK123 : TyOK Tryz.prog 123 (tyT 123) := ⟨⟨_, _, _, Tryz.underlying123⟩, ⟨Tryz.t123, Tryz.type123, rfl, rfl, trivial⟩⟩
theorem tyOK124 : TyOK Tryz.prog 124 (tyT 124) := ⟨Tryz.underlying124, ⟨Tryz.t124, Tryz.type124, rfl, rfl, ⟨rfl, rfl, rfl, fun h => by first | rfl | cases h⟩⟩⟩
theorem tyOK125 : TyOK Tryz.prog 125 (tyT 125) := ⟨⟨_, _, _, Tryz.underlying125⟩, ⟨Tryz.t125, Tryz.type125, rfl, rfl, trivial⟩⟩
theorem tyOK126 : TyOK Tryz.prog 126 (tyT 126) := ⟨Tryz.underlying126, ⟨Tryz.t126, Tryz.type126, rfl, rfl, ⟨rfl, rfl, rfl, fun h => by first | rfl | cases h⟩⟩⟩
theorem tyOK127 : TyOK Tryz.prog 127 (tyT 127) := ⟨⟨_, _, _, Tryz.underlying127⟩, ⟨Tryz.t127, Tryz.type127, rfl, rfl, trivial⟩⟩
theorem tyOK128 : TyOK Tryz.prog 128 (tyT 128) := ⟨⟨_, _, _, Tryz.underlying128⟩, ⟨Tryz.t128, Tryz.type128, rfl, rfl, trivial⟩⟩
theorem tyOK129 : TyOK Tryz.prog 129 (tyT 129) := ⟨Tryz.underlying129, ⟨Tryz.t129, Tryz.type129, rfl, rfl, ⟨rfl, rfl, rfl, fun h => by first | rfl | cases h⟩⟩⟩
theorem tyOK130 : TyOK Tryz.prog 130 (tyT 130) := ⟨⟨_, _, _, Tryz.underlying130⟩, ⟨Tryz.t130, Tryz.type130, rfl, rfl, trivial⟩⟩
theorem tyOK131 : TyOK Tryz.prog 131 (tyT 131) := ⟨⟨_, _, _, Tryz.underlying131⟩, ⟨Tryz.t131, Tryz.type131, rfl, rfl, trivial⟩⟩
theorem tyOK132 : TyOK Tryz.prog 132 (tyT 132) := ⟨⟨_, _, _, Tryz.underlying132⟩, ⟨Tryz.t132, Tryz.type132, rfl, rfl, trivial⟩⟩
theorem tyOK133 : TyOK Tryz.prog 133 (tyT 133) := ⟨⟨_, Tryz.underlying133⟩, ⟨Tryz.t133, Tryz.type133, rfl, rfl, trivial⟩⟩
theorem tyOK134 : TyOK Tryz.prog 134 (tyT 134) := ⟨⟨_, _, _, Tryz.underlying134⟩, ⟨Tryz.t134, Tryz.type134, rfl, rfl, trivial⟩⟩
theorem tyOK135 : TyOK Tryz.prog 135 (tyT 135) := ⟨⟨_, _, _, Tryz.underlying135⟩, ⟨Tryz.t135, Tryz.type135, rfl, rfl, trivial⟩⟩
theorem tyOK136 : TyOK Tryz.prog 136 (tyT 136) := ⟨⟨_, Tryz.underlying136⟩, ⟨Tryz.t136, Tryz.type136, rfl, rfl, trivial⟩⟩
theorem tyOK138 : TyOK Tryz.prog 138 (tyT 138) := ⟨⟨_, _, _, Tryz.underlying138⟩, ⟨Tryz.t138, Tryz.type138, rfl, rfl, trivial⟩⟩
theorem tyOK139 : TyOK Tryz.prog 139 (tyT 139) := ⟨⟨_, _, _, Tryz.underlying139⟩, ⟨Tryz.t139, Tryz.type139, rfl, rfl, trivial⟩⟩
theorem tyOK140 : TyOK Tryz.prog 140 (tyT 140) := ⟨⟨_, Tryz.underlying140, rfl⟩, ⟨Tryz.t140, Tryz.type140, rfl, rfl, trivial⟩⟩
theorem tyOK141 : TyOK Tryz.prog 141 (tyT 141) := ⟨⟨_, Tryz.underlying141, rfl⟩, ⟨Tryz.t141, Tryz.type141, rfl, rfl, trivial⟩⟩
theorem tyOK143 : TyOK Tryz.prog 143 (tyT 143) := ⟨⟨_, Tryz.underlying143, rfl⟩, ⟨Tryz.t143, Tryz.type143, rfl, rfl, trivial⟩⟩
theorem tyOK144 : TyOK Tryz.prog 144 (tyT 144) := ⟨⟨_, Tryz.underlying144, rfl⟩, ⟨Tryz.t144, Tryz.type144, rfl, rfl, trivial⟩⟩
theorem tyOK145 : TyOK Tryz.prog 145 (tyT 145) := ⟨⟨_, _, _, Tryz.underlying145⟩, ⟨Tryz.t145, Tryz.type145, rfl, rfl, trivial⟩⟩
theorem tyOK146 : TyOK Tryz.prog 146 (tyT 146) := ⟨Tryz.underlying146, ⟨Tryz.t146, Tryz.type146, rfl, rfl, ⟨rfl, rfl, rfl, fun h => by first | rfl | cases h⟩⟩⟩
theorem tyOK147 : TyOK Tryz.prog 147 (tyT 147) := ⟨Tryz.underlying147, ⟨Tryz.t147, Tryz.type147, rfl, rfl, ⟨rfl, rfl, rfl, fun h => by first | rfl | cases h⟩⟩⟩
theorem tyOK148 : TyOK Tryz.prog 148 (tyT 148) := ⟨⟨_, _, _, Tryz.underlying148⟩, ⟨Tryz.t148, Tryz.type148, rfl, rfl, trivial⟩⟩
theorem tyOK149 : TyOK Tryz.prog 149 (tyT 149) := ⟨⟨_, Tryz.underlying149⟩, ⟨Tryz.t149, Tryz.type149, rfl, rfl, trivial⟩⟩
theorem tyOK150 : TyOK Tryz.prog 150 (tyT 150) := ⟨Tryz.underlying150, ⟨Tryz.t150, Tryz.type150, rfl, rfl, ⟨rfl, rfl, rfl, fun h => by first | rfl | cases h⟩⟩⟩
theorem tyOK151 : TyOK Tryz.prog 151 (tyT 151) := ⟨Tryz.underlying151, ⟨Tryz.t151, Tryz.type151, rfl, rfl, ⟨rfl, rfl, rfl, fun h => by first | rfl | cases h⟩⟩⟩
theorem tyOK152 : TyOK Tryz.prog 152 (tyT 152) := ⟨⟨_, Tryz.underlying152, rfl⟩, ⟨Tryz.t152, Tryz.type152, rfl, rfl, trivial⟩⟩
theorem tyOK153 : TyOK Tryz.prog 153 (tyT 153) := ⟨⟨_, Tryz.underlying153, rfl⟩, ⟨Tryz.t153, Tryz.type153, rfl, rfl, trivial⟩⟩
theorem tyOK154 : TyOK Tryz.prog 154 (tyT 154) := ⟨⟨_, _, _, Tryz.underlying154⟩, ⟨Tryz.t154, Tryz.type154, rfl, rfl, trivial⟩⟩

set_option maxRecDepth 100000 in
theorem tyOK : ∀ n, TyOK Tryz.prog n (tyT n) := by
  intro n
  unfold tyT
  split
  · exact tyOK1
  · exact tyOK2
  · exact tyOK3
  · exact tyOK4
  · exact tyOK5
  · exact tyOK6
  · exact tyOK7
  · exact tyOK8
  · exact tyOK9
  · exact tyOK10
  · exact tyOK11
  · exact tyOK12
  · exact tyOK13
  · exact tyOK14
  · exact tyOK15
  · exact tyOK16
  · exact tyOK17
  · exact tyOK18
  · exact tyOK19
  · exact tyOK20
  · exact tyOK21
  · exact tyOK22
  · exact tyOK23
  · exact tyOK24
  · exact tyOK25
  · exact tyOK26
  · exact tyOK27
  · exact tyOK28
  · exact tyOK30
  · exact tyOK31
  · exact tyOK32
  · exact tyOK33
  · exact tyOK34
  · exact tyOK35
  · exact tyOK36
  · exact tyOK37
  · exact tyOK38
  · exact tyOK39
  · exact tyOK40
  · exact tyOK41
  · exact tyOK42
  · exact tyOK43
  · exact tyOK44
  · exact tyOK45
  · exact tyOK46
  · exact tyOK47
  · exact tyOK48
  · exact tyOK49
  · exact tyOK50
  · exact tyOK51
  · exact tyOK52
  · exact tyOK53
  · exact tyOK54
  · exact tyOK55
  · exact tyOK56
  · exact tyOK57
  · exact tyOK58
  · exact tyOK59
  · exact tyOK60
  · exact tyOK61
  · exact tyOK62
  · exact tyOK63
  · exact tyOK64
  · exact tyOK65
  · exact tyOK66
  · exact tyOK67
  · exact tyOK68
  · exact tyOK69
  · exact tyOK70
  · exact tyOK71
  · exact tyOK72
  · exact tyOK73
  · exact tyOK74
  · exact tyOK75
  · exact tyOK76
  · exact tyOK77
  · exact tyOK78
  · exact tyOK79
  · exact tyOK80
  · exact tyOK81
  · exact tyOK82
  · exact tyOK83
  · exact tyOK84
  · exact tyOK86
  · exact tyOK87
  · exact tyOK88
  · exact tyOK89
  · exact tyOK90
  · exact tyOK91
  · exact tyOK92
  · exact tyOK93
  · exact tyOK94
  · exact tyOK95
  · exact tyOK96
  · exact tyOK97
  · exact tyOK98
  · exact tyOK99
  · exact tyOK100
  · exact tyOK101
  · exact tyOK103
  · exact tyOK104
  · exact tyOK105
  · exact tyOK106
  · exact tyOK108
  · exact tyOK109
  · exact tyOK110
  · exact tyOK112
  · exact tyOK113
  · exact tyOK114
  · exact tyOK115
  · exact tyOK116
  · exact tyOK118
  · exact tyOK119
  · exact tyOK120
  · exact tyOK121
  · exact tyOK122
  · exact tyOK123
  · exact tyOK124
  · exact tyOK125
  · exact tyOK126
  · exact tyOK127
  · exact tyOK128
  · exact tyOK129
  · exact tyOK130
  · exact tyOK131
  · exact tyOK132
  · exact tyOK133
  · exact tyOK134
  · exact tyOK135
  · exact tyOK136
  · exact tyOK138
  · exact tyOK139
  · exact tyOK140
  · exact tyOK141
  · exact tyOK143
  · exact tyOK144
  · exact tyOK145
  · exact tyOK146
  · exact tyOK147
  · exact tyOK148
  · exact tyOK149
  · exact tyOK150
  · exact tyOK151
  · exact tyOK152
  · exact tyOK153
  · exact tyOK154
  · exact ⟨trivial, trivial⟩

def TT : Tab Tryz.prog := ⟨tyT, tyOK⟩

theorem TT_1 : TT.T 1 = ⟨Ty.func, 1, 8, none⟩ := rfl
theorem TT_2 : TT.T 2 = ⟨Ty.int .i64, 1, 8, some [.int .i64 0]⟩ := rfl
theorem TT_3 : TT.T 3 = ⟨Ty.int .i64, 1, 8, some [.int .i64 0]⟩ := rfl
theorem TT_4 : TT.T 4 = ⟨Ty.bool, 1, 1, some [.bool false]⟩ := rfl
theorem TT_5 : TT.T 5 = ⟨Ty.int .u8, 1, 1, some [.int .u8 0]⟩ := rfl
theorem TT_6 : TT.T 6 = ⟨Ty.int .u8, 1, 1, some [.int .u8 0]⟩ := rfl
theorem TT_7 : TT.T 7 = ⟨Ty.strct [(0, 2), (1, 3), (2, 4), (3, 6)], 4, 24, some [.int .i64 0, .int .i64 0, .bool false, .int .u8 0]⟩ := rfl
theorem TT_8 : TT.T 8 = ⟨Ty.strct [(0, 2), (1, 3), (2, 4), (3, 6)], 4, 24, some [.int .i64 0, .int .i64 0, .bool false, .int .u8 0]⟩ := rfl
theorem TT_9 : TT.T 9 = ⟨Ty.str, 1, 16, some [.str []]⟩ := rfl
theorem TT_10 : TT.T 10 = ⟨Ty.str, 1, 16, some [.str []]⟩ := rfl
theorem TT_11 : TT.T 11 = ⟨Ty.str, 1, 16, some [.str []]⟩ := rfl
theorem TT_12 : TT.T 12 = ⟨Ty.int .u64, 1, 8, some [.int .u64 0]⟩ := rfl
theorem TT_13 : TT.T 13 = ⟨Ty.strct [(0, 9), (1, 12)], 2, 24, some [.str [], .int .u64 0]⟩ := rfl
theorem TT_14 : TT.T 14 = ⟨Ty.strct [(0, 9), (1, 12)], 2, 24, some [.str [], .int .u64 0]⟩ := rfl
theorem TT_15 : TT.T 15 = ⟨Ty.ptr, 1, 8, none⟩ := rfl
theorem TT_16 : TT.T 16 = ⟨Ty.ptr, 1, 8, none⟩ := rfl
theorem TT_17 : TT.T 17 = ⟨Ty.ptr, 1, 8, none⟩ := rfl
theorem TT_18 : TT.T 18 = ⟨Ty.strct [(0, 17)], 1, 8, none⟩ := rfl
theorem TT_19 : TT.T 19 = ⟨Ty.strct [(0, 17)], 1, 8, none⟩ := rfl
theorem TT_20 : TT.T 20 = ⟨Ty.iface, 1, 16, none⟩ := rfl
theorem TT_21 : TT.T 21 = ⟨Ty.int .i32, 1, 4, some [.int .i32 0]⟩ := rfl
theorem TT_22 : TT.T 22 = ⟨Ty.slice 5, 1, 24, some [.sl 1 [] .full]⟩ := rfl
theorem TT_23 : TT.T 23 = ⟨Ty.slice 67, 1, 24, some [.sl 2 [] .full]⟩ := rfl
theorem TT_24 : TT.T 24 = ⟨Ty.slice 72, 1, 24, some [.sl 3 [] .full]⟩ := rfl
theorem TT_25 : TT.T 25 = ⟨Ty.strct [(0, 3), (1, 3), (2, 3), (3, 24)], 4, 48, some [.int .i64 0, .int .i64 0, .int .i64 0, .sl 3 [] .full]⟩ := rfl
theorem TT_26 : TT.T 26 = ⟨Ty.strct [(0, 3), (1, 3), (2, 3), (3, 24)], 4, 48, some [.int .i64 0, .int .i64 0, .int .i64 0, .sl 3 [] .full]⟩ := rfl
theorem TT_27 : TT.T 27 = ⟨Ty.slice 39, 1, 24, some [.sl 9 [] .full]⟩ := rfl
theorem TT_28 : TT.T 28 = ⟨Ty.slice 9, 1, 24, some [.sl 1 [] .full]⟩ := rfl
theorem TT_30 : TT.T 30 = ⟨Ty.func, 1, 8, none⟩ := rfl
theorem TT_31 : TT.T 31 = ⟨Ty.strct [(0, 4), (1, 4)], 2, 2, some [.bool false, .bool false]⟩ := rfl
theorem TT_32 : TT.T 32 = ⟨Ty.strct [(0, 4), (1, 4)], 2, 2, some [.bool false, .bool false]⟩ := rfl
theorem TT_33 : TT.T 33 = ⟨Ty.func, 1, 8, none⟩ := rfl
theorem TT_34 : TT.T 34 = ⟨Ty.func, 1, 8, none⟩ := rfl
theorem TT_35 : TT.T 35 = ⟨Ty.slice 37, 1, 24, some [.sl 4 [] .full]⟩ := rfl
theorem TT_36 : TT.T 36 = ⟨Ty.strct [(0, 3), (1, 3), (2, 9), (3, 35)], 4, 56, some [.int .i64 0, .int .i64 0, .str [], .sl 4 [] .full]⟩ := rfl
theorem TT_37 : TT.T 37 = ⟨Ty.strct [(0, 3), (1, 3), (2, 9), (3, 35)], 4, 56, some [.int .i64 0, .int .i64 0, .str [], .sl 4 [] .full]⟩ := rfl
theorem TT_38 : TT.T 38 = ⟨Ty.strct [(0, 9), (1, 4), (2, 3), (3, 3), (4, 3), (5, 37)], 9, 104, some [.str [], .bool false, .int .i64 0, .int .i64 0, .int .i64 0, .int .i64 0, .int .i64 0, .str [], .sl 4 [] .full]⟩ := rfl
theorem TT_39 : TT.T 39 = ⟨Ty.strct [(0, 9), (1, 4), (2, 3), (3, 3), (4, 3), (5, 37)], 9, 104, some [.str [], .bool false, .int .i64 0, .int .i64 0, .int .i64 0, .int .i64 0, .int .i64 0, .str [], .sl 4 [] .full]⟩ := rfl
theorem TT_40 : TT.T 40 = ⟨Ty.func, 1, 8, none⟩ := rfl
theorem TT_41 : TT.T 41 = ⟨Ty.func, 1, 8, none⟩ := rfl
theorem TT_42 : TT.T 42 = ⟨Ty.func, 1, 8, none⟩ := rfl
theorem TT_43 : TT.T 43 = ⟨Ty.ptr, 1, 8, none⟩ := rfl
theorem TT_44 : TT.T 44 = ⟨Ty.func, 1, 8, none⟩ := rfl
theorem TT_45 : TT.T 45 = ⟨Ty.func, 1, 8, none⟩ := rfl
theorem TT_46 : TT.T 46 = ⟨Ty.func, 1, 8, none⟩ := rfl
theorem TT_47 : TT.T 47 = ⟨Ty.func, 1, 8, none⟩ := rfl
theorem TT_48 : TT.T 48 = ⟨Ty.func, 1, 8, none⟩ := rfl
theorem TT_49 : TT.T 49 = ⟨Ty.func, 1, 8, none⟩ := rfl
theorem TT_50 : TT.T 50 = ⟨Ty.func, 1, 8, none⟩ := rfl
theorem TT_51 : TT.T 51 = ⟨Ty.func, 1, 8, none⟩ := rfl
theorem TT_52 : TT.T 52 = ⟨Ty.func, 1, 8, none⟩ := rfl
theorem TT_53 : TT.T 53 = ⟨Ty.func, 1, 8, none⟩ := rfl
theorem TT_54 : TT.T 54 = ⟨Ty.func, 1, 8, none⟩ := rfl
theorem TT_55 : TT.T 55 = ⟨Ty.func, 1, 8, none⟩ := rfl
theorem TT_56 : TT.T 56 = ⟨Ty.func, 1, 8, none⟩ := rfl
theorem TT_57 : TT.T 57 = ⟨Ty.func, 1, 8, none⟩ := rfl
theorem TT_58 : TT.T 58 = ⟨Ty.slice 3, 1, 24, some [.sl 1 [] .full]⟩ := rfl
theorem TT_59 : TT.T 59 = ⟨Ty.strct [(0, 4), (1, 58), (2, 58)], 3, 56, some [.bool false, .sl 1 [] .full, .sl 1 [] .full]⟩ := rfl
theorem TT_60 : TT.T 60 = ⟨Ty.strct [(0, 4), (1, 58), (2, 58)], 3, 56, some [.bool false, .sl 1 [] .full, .sl 1 [] .full]⟩ := rfl
theorem TT_61 : TT.T 61 = ⟨Ty.func, 1, 8, none⟩ := rfl
theorem TT_62 : TT.T 62 = ⟨Ty.func, 1, 8, none⟩ := rfl
theorem TT_63 : TT.T 63 = ⟨Ty.strct [(0, 22), (1, 3)], 2, 32, some [.sl 1 [] .full, .int .i64 0]⟩ := rfl
theorem TT_64 : TT.T 64 = ⟨Ty.strct [(0, 22), (1, 3)], 2, 32, some [.sl 1 [] .full, .int .i64 0]⟩ := rfl
theorem TT_65 : TT.T 65 = ⟨Ty.func, 1, 8, none⟩ := rfl
theorem TT_66 : TT.T 66 = ⟨Ty.strct [(0, 58), (1, 24)], 2, 48, some [.sl 1 [] .full, .sl 3 [] .full]⟩ := rfl
theorem TT_67 : TT.T 67 = ⟨Ty.strct [(0, 58), (1, 24)], 2, 48, some [.sl 1 [] .full, .sl 3 [] .full]⟩ := rfl
theorem TT_68 : TT.T 68 = ⟨Ty.func, 1, 8, none⟩ := rfl
theorem TT_69 : TT.T 69 = ⟨Ty.strct [(0, 3), (1, 3)], 2, 16, some [.int .i64 0, .int .i64 0]⟩ := rfl
theorem TT_70 : TT.T 70 = ⟨Ty.strct [(0, 3), (1, 3)], 2, 16, some [.int .i64 0, .int .i64 0]⟩ := rfl
theorem TT_71 : TT.T 71 = ⟨Ty.strct [(0, 9), (1, 70)], 3, 32, some [.str [], .int .i64 0, .int .i64 0]⟩ := rfl
theorem TT_72 : TT.T 72 = ⟨Ty.strct [(0, 9), (1, 70)], 3, 32, some [.str [], .int .i64 0, .int .i64 0]⟩ := rfl
theorem TT_73 : TT.T 73 = ⟨Ty.func, 1, 8, none⟩ := rfl
theorem TT_74 : TT.T 74 = ⟨Ty.func, 1, 8, none⟩ := rfl
theorem TT_75 : TT.T 75 = ⟨Ty.func, 1, 8, none⟩ := rfl
theorem TT_76 : TT.T 76 = ⟨Ty.func, 1, 8, none⟩ := rfl
theorem TT_77 : TT.T 77 = ⟨Ty.func, 1, 8, none⟩ := rfl
theorem TT_78 : TT.T 78 = ⟨Ty.func, 1, 8, none⟩ := rfl
theorem TT_79 : TT.T 79 = ⟨Ty.map 9 4, 1, 8, none⟩ := rfl
theorem TT_80 : TT.T 80 = ⟨Ty.func, 1, 8, none⟩ := rfl
theorem TT_81 : TT.T 81 = ⟨Ty.func, 1, 8, none⟩ := rfl
theorem TT_82 : TT.T 82 = ⟨Ty.func, 1, 8, none⟩ := rfl
theorem TT_83 : TT.T 83 = ⟨Ty.func, 1, 8, none⟩ := rfl
theorem TT_84 : TT.T 84 = ⟨Ty.func, 1, 8, none⟩ := rfl
theorem TT_86 : TT.T 86 = ⟨Ty.func, 1, 8, none⟩ := rfl
theorem TT_87 : TT.T 87 = ⟨Ty.func, 1, 8, none⟩ := rfl
theorem TT_88 : TT.T 88 = ⟨Ty.func, 1, 8, none⟩ := rfl
theorem TT_89 : TT.T 89 = ⟨Ty.func, 1, 8, none⟩ := rfl
theorem TT_90 : TT.T 90 = ⟨Ty.func, 1, 8, none⟩ := rfl
theorem TT_91 : TT.T 91 = ⟨Ty.func, 1, 8, none⟩ := rfl
theorem TT_92 : TT.T 92 = ⟨Ty.slice 70, 1, 24, some [.sl 2 [] .full]⟩ := rfl
theorem TT_93 : TT.T 93 = ⟨Ty.func, 1, 8, none⟩ := rfl
theorem TT_94 : TT.T 94 = ⟨Ty.func, 1, 8, none⟩ := rfl
theorem TT_95 : TT.T 95 = ⟨Ty.func, 1, 8, none⟩ := rfl
theorem TT_96 : TT.T 96 = ⟨Ty.func, 1, 8, none⟩ := rfl
theorem TT_97 : TT.T 97 = ⟨Ty.strct [(0, 23), (1, 26)], 5, 72, some [.sl 2 [] .full, .int .i64 0, .int .i64 0, .int .i64 0, .sl 3 [] .full]⟩ := rfl
theorem TT_98 : TT.T 98 = ⟨Ty.strct [(0, 23), (1, 26)], 5, 72, some [.sl 2 [] .full, .int .i64 0, .int .i64 0, .int .i64 0, .sl 3 [] .full]⟩ := rfl
theorem TT_99 : TT.T 99 = ⟨Ty.func, 1, 8, none⟩ := rfl
theorem TT_100 : TT.T 100 = ⟨Ty.func, 1, 8, none⟩ := rfl
theorem TT_101 : TT.T 101 = ⟨Ty.func, 1, 8, none⟩ := rfl
theorem TT_103 : TT.T 103 = ⟨Ty.func, 1, 8, none⟩ := rfl
theorem TT_104 : TT.T 104 = ⟨Ty.func, 1, 8, none⟩ := rfl
theorem TT_105 : TT.T 105 = ⟨Ty.func, 1, 8, none⟩ := rfl
theorem TT_106 : TT.T 106 = ⟨Ty.int .u64, 1, 8, some [.int .u64 0]⟩ := rfl
theorem TT_108 : TT.T 108 = ⟨Ty.func, 1, 8, none⟩ := rfl
theorem TT_109 : TT.T 109 = ⟨Ty.func, 1, 8, none⟩ := rfl
theorem TT_110 : TT.T 110 = ⟨Ty.func, 1, 8, none⟩ := rfl
theorem TT_112 : TT.T 112 = ⟨Ty.func, 1, 8, none⟩ := rfl
theorem TT_113 : TT.T 113 = ⟨Ty.func, 1, 8, none⟩ := rfl
theorem TT_114 : TT.T 114 = ⟨Ty.func, 1, 8, none⟩ := rfl
theorem TT_115 : TT.T 115 = ⟨Ty.func, 1, 8, none⟩ := rfl
theorem TT_116 : TT.T 116 = ⟨Ty.int .i64, 1, 8, some [.int .i64 0]⟩ := rfl
theorem TT_118 : TT.T 118 = ⟨Ty.func, 1, 8, none⟩ := rfl
theorem TT_119 : TT.T 119 = ⟨Ty.func, 1, 8, none⟩ := rfl
theorem TT_120 : TT.T 120 = ⟨Ty.func, 1, 8, none⟩ := rfl
theorem TT_121 : TT.T 121 = ⟨Ty.func, 1, 8, none⟩ := rfl
theorem TT_122 : TT.T 122 = ⟨Ty.func, 1, 8, none⟩ := rfl
theorem TT_123 : TT.T 123 = ⟨Ty.func, 1, 8, none⟩ := rfl
theorem TT_124 : TT.T 124 = ⟨Ty.int .u32, 1, 4, some [.int .u32 0]⟩ := rfl
theorem TT_125 : TT.T 125 = ⟨Ty.func, 1, 8, none⟩ := rfl
theorem TT_126 : TT.T 126 = ⟨Ty.int .u64, 1, 8, some [.int .u64 0]⟩ := rfl
theorem TT_127 : TT.T 127 = ⟨Ty.func, 1, 8, none⟩ := rfl
theorem TT_128 : TT.T 128 = ⟨Ty.func, 1, 8, none⟩ := rfl
theorem TT_129 : TT.T 129 = ⟨Ty.int .u64, 1, 8, some [.int .u64 0]⟩ := rfl
theorem TT_130 : TT.T 130 = ⟨Ty.func, 1, 8, none⟩ := rfl
theorem TT_131 : TT.T 131 = ⟨Ty.func, 1, 8, none⟩ := rfl
theorem TT_132 : TT.T 132 = ⟨Ty.func, 1, 8, none⟩ := rfl
theorem TT_133 : TT.T 133 = ⟨Ty.ptr, 1, 8, none⟩ := rfl
theorem TT_134 : TT.T 134 = ⟨Ty.func, 1, 8, none⟩ := rfl
theorem TT_135 : TT.T 135 = ⟨Ty.func, 1, 8, none⟩ := rfl
theorem TT_136 : TT.T 136 = ⟨Ty.ptr, 1, 8, none⟩ := rfl
theorem TT_138 : TT.T 138 = ⟨Ty.func, 1, 8, none⟩ := rfl
theorem TT_139 : TT.T 139 = ⟨Ty.func, 1, 8, none⟩ := rfl
theorem TT_140 : TT.T 140 = ⟨Ty.strct [(0, 17), (1, 17), (2, 17), (3, 9)], 4, 40, none⟩ := rfl
theorem TT_141 : TT.T 141 = ⟨Ty.strct [(0, 17), (1, 17), (2, 17), (3, 9)], 4, 40, none⟩ := rfl
theorem TT_143 : TT.T 143 = ⟨Ty.strct [(0, 142)], 0, 0, none⟩ := rfl
theorem TT_144 : TT.T 144 = ⟨Ty.strct [(0, 142)], 0, 0, none⟩ := rfl
theorem TT_145 : TT.T 145 = ⟨Ty.func, 1, 8, none⟩ := rfl
theorem TT_146 : TT.T 146 = ⟨Ty.int .u8, 1, 1, some [.int .u8 0]⟩ := rfl
theorem TT_147 : TT.T 147 = ⟨Ty.int .u8, 1, 1, some [.int .u8 0]⟩ := rfl
theorem TT_148 : TT.T 148 = ⟨Ty.func, 1, 8, none⟩ := rfl
theorem TT_149 : TT.T 149 = ⟨Ty.ptr, 1, 8, none⟩ := rfl
theorem TT_150 : TT.T 150 = ⟨Ty.int .i32, 1, 4, some [.int .i32 0]⟩ := rfl
theorem TT_151 : TT.T 151 = ⟨Ty.int .i32, 1, 4, some [.int .i32 0]⟩ := rfl
theorem TT_152 : TT.T 152 = ⟨Ty.strct [(0, 12), (1, 12), (2, 124), (3, 146), (4, 5), (5, 5), (6, 147), (7, 148), (8, 149), (9, 150), (10, 151)], 11, 48, none⟩ := rfl
theorem TT_153 : TT.T 153 = ⟨Ty.strct [(0, 12), (1, 12), (2, 124), (3, 146), (4, 5), (5, 5), (6, 147), (7, 148), (8, 149), (9, 150), (10, 151)], 11, 48, none⟩ := rfl
theorem TT_154 : TT.T 154 = ⟨Ty.func, 1, 8, none⟩ := rfl
attribute [go_sem] TT_1 TT_2 TT_3 TT_4 TT_5 TT_6 TT_7 TT_8 TT_9 TT_10 TT_11 TT_12 TT_13 TT_14 TT_15 TT_16 TT_17 TT_18 TT_19 TT_20 TT_21 TT_22 TT_23 TT_24 TT_25 TT_26 TT_27 TT_28 TT_30 TT_31 TT_32 TT_33 TT_34 TT_35 TT_36 TT_37 TT_38 TT_39 TT_40 TT_41 TT_42 TT_43 TT_44 TT_45 TT_46 TT_47 TT_48 TT_49 TT_50 TT_51 TT_52 TT_53 TT_54 TT_55 TT_56 TT_57 TT_58 TT_59 TT_60 TT_61 TT_62 TT_63 TT_64 TT_65 TT_66 TT_67 TT_68 TT_69 TT_70 TT_71 TT_72 TT_73 TT_74 TT_75 TT_76 TT_77 TT_78 TT_79 TT_80 TT_81 TT_82 TT_83 TT_84 TT_86 TT_87 TT_88 TT_89 TT_90 TT_91 TT_92 TT_93 TT_94 TT_95 TT_96 TT_97 TT_98 TT_99 TT_100 TT_101 TT_103 TT_104 TT_105 TT_106 TT_108 TT_109 TT_110 TT_112 TT_113 TT_114 TT_115 TT_116 TT_118 TT_119 TT_120 TT_121 TT_122 TT_123 TT_124 TT_125 TT_126 TT_127 TT_128 TT_129 TT_130 TT_131 TT_132 TT_133 TT_134 TT_135 TT_136 TT_138 TT_139 TT_140 TT_141 TT_143 TT_144 TT_145 TT_146 TT_147 TT_148 TT_149 TT_150 TT_151 TT_152 TT_153 TT_154
theorem MX : Tryz.prog.follows .mixedOrders = true := by kernel_rfl
instance : Inhabited Glob := ⟨{ ok := fun _ _ => True, lend := True, loc := fun _ _ _ _ h => h }⟩
end Go.Proofs.YtfgalmgldidcmaaGreat
