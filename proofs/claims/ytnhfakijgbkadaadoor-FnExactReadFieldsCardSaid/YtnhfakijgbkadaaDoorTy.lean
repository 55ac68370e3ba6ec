/- The types of the translation, as the abstract logic has them: for each its form, its cells, its bytes and its zero value. Printed by a program from the translation; each row is proved from the loaded program's own facts. -/
import Derived.Test.YtnhfakijgbkadaaDoorProg
import Derived.Test.YtnhfakijgbkadaaDoorCoreD
namespace Go.Proofs.YtnhfakijgbkadaaDoor
open Go Go.AL
set_option maxRecDepth 100000

set_option maxRecDepth 100000 in
def tyT : Nat → TyI
  | 1 => ⟨Ty.func, 1, 8, none⟩
  | 2 => ⟨Ty.int .i64, 1, 8, some [.int .i64 0]⟩
  | 3 => ⟨Ty.int .i64, 1, 8, some [.int .i64 0]⟩
  | 4 => ⟨Ty.bool, 1, 1, some [.bool false]⟩
  | 5 => ⟨Ty.int .u8, 1, 1, some [.int .u8 0]⟩
  | 6 => ⟨Ty.int .u8, 1, 1, some [.int .u8 0]⟩
  | 7 => ⟨Ty.strct [(0, 2), (1, 3), (2, 4), (3, 6)], 4, 24, some [.int .i64 0, .int .i64 0, .bool false, .int .u8 0]⟩
  | 8 => ⟨Ty.strct [(0, 2), (1, 3), (2, 4), (3, 6)], 4, 24, some [.int .i64 0, .int .i64 0, .bool false, .int .u8 0]⟩
  | 9 => ⟨Ty.str, 1, 16, some [.str []]⟩
  | 10 => ⟨Ty.str, 1, 16, some [.str []]⟩
  | 11 => ⟨Ty.str, 1, 16, some [.str []]⟩
  | 12 => ⟨Ty.int .u64, 1, 8, some [.int .u64 0]⟩
  | 13 => ⟨Ty.strct [(0, 9), (1, 12)], 2, 24, some [.str [], .int .u64 0]⟩
  | 14 => ⟨Ty.strct [(0, 9), (1, 12)], 2, 24, some [.str [], .int .u64 0]⟩
  | 15 => ⟨Ty.ptr, 1, 8, none⟩
  | 16 => ⟨Ty.ptr, 1, 8, none⟩
  | 17 => ⟨Ty.ptr, 1, 8, none⟩
  | 18 => ⟨Ty.strct [(0, 17)], 1, 8, none⟩
  | 19 => ⟨Ty.strct [(0, 17)], 1, 8, none⟩
  | 20 => ⟨Ty.iface, 1, 16, none⟩
  | 21 => ⟨Ty.int .i32, 1, 4, some [.int .i32 0]⟩
  | 22 => ⟨Ty.slice 49, 1, 24, some [.sl 3 [] .full]⟩
  | 23 => ⟨Ty.func, 1, 8, none⟩
  | 24 => ⟨Ty.func, 1, 8, none⟩
  | 25 => ⟨Ty.slice 53, 1, 24, some [.sl 3 [] .full]⟩
  | 26 => ⟨Ty.func, 1, 8, none⟩
  | 27 => ⟨Ty.func, 1, 8, none⟩
  | 28 => ⟨Ty.func, 1, 8, none⟩
  | 29 => ⟨Ty.slice 5, 1, 24, some [.sl 1 [] .full]⟩
  | 30 => ⟨Ty.func, 1, 8, none⟩
  | 31 => ⟨Ty.func, 1, 8, none⟩
  | 33 => ⟨Ty.func, 1, 8, none⟩
  | 34 => ⟨Ty.func, 1, 8, none⟩
  | 35 => ⟨Ty.func, 1, 8, none⟩
  | 36 => ⟨Ty.func, 1, 8, none⟩
  | 37 => ⟨Ty.func, 1, 8, none⟩
  | 38 => ⟨Ty.slice 75, 1, 24, some [.sl 2 [] .full]⟩
  | 39 => ⟨Ty.func, 1, 8, none⟩
  | 40 => ⟨Ty.func, 1, 8, none⟩
  | 41 => ⟨Ty.slice 79, 1, 24, some [.sl 2 [] .full]⟩
  | 42 => ⟨Ty.func, 1, 8, none⟩
  | 43 => ⟨Ty.func, 1, 8, none⟩
  | 44 => ⟨Ty.func, 1, 8, none⟩
  | 45 => ⟨Ty.func, 1, 8, none⟩
  | 46 => ⟨Ty.strct [(0, 3), (1, 3)], 2, 16, some [.int .i64 0, .int .i64 0]⟩
  | 47 => ⟨Ty.strct [(0, 3), (1, 3)], 2, 16, some [.int .i64 0, .int .i64 0]⟩
  | 48 => ⟨Ty.strct [(0, 9), (1, 47)], 3, 32, some [.str [], .int .i64 0, .int .i64 0]⟩
  | 49 => ⟨Ty.strct [(0, 9), (1, 47)], 3, 32, some [.str [], .int .i64 0, .int .i64 0]⟩
  | 50 => ⟨Ty.func, 1, 8, none⟩
  | 51 => ⟨Ty.strct [(0, 3), (1, 3)], 2, 16, some [.int .i64 0, .int .i64 0]⟩
  | 52 => ⟨Ty.strct [(0, 9), (1, 51)], 3, 32, some [.str [], .int .i64 0, .int .i64 0]⟩
  | 53 => ⟨Ty.strct [(0, 9), (1, 51)], 3, 32, some [.str [], .int .i64 0, .int .i64 0]⟩
  | 54 => ⟨Ty.func, 1, 8, none⟩
  | 55 => ⟨Ty.slice 9, 1, 24, some [.sl 1 [] .full]⟩
  | 56 => ⟨Ty.func, 1, 8, none⟩
  | 57 => ⟨Ty.func, 1, 8, none⟩
  | 58 => ⟨Ty.func, 1, 8, none⟩
  | 59 => ⟨Ty.ptr, 1, 8, none⟩
  | 60 => ⟨Ty.func, 1, 8, none⟩
  | 61 => ⟨Ty.func, 1, 8, none⟩
  | 62 => ⟨Ty.func, 1, 8, none⟩
  | 63 => ⟨Ty.func, 1, 8, none⟩
  | 64 => ⟨Ty.func, 1, 8, none⟩
  | 65 => ⟨Ty.func, 1, 8, none⟩
  | 67 => ⟨Ty.func, 1, 8, none⟩
  | 68 => ⟨Ty.func, 1, 8, none⟩
  | 69 => ⟨Ty.func, 1, 8, none⟩
  | 70 => ⟨Ty.func, 1, 8, none⟩
  | 71 => ⟨Ty.func, 1, 8, none⟩
  | 72 => ⟨Ty.func, 1, 8, none⟩
  | 73 => ⟨Ty.slice 3, 1, 24, some [.sl 1 [] .full]⟩
  | 74 => ⟨Ty.strct [(0, 73), (1, 22)], 2, 48, some [.sl 1 [] .full, .sl 3 [] .full]⟩
  | 75 => ⟨Ty.strct [(0, 73), (1, 22)], 2, 48, some [.sl 1 [] .full, .sl 3 [] .full]⟩
  | 76 => ⟨Ty.func, 1, 8, none⟩
  | 77 => ⟨Ty.func, 1, 8, none⟩
  | 78 => ⟨Ty.strct [(0, 73), (1, 25)], 2, 48, some [.sl 1 [] .full, .sl 3 [] .full]⟩
  | 79 => ⟨Ty.strct [(0, 73), (1, 25)], 2, 48, some [.sl 1 [] .full, .sl 3 [] .full]⟩
  | 80 => ⟨Ty.func, 1, 8, none⟩
  | 81 => ⟨Ty.func, 1, 8, none⟩
  | 82 => ⟨Ty.func, 1, 8, none⟩
  | 83 => ⟨Ty.func, 1, 8, none⟩
  | 84 => ⟨Ty.func, 1, 8, none⟩
  | 85 => ⟨Ty.func, 1, 8, none⟩
  | 86 => ⟨Ty.func, 1, 8, none⟩
  | 87 => ⟨Ty.map 9 4, 1, 8, none⟩
  | 88 => ⟨Ty.ptr, 1, 8, none⟩
  | 89 => ⟨Ty.strct [(0, 88), (1, 29)], 2, 32, none⟩
  | 90 => ⟨Ty.strct [(0, 88), (1, 29)], 2, 32, none⟩
  | 91 => ⟨Ty.func, 1, 8, none⟩
  | 92 => ⟨Ty.iface, 1, 16, none⟩
  | 93 => ⟨Ty.iface, 1, 16, none⟩
  | 95 => ⟨Ty.func, 1, 8, none⟩
  | 96 => ⟨Ty.func, 1, 8, none⟩
  | 97 => ⟨Ty.func, 1, 8, none⟩
  | 98 => ⟨Ty.strct [(0, 29), (1, 3)], 2, 32, some [.sl 1 [] .full, .int .i64 0]⟩
  | 99 => ⟨Ty.strct [(0, 29), (1, 3)], 2, 32, some [.sl 1 [] .full, .int .i64 0]⟩
  | 100 => ⟨Ty.func, 1, 8, none⟩
  | 101 => ⟨Ty.slice 51, 1, 24, some [.sl 2 [] .full]⟩
  | 102 => ⟨Ty.func, 1, 8, none⟩
  | 104 => ⟨Ty.func, 1, 8, none⟩
  | 106 => ⟨Ty.func, 1, 8, none⟩
  | 107 => ⟨Ty.func, 1, 8, none⟩
  | 108 => ⟨Ty.func, 1, 8, none⟩
  | 109 => ⟨Ty.func, 1, 8, none⟩
  | 110 => ⟨Ty.func, 1, 8, none⟩
  | 111 => ⟨Ty.func, 1, 8, none⟩
  | 112 => ⟨Ty.ptr, 1, 8, none⟩
  | 113 => ⟨Ty.func, 1, 8, none⟩
  | 114 => ⟨Ty.func, 1, 8, none⟩
  | 115 => ⟨Ty.func, 1, 8, none⟩
  | 116 => ⟨Ty.func, 1, 8, none⟩
  | 118 => ⟨Ty.func, 1, 8, none⟩
  | 119 => ⟨Ty.func, 1, 8, none⟩
  | 121 => ⟨Ty.func, 1, 8, none⟩
  | 122 => ⟨Ty.func, 1, 8, none⟩
  | 123 => ⟨Ty.func, 1, 8, none⟩
  | 124 => ⟨Ty.int .u64, 1, 8, some [.int .u64 0]⟩
  | 126 => ⟨Ty.int .u64, 1, 8, some [.int .u64 0]⟩
  | 127 => ⟨Ty.func, 1, 8, none⟩
  | 128 => ⟨Ty.func, 1, 8, none⟩
  | 130 => ⟨Ty.func, 1, 8, none⟩
  | 132 => ⟨Ty.strct [(0, 5), (1, 5)], 2, 2, some [.int .u8 0, .int .u8 0]⟩
  | 133 => ⟨Ty.strct [(0, 5), (1, 5)], 2, 2, some [.int .u8 0, .int .u8 0]⟩
  | 135 => ⟨Ty.int .u32, 1, 4, some [.int .u32 0]⟩
  | 137 => ⟨Ty.func, 1, 8, none⟩
  | 138 => ⟨Ty.func, 1, 8, none⟩
  | 141 => ⟨Ty.func, 1, 8, none⟩
  | 142 => ⟨Ty.func, 1, 8, none⟩
  | 145 => ⟨Ty.strct [(0, 17), (1, 17), (2, 17), (3, 9)], 4, 40, none⟩
  | 146 => ⟨Ty.strct [(0, 17), (1, 17), (2, 17), (3, 9)], 4, 40, none⟩
  | 148 => ⟨Ty.strct [(0, 147)], 0, 0, none⟩
  | 149 => ⟨Ty.strct [(0, 147)], 0, 0, none⟩
  | 150 => ⟨Ty.func, 1, 8, none⟩
  | 151 => ⟨Ty.int .u8, 1, 1, some [.int .u8 0]⟩
  | 152 => ⟨Ty.int .u8, 1, 1, some [.int .u8 0]⟩
  | 153 => ⟨Ty.func, 1, 8, none⟩
  | 154 => ⟨Ty.int .i32, 1, 4, some [.int .i32 0]⟩
  | 155 => ⟨Ty.int .i32, 1, 4, some [.int .i32 0]⟩
  | 156 => ⟨Ty.strct [(0, 12), (1, 12), (2, 135), (3, 151), (4, 5), (5, 5), (6, 152), (7, 153), (8, 112), (9, 154), (10, 155)], 11, 48, none⟩
  | 157 => ⟨Ty.strct [(0, 12), (1, 12), (2, 135), (3, 151), (4, 5), (5, 5), (6, 152), (7, 153), (8, 112), (9, 154), (10, 155)], 11, 48, none⟩
  | _ => ⟨.other, 0, 0, none⟩

theorem tyOK1 : TyOK Tryd.prog 1 (tyT 1) := ⟨⟨_, _, _, Tryd.underlying1⟩, ⟨Tryd.t1, Tryd.type1, rfl, rfl, trivial⟩⟩
theorem tyOK2 : TyOK Tryd.prog 2 (tyT 2) := ⟨Tryd.underlying2, ⟨Tryd.t2, Tryd.type2, rfl, rfl, ⟨rfl, rfl, rfl, fun h => by first | rfl | cases h⟩⟩⟩
theorem tyOK3 : TyOK Tryd.prog 3 (tyT 3) := ⟨Tryd.underlying3, ⟨Tryd.t3, Tryd.type3, rfl, rfl, ⟨rfl, rfl, rfl, fun h => by first | rfl | cases h⟩⟩⟩
theorem tyOK4 : TyOK Tryd.prog 4 (tyT 4) := ⟨Tryd.underlying4, ⟨Tryd.t4, Tryd.type4, rfl, rfl, ⟨rfl, rfl, rfl, fun h => by first | rfl | cases h⟩⟩⟩
theorem tyOK5 : TyOK Tryd.prog 5 (tyT 5) := ⟨Tryd.underlying5, ⟨Tryd.t5, Tryd.type5, rfl, rfl, ⟨rfl, rfl, rfl, fun h => by first | rfl | cases h⟩⟩⟩
theorem tyOK6 : TyOK Tryd.prog 6 (tyT 6) := ⟨Tryd.underlying6, ⟨Tryd.t6, Tryd.type6, rfl, rfl, ⟨rfl, rfl, rfl, fun h => by first | rfl | cases h⟩⟩⟩
theorem tyOK7 : TyOK Tryd.prog 7 (tyT 7) := ⟨⟨_, Tryd.underlying7, rfl⟩, ⟨Tryd.t7, Tryd.type7, rfl, rfl, ⟨rfl, rfl, rfl, fun h => by first | rfl | cases h⟩⟩⟩
theorem tyOK8 : TyOK Tryd.prog 8 (tyT 8) := ⟨⟨_, Tryd.underlying8, rfl⟩, ⟨Tryd.t8, Tryd.type8, rfl, rfl, ⟨rfl, rfl, rfl, fun h => by first | rfl | cases h⟩⟩⟩
theorem tyOK9 : TyOK Tryd.prog 9 (tyT 9) := ⟨Tryd.underlying9, ⟨Tryd.t9, Tryd.type9, rfl, rfl, ⟨rfl, rfl, rfl, fun h => by first | rfl | cases h⟩⟩⟩
theorem tyOK10 : TyOK Tryd.prog 10 (tyT 10) := ⟨Tryd.underlying10, ⟨Tryd.t10, Tryd.type10, rfl, rfl, ⟨rfl, rfl, rfl, fun h => by first | rfl | cases h⟩⟩⟩
theorem tyOK11 : TyOK Tryd.prog 11 (tyT 11) := ⟨Tryd.underlying11, ⟨Tryd.t11, Tryd.type11, rfl, rfl, ⟨rfl, rfl, rfl, fun h => by first | rfl | cases h⟩⟩⟩
theorem tyOK12 : TyOK Tryd.prog 12 (tyT 12) := ⟨Tryd.underlying12, ⟨Tryd.t12, Tryd.type12, rfl, rfl, ⟨rfl, rfl, rfl, fun h => by first | rfl | cases h⟩⟩⟩
theorem tyOK13 : TyOK Tryd.prog 13 (tyT 13) := ⟨⟨_, Tryd.underlying13, rfl⟩, ⟨Tryd.t13, Tryd.type13, rfl, rfl, ⟨rfl, rfl, rfl, fun h => by first | rfl | cases h⟩⟩⟩
theorem tyOK14 : TyOK Tryd.prog 14 (tyT 14) := ⟨⟨_, Tryd.underlying14, rfl⟩, ⟨Tryd.t14, Tryd.type14, rfl, rfl, ⟨rfl, rfl, rfl, fun h => by first | rfl | cases h⟩⟩⟩
theorem tyOK15 : TyOK Tryd.prog 15 (tyT 15) := ⟨⟨_, Tryd.underlying15⟩, ⟨Tryd.t15, Tryd.type15, rfl, rfl, trivial⟩⟩
theorem tyOK16 : TyOK Tryd.prog 16 (tyT 16) := ⟨⟨_, Tryd.underlying16⟩, ⟨Tryd.t16, Tryd.type16, rfl, rfl, trivial⟩⟩
theorem tyOK17 : TyOK Tryd.prog 17 (tyT 17) := ⟨⟨_, Tryd.underlying17⟩, ⟨Tryd.t17, Tryd.type17, rfl, rfl, trivial⟩⟩
theorem tyOK18 : TyOK Tryd.prog 18 (tyT 18) := ⟨⟨_, Tryd.underlying18, rfl⟩, ⟨Tryd.t18, Tryd.type18, rfl, rfl, trivial⟩⟩
theorem tyOK19 : TyOK Tryd.prog 19 (tyT 19) := ⟨⟨_, Tryd.underlying19, rfl⟩, ⟨Tryd.t19, Tryd.type19, rfl, rfl, trivial⟩⟩
theorem tyOK20 : TyOK Tryd.prog 20 (tyT 20) := ⟨⟨_, Tryd.underlying20⟩, ⟨Tryd.t20, Tryd.type20, rfl, rfl, trivial⟩⟩
theorem tyOK21 : TyOK Tryd.prog 21 (tyT 21) := ⟨Tryd.underlying21, ⟨Tryd.t21, Tryd.type21, rfl, rfl, ⟨rfl, rfl, rfl, fun h => by first | rfl | cases h⟩⟩⟩
theorem tyOK22 : TyOK Tryd.prog 22 (tyT 22) := ⟨Tryd.underlying22, ⟨Tryd.t22, Tryd.type22, rfl, rfl, ⟨rfl, rfl, rfl, fun h => by first | rfl | cases h⟩⟩⟩
theorem tyOK23 : TyOK Tryd.prog 23 (tyT 23) := ⟨⟨_, _, _, Tryd.underlying23⟩, ⟨Tryd.t23, Tryd.type23, rfl, rfl, trivial⟩⟩
theorem tyOK24 : TyOK Tryd.prog 24 (tyT 24) := ⟨⟨_, _, _, Tryd.underlying24⟩, ⟨Tryd.t24, Tryd.type24, rfl, rfl, trivial⟩⟩
theorem tyOK25 : TyOK Tryd.prog 25 (tyT 25) := ⟨Tryd.underlying25, ⟨Tryd.t25, Tryd.type25, rfl, rfl, ⟨rfl, rfl, rfl, fun h => by first | rfl | cases h⟩⟩⟩
theorem tyOK26 : TyOK Tryd.prog 26 (tyT 26) := ⟨⟨_, _, _, Tryd.underlying26⟩, ⟨Tryd.t26, Tryd.type26, rfl, rfl, trivial⟩⟩
theorem tyOK27 : TyOK Tryd.prog 27 (tyT 27) := ⟨⟨_, _, _, Tryd.underlying27⟩, ⟨Tryd.t27, Tryd.type27, rfl, rfl, trivial⟩⟩
theorem tyOK28 : TyOK Tryd.prog 28 (tyT 28) := ⟨⟨_, _, _, Tryd.underlying28⟩, ⟨Tryd.t28, Tryd.type28, rfl, rfl, trivial⟩⟩
theorem tyOK29 : TyOK Tryd.prog 29 (tyT 29) := ⟨Tryd.underlying29, ⟨Tryd.t29, Tryd.type29, rfl, rfl, ⟨rfl, rfl, rfl, fun h => by first | rfl | cases h⟩⟩⟩
theorem tyOK30 : TyOK Tryd.prog 30 (tyT 30) := ⟨⟨_, _, _, Tryd.underlying30⟩, ⟨Tryd.t30, Tryd.type30, rfl, rfl, trivial⟩⟩
theorem tyOK31 : TyOK Tryd.prog 31 (tyT 31) := ⟨⟨_, _, _, Tryd.underlying31⟩, ⟨Tryd.t31, Tryd.type31, rfl, rfl, trivial⟩⟩
theorem tyOK33 : TyOK Tryd.prog 33 (tyT 33) := ⟨⟨_, _, _, Tryd.underlying33⟩, ⟨Tryd.t33, Tryd.type33, rfl, rfl, trivial⟩⟩
theorem tyOK34 : TyOK Tryd.prog 34 (tyT 34) := ⟨⟨_, _, _, Tryd.underlying34⟩, ⟨Tryd.t34, Tryd.type34, rfl, rfl, trivial⟩⟩
theorem tyOK35 : TyOK Tryd.prog 35 (tyT 35) := ⟨⟨_, _, _, Tryd.underlying35⟩, ⟨Tryd.t35, Tryd.type35, rfl, rfl, trivial⟩⟩
theorem tyOK36 : TyOK Tryd.prog 36 (tyT 36) := ⟨⟨_, _, _, Tryd.underlying36⟩, ⟨Tryd.t36, Tryd.type36, rfl, rfl, trivial⟩⟩
theorem tyOK37 : TyOK Tryd.prog 37 (tyT 37) := ⟨⟨_, _, _, Tryd.underlying37⟩, ⟨Tryd.t37, Tryd.type37, rfl, rfl, trivial⟩⟩
theorem tyOK38 : TyOK Tryd.prog 38 (tyT 38) := ⟨Tryd.underlying38, ⟨Tryd.t38, Tryd.type38, rfl, rfl, ⟨rfl, rfl, rfl, fun h => by first | rfl | cases h⟩⟩⟩
theorem tyOK39 : TyOK Tryd.prog 39 (tyT 39) := ⟨⟨_, _, _, Tryd.underlying39⟩, ⟨Tryd.t39, Tryd.type39, rfl, rfl, trivial⟩⟩
theorem tyOK40 : TyOK Tryd.prog 40 (tyT 40) := ⟨⟨_, _, _, Tryd.underlying40⟩, ⟨Tryd.t40, Tryd.type40, rfl, rfl, trivial⟩⟩
theorem tyOK41 : TyOK Tryd.prog 41 (tyT 41) := ⟨Tryd.underlying41, ⟨Tryd.t41, Tryd.type41, rfl, rfl, ⟨rfl, rfl, rfl, fun h => by first | rfl | cases h⟩⟩⟩
theorem tyOK42 : TyOK Tryd.prog 42 (tyT 42) := ⟨⟨_, _, _, Tryd.underlying42⟩, ⟨Tryd.t42, Tryd.type42, rfl, rfl, trivial⟩⟩
theorem tyOK43 : TyOK Tryd.prog 43 (tyT 43) := ⟨⟨_, _, _, Tryd.underlying43⟩, ⟨Tryd.t43, Tryd.type43, rfl, rfl, trivial⟩⟩
theorem tyOK44 : TyOK Tryd.prog 44 (tyT 44) := ⟨⟨_, _, _, Tryd.underlying44⟩, ⟨Tryd.t44, Tryd.type44, rfl, rfl, trivial⟩⟩
theorem tyOK45 : TyOK Tryd.prog 45 (tyT 45) := ⟨⟨_, _, _, Tryd.underlying45⟩, ⟨Tryd.t45, Tryd.type45, rfl, rfl, trivial⟩⟩
theorem tyOK46 : TyOK Tryd.prog 46 (tyT 46) := ⟨⟨_, Tryd.underlying46, rfl⟩, ⟨Tryd.t46, Tryd.type46, rfl, rfl, ⟨rfl, rfl, rfl, fun h => by first | rfl | cases h⟩⟩⟩
theorem tyOK47 : TyOK Tryd.prog 47 (tyT 47) := ⟨⟨_, Tryd.underlying47, rfl⟩, ⟨Tryd.t47, Tryd.type47, rfl, rfl, ⟨rfl, rfl, rfl, fun h => by first | rfl | cases h⟩⟩⟩
theorem tyOK48 : TyOK Tryd.prog 48 (tyT 48) := ⟨⟨_, Tryd.underlying48, rfl⟩, ⟨Tryd.t48, Tryd.type48, rfl, rfl, ⟨rfl, rfl, rfl, fun h => by first | rfl | cases h⟩⟩⟩
theorem tyOK49 : TyOK Tryd.prog 49 (tyT 49) := ⟨⟨_, Tryd.underlying49, rfl⟩, ⟨Tryd.t49, Tryd.type49, rfl, rfl, ⟨rfl, rfl, rfl, fun h => by first | rfl | cases h⟩⟩⟩
theorem tyOK50 : TyOK Tryd.prog 50 (tyT 50) := ⟨⟨_, _, _, Tryd.underlying50⟩, ⟨Tryd.t50, Tryd.type50, rfl, rfl, trivial⟩⟩
theorem tyOK51 : TyOK Tryd.prog 51 (tyT 51) := ⟨⟨_, Tryd.underlying51, rfl⟩, ⟨Tryd.t51, Tryd.type51, rfl, rfl, ⟨rfl, rfl, rfl, fun h => by first | rfl | cases h⟩⟩⟩
theorem tyOK52 : TyOK Tryd.prog 52 (tyT 52) := ⟨⟨_, Tryd.underlying52, rfl⟩, ⟨Tryd.t52, Tryd.type52, rfl, rfl, ⟨rfl, rfl, rfl, fun h => by first | rfl | cases h⟩⟩⟩
theorem tyOK53 : TyOK Tryd.prog 53 (tyT 53) := ⟨⟨_, Tryd.underlying53, rfl⟩, ⟨Tryd.t53, Tryd.type53, rfl, rfl, ⟨rfl, rfl, rfl, fun h => by first | rfl | cases h⟩⟩⟩
theorem tyOK54 : TyOK Tryd.prog 54 (tyT 54) := ⟨⟨_, _, _, Tryd.underlying54⟩, ⟨Tryd.t54, Tryd.type54, rfl, rfl, trivial⟩⟩
theorem tyOK55 : TyOK Tryd.prog 55 (tyT 55) := ⟨Tryd.underlying55, ⟨Tryd.t55, Tryd.type55, rfl, rfl, ⟨rfl, rfl, rfl, fun h => by first | rfl | cases h⟩⟩⟩
theorem tyOK56 : TyOK Tryd.prog 56 (tyT 56) := ⟨⟨_, _, _, Tryd.underlying56⟩, ⟨Tryd.t56, Tryd.type56, rfl, rfl, trivial⟩⟩
theorem tyOK57 : TyOK Tryd.prog 57 (tyT 57) := ⟨⟨_, _, _, Tryd.underlying57⟩, ⟨Tryd.t57, Tryd.type57, rfl, rfl, trivial⟩⟩
theorem tyOK58 : TyOK Tryd.prog 58 (tyT 58) := ⟨⟨_, _, _, Tryd.underlying58⟩, ⟨Tryd.t58, Tryd.type58, rfl, rfl, trivial⟩⟩
theorem tyOK59 : TyOK Tryd.prog 59 (tyT 59) := ⟨⟨_, Tryd.underlying59⟩, ⟨Tryd.t59, Tryd.type59, rfl, rfl, trivial⟩⟩
theorem tyOK60 : TyOK Tryd.prog 60 (tyT 60) := ⟨⟨_, _, _, Tryd.underlying60⟩, ⟨Tryd.t60, Tryd.type60, rfl, rfl, trivial⟩⟩
theorem tyOK61 : TyOK Tryd.prog 61 (tyT 61) := ⟨⟨_, _, _, Tryd.underlying61⟩, ⟨Tryd.t61, Tryd.type61, rfl, rfl, trivial⟩⟩
theorem tyOK62 : TyOK Tryd.prog 62 (tyT 62) := ⟨⟨_, _, _, Tryd.underlying62⟩, ⟨Tryd.t62, Tryd.type62, rfl, rfl, trivial⟩⟩
theorem tyOK63 : TyOK Tryd.prog 63 (tyT 63) := ⟨⟨_, _, _, Tryd.underlying63⟩, ⟨Tryd.t63, Tryd.type63, rfl, rfl, trivial⟩⟩
theorem tyOK64 : TyOK Tryd.prog 64 (tyT 64) := ⟨⟨_, _, _, Tryd.underlying64⟩, ⟨Tryd.t64, Tryd.type64, rfl, rfl, trivial⟩⟩
theorem tyOK65 : TyOK Tryd.prog 65 (tyT 65) := ⟨⟨_, _, _, Tryd.underlying65⟩, ⟨Tryd.t65, Tryd.type65, rfl, rfl, trivial⟩⟩
theorem tyOK67 : TyOK Tryd.prog 67 (tyT 67) := ⟨⟨_, _, _, Tryd.underlying67⟩, ⟨Tryd.t67, Tryd.type67, rfl, rfl, trivial⟩⟩
theorem tyOK68 : TyOK Tryd.prog 68 (tyT 68) := ⟨⟨_, _, _, Tryd.underlying68⟩, ⟨Tryd.t68, Tryd.type68, rfl, rfl, trivial⟩⟩
theorem tyOK69 : TyOK Tryd.prog 69 (tyT 69) := ⟨⟨_, _, _, Tryd.underlying69⟩, ⟨Tryd.t69, Tryd.type69, rfl, rfl, trivial⟩⟩
theorem tyOK70 : TyOK Tryd.prog 70 (tyT 70) := ⟨⟨_, _, _, Tryd.underlying70⟩, ⟨Tryd.t70, Tryd.type70, rfl, rfl, trivial⟩⟩
theorem tyOK71 : TyOK Tryd.prog 71 (tyT 71) := ⟨⟨_, _, _, Tryd.underlying71⟩, ⟨Tryd.t71, Tryd.type71, rfl, rfl, trivial⟩⟩
theorem tyOK72 : TyOK Tryd.prog 72 (tyT 72) := ⟨⟨_, _, _, Tryd.underlying72⟩, ⟨Tryd.t72, Tryd.type72, rfl, rfl, trivial⟩⟩
theorem tyOK73 : TyOK Tryd.prog 73 (tyT 73) := ⟨Tryd.underlying73, ⟨Tryd.t73, Tryd.type73, rfl, rfl, ⟨rfl, rfl, rfl, fun h => by first | rfl | cases h⟩⟩⟩
theorem tyOK74 : TyOK Tryd.prog 74 (tyT 74) := ⟨⟨_, Tryd.underlying74, rfl⟩, ⟨Tryd.t74, Tryd.type74, rfl, rfl, ⟨rfl, rfl, rfl, fun h => by first | rfl | cases h⟩⟩⟩
theorem tyOK75 : TyOK Tryd.prog 75 (tyT 75) := ⟨⟨_, Tryd.underlying75, rfl⟩, ⟨Tryd.t75, Tryd.type75, rfl, rfl, ⟨rfl, rfl, rfl, fun h => by first | rfl | cases h⟩⟩⟩
theorem tyOK76 : TyOK Tryd.prog 76 (tyT 76) := ⟨⟨_, _, _, Tryd.underlying76⟩, ⟨Tryd.t76, Tryd.type76, rfl, rfl, trivial⟩⟩
theorem tyOK77 : TyOK Tryd.prog 77 (tyT 77) := ⟨⟨_, _, _, Tryd.underlying77⟩, ⟨Tryd.t77, Tryd.type77, rfl, rfl, trivial⟩⟩
theorem tyOK78 : TyOK Tryd.prog 78 (tyT 78) := ⟨⟨_, Tryd.underlying78, rfl⟩, ⟨Tryd.t78, Tryd.type78, rfl, rfl, ⟨rfl, rfl, rfl, fun h => by first | rfl | cases h⟩⟩⟩
theorem tyOK79 : TyOK Tryd.prog 79 (tyT 79) := ⟨⟨_, Tryd.underlying79, rfl⟩, ⟨Tryd.t79, Tryd.type79, rfl, rfl, ⟨rfl, rfl, rfl, fun h => by first | rfl | cases h⟩⟩⟩
theorem tyOK80 : TyOK Tryd.prog 80 (tyT 80) := ⟨⟨_, _, _, Tryd.underlying80⟩, ⟨Tryd.t80, Tryd.type80, rfl, rfl, trivial⟩⟩
theorem tyOK81 : TyOK Tryd.prog 81 (tyT 81) := ⟨⟨_, _, _, Tryd.underlying81⟩, ⟨Tryd.t81, Tryd.type81, rfl, rfl, trivial⟩⟩
theorem tyOK82 : TyOK Tryd.prog 82 (tyT 82) := ⟨⟨_, _, _, Tryd.underlying82⟩, ⟨Tryd.t82, Tryd.type82, rfl, rfl, trivial⟩⟩
theorem tyOK83 : TyOK Tryd.prog 83 (tyT 83) := ⟨⟨_, _, _, Tryd.underlying83⟩, ⟨Tryd.t83, Tryd.type83, rfl, rfl, trivial⟩⟩
theorem tyOK84 : TyOK Tryd.prog 84 (tyT 84) := ⟨⟨_, _, _, Tryd.underlying84⟩, ⟨Tryd.t84, Tryd.type84, rfl, rfl, trivial⟩⟩
theorem tyOK85 : TyOK Tryd.prog 85 (tyT 85) := ⟨⟨_, _, _, Tryd.underlying85⟩, ⟨Tryd.t85, Tryd.type85, rfl, rfl, trivial⟩⟩
theorem tyOK86 : TyOK Tryd.prog 86 (tyT 86) := ⟨⟨_, _, _, Tryd.underlying86⟩, ⟨Tryd.t86, Tryd.type86, rfl, rfl, trivial⟩⟩
theorem tyOK87 : TyOK Tryd.prog 87 (tyT 87) := ⟨Tryd.underlying87, ⟨Tryd.t87, Tryd.type87, rfl, rfl, trivial⟩⟩
theorem tyOK88 : TyOK Tryd.prog 88 (tyT 88) := ⟨⟨_, Tryd.underlying88⟩, ⟨Tryd.t88, Tryd.type88, rfl, rfl, trivial⟩⟩
theorem tyOK89 : TyOK Tryd.prog 89 (tyT 89) := ⟨⟨_, Tryd.underlying89, rfl⟩, ⟨Tryd.t89, Tryd.type89, rfl, rfl, trivial⟩⟩
theorem tyOK90 : TyOK Tryd.prog 90 (tyT 90) := ⟨⟨_, Tryd.underlying90, rfl⟩, ⟨Tryd.t90, Tryd.type90, rfl, rfl, trivial⟩⟩
theorem tyOK91 : TyOK Tryd.prog 91 (tyT 91) := ⟨⟨_, _, _, Tryd.underlying91⟩, ⟨Tryd.t91, Tryd.type91, rfl, rfl, trivial⟩⟩
theorem tyOK92 : TyOK Tryd.prog 92 (tyT 92) := ⟨⟨_, Tryd.underlying92⟩, ⟨Tryd.t92, Tryd.type92, rfl, rfl, trivial⟩⟩
theorem tyOK93 : TyOK Tryd.prog 93 (tyT 93) := ⟨⟨_, Tryd.underlying93⟩, ⟨Tryd.t93, Tryd.type93, rfl, rfl, trivial⟩⟩
theorem tyOK95 : TyOK Tryd.prog 95 (tyT 95) := ⟨⟨_, _, _, Tryd.underlying95⟩, ⟨Tryd.t95, Tryd.type95, rfl, rfl, trivial⟩⟩
theorem tyOK96 : TyOK Tryd.prog 96 (tyT 96) := ⟨⟨_, _, _, Tryd.underlying96⟩, ⟨Tryd.t96, Tryd.type96, rfl, rfl, trivial⟩⟩
theorem tyOK97 : TyOK Tryd.prog 97 (tyT 97) := ⟨⟨_, _, _, Tryd.underlying97⟩, ⟨Tryd.t97, Tryd.type97, rfl, rfl, trivial⟩⟩
theorem tyOK98 : TyOK Tryd.prog 98 (tyT 98) := ⟨⟨_, Tryd.underlying98, rfl⟩, ⟨Tryd.t98, Tryd.type98, rfl, rfl, ⟨rfl, rfl, rfl, fun h => by first | rfl | cases h⟩⟩⟩
theorem tyOK99 : TyOK Tryd.prog 99 (tyT 99) := ⟨⟨_, Tryd.underlying99, rfl⟩, ⟨Tryd.t99, Tryd.type99, rfl, rfl, ⟨rfl, rfl, rfl, fun h => by first | rfl | cases h⟩⟩⟩
theorem tyOK100 : TyOK Tryd.prog 100 (tyT 100) := ⟨⟨_, _, _, Tryd.underlying100⟩, ⟨Tryd.t100, Tryd.type100, rfl, rfl, trivial⟩⟩
theorem tyOK101 : TyOK Tryd.prog 101 (tyT 101) := ⟨Tryd.underlying101, ⟨Tryd.t101, Tryd.type101, rfl, rfl, ⟨rfl, rfl, rfl, fun h => by first | rfl | cases h⟩⟩⟩
theorem tyOK102 : TyOK Tryd.prog 102 (tyT 102) := ⟨⟨_, _, _, Tryd.underlying102⟩, ⟨Tryd.t102, Tryd.type102, rfl, rfl, trivial⟩⟩
theorem tyOK104 : TyOK Tryd.prog 104 (tyT 104) := ⟨⟨_, _, _, Tryd.underlying104⟩, ⟨Tryd.t104, Tryd.type104, rfl, rfl, trivial⟩⟩
theorem tyOK106 : TyOK Tryd.prog 106 (tyT 106) := ⟨⟨_, _, _, Tryd.underlying106⟩, ⟨Tryd.t106, Tryd.type106, rfl, rfl, trivial⟩⟩
theorem tyOK107 : TyOK Tryd.prog 107 (tyT 107) := ⟨⟨_, _, _, Tryd.underlying107⟩, ⟨Tryd.t107, Tryd.type107, rfl, rfl, trivial⟩⟩
theorem tyOK108 : TyOK Tryd.prog 108 (tyT 108) := ⟨⟨_, _, _, Tryd.underlying108⟩, ⟨Tryd.t108, Tryd.type108, rfl, rfl, trivial⟩⟩
theorem tyOK109 : TyOK Tryd.prog 109 (tyT 109) := ⟨⟨_, _, _, Tryd.underlying109⟩, ⟨Tryd.t109, Tryd.type109, rfl, rfl, trivial⟩⟩
theorem tyOK110 : TyOK Tryd.prog 110 (tyT 110) := ⟨⟨_, _, _, Tryd.underlying110⟩, ⟨Tryd.t110, Tryd.type110, rfl, rfl, trivial⟩⟩
theorem tyOK111 : TyOK Tryd.prog 111 (tyT 111) := ⟨⟨_, _, _, Tryd.underlying111⟩, ⟨Tryd.t111, Tryd.type111, rfl, rfl, trivial⟩⟩
theorem tyOK112 : TyOK Tryd.prog 112 (tyT 112) := ⟨⟨_, Tryd.underlying112⟩, ⟨Tryd.t112, Tryd.type112, rfl, rfl, trivial⟩⟩
theorem tyOK113 : TyOK Tryd.prog 113 (tyT 113) := ⟨⟨_, _, _, Tryd.underlying113⟩, ⟨Tryd.t113, Tryd.type113, rfl, rfl, trivial⟩⟩
theorem tyOK114 : TyOK Tryd.prog 114 (tyT 114) := ⟨⟨_, _, _, Tryd.underlying114⟩, ⟨Tryd.t114, Tryd.type114, rfl, rfl, trivial⟩⟩
theorem tyOK115 : TyOK Tryd.prog 115 (tyT 115) := ⟨⟨_, _, _, Tryd.underlying115⟩, ⟨Tryd.t115, Tryd.type115, rfl, rfl, trivial⟩⟩
theorem tyOK116 : TyOK Tryd.prog 116 (tyT 116) := ⟨⟨_, _, _, Tryd.underlying116⟩, ⟨Tryd.t116, Tryd.type116, rfl, rfl, trivial⟩⟩
theorem tyOK118 : TyOK Tryd.prog 118 (tyT 118) := ⟨⟨_, _, _, Tryd.underlying118⟩, ⟨Tryd.t118, Tryd.type118, rfl, rfl, trivial⟩⟩
theorem tyOK119 : TyOK Tryd.prog 119 (tyT 119) := ⟨⟨_, _, _, Tryd.underlying119⟩, ⟨Tryd.t119, Tryd.type119, rfl, rfl, trivial⟩⟩
theorem tyOK121 : TyOK Tryd.prog 121 (tyT 121) := ⟨⟨_, _, _, Tryd.underlying121⟩, ⟨Tryd.t121, Tryd.type121, rfl, rfl, trivial⟩⟩
theorem tyOK122 : TyOK Tryd.prog 122 (tyT 122) := ⟨⟨_, _, _, Tryd.underlying122⟩, ⟨Tryd.t122, Tryd.type122, rfl, rfl, trivial⟩⟩
theorem tyOK123 : TyOK Tryd.prog 123 (tyT 123) := ⟨⟨_, _, _, Tryd.underlying123⟩, ⟨Tryd.t123, Tryd.type123, rfl, rfl, trivial⟩⟩
theorem tyOK124 : TyOK Tryd.prog 124 (tyT 124) := ⟨Tryd.underlying124, ⟨Tryd.t124, Tryd.type124, rfl, rfl, ⟨rfl, rfl, rfl, fun h => by first | rfl | cases h⟩⟩⟩
theorem tyOK126 : TyOK Tryd.prog 126 (tyT 126) := ⟨Tryd.underlying126, ⟨Tryd.t126, Tryd.type126, rfl, rfl, ⟨rfl, rfl, rfl, fun h => by first | rfl | cases h⟩⟩⟩
theorem tyOK127 : TyOK Tryd.prog 127 (tyT 127) := ⟨⟨_, _, _, Tryd.underlying127⟩, ⟨Tryd.t127, Tryd.type127, rfl, rfl, trivial⟩⟩
theorem tyOK128 : TyOK Tryd.prog 128 (tyT 128) := ⟨⟨_, _, _, Tryd.underlying128⟩, ⟨Tryd.t128, Tryd.type128, rfl, rfl, trivial⟩⟩
theorem tyOK130 : TyOK Tryd.prog 130 (tyT 130) := ⟨⟨_, _, _, Tryd.underlying130⟩, ⟨Tryd.t130, Tryd.type130, rfl, rfl, trivial⟩⟩
theorem tyOK132 : TyOK Tryd.prog 132 (tyT 132) := ⟨⟨_, Tryd.underlying132, rfl⟩, ⟨Tryd.t132, Tryd.type132, rfl, rfl, ⟨rfl, rfl, rfl, fun h => by first | rfl | cases h⟩⟩⟩
theorem tyOK133 : TyOK Tryd.prog 133 (tyT 133) := ⟨⟨_, Tryd.underlying133, rfl⟩, ⟨Tryd.t133, Tryd.type133, rfl, rfl, ⟨rfl, rfl, rfl, fun h => by first | rfl | cases h⟩⟩⟩
theorem tyOK135 : TyOK Tryd.prog 135 (tyT 135) := ⟨Tryd.underlying135, ⟨Tryd.t135, Tryd.type135, rfl, rfl, ⟨rfl, rfl, rfl, fun h => by first | rfl | cases h⟩⟩⟩
theorem tyOK137 : TyOK Tryd.prog 137 (tyT 137) := ⟨⟨_, _, _, Tryd.underlying137⟩, ⟨Tryd.t137, Tryd.type137, rfl, rfl, trivial⟩⟩
theorem tyOK138 : TyOK Tryd.prog 138 (tyT 138) := ⟨⟨_, _, _, Tryd.underlying138⟩, ⟨Tryd.t138, Tryd.type138, rfl, rfl, trivial⟩⟩
theorem tyOK141 : TyOK Tryd.prog 141 (tyT 141) := ⟨⟨_, _, _, Tryd.underlying141⟩, ⟨Tryd.t141, Tryd.type141, rfl, rfl, trivial⟩⟩
theorem tyOK142 : TyOK Tryd.prog 142 (tyT 142) := ⟨⟨_, _, _, Tryd.underlying142⟩, ⟨Tryd.t142, Tryd.type142, rfl, rfl, trivial⟩⟩
theorem tyOK145 : TyOK Tryd.prog 145 (tyT 145) := ⟨⟨_, Tryd.underlying145, rfl⟩, ⟨Tryd.t145, Tryd.type145, rfl, rfl, trivial⟩⟩
theorem tyOK146 : TyOK Tryd.prog 146 (tyT 146) := ⟨⟨_, Tryd.underlying146, rfl⟩, ⟨Tryd.t146, Tryd.type146, rfl, rfl, trivial⟩⟩
theorem tyOK148 : TyOK Tryd.prog 148 (tyT 148) := ⟨⟨_, Tryd.underlying148, rfl⟩, ⟨Tryd.t148, Tryd.type148, rfl, rfl, trivial⟩⟩
theorem tyOK149 : TyOK Tryd.prog 149 (tyT 149) := ⟨⟨_, Tryd.underlying149, rfl⟩, ⟨Tryd.t149, Tryd.type149, rfl, rfl, trivial⟩⟩
theorem tyOK150 : TyOK Tryd.prog 150 (tyT 150) := ⟨⟨_, _, _, Tryd.underlying150⟩, ⟨Tryd.t150, Tryd.type150, rfl, rfl, trivial⟩⟩
theorem tyOK151 : TyOK Tryd.prog 151 (tyT 151) := ⟨Tryd.underlying151, ⟨Tryd.t151, Tryd.type151, rfl, rfl, ⟨rfl, rfl, rfl, fun h => by first | rfl | cases h⟩⟩⟩
theorem tyOK152 : TyOK Tryd.prog 152 (tyT 152) := ⟨Tryd.underlying152, ⟨Tryd.t152, Tryd.type152, rfl, rfl, ⟨rfl, rfl, rfl, fun h => by first | rfl | cases h⟩⟩⟩
theorem tyOK153 : TyOK Tryd.prog 153 (tyT 153) := ⟨⟨_, _, _, Tryd.underlying153⟩, ⟨Tryd.t153, Tryd.type153, rfl, rfl, trivial⟩⟩
theorem tyOK154 : TyOK Tryd.prog 154 (tyT 154) := ⟨Tryd.underlying154, ⟨Tryd.t154, Tryd.type154, rfl, rfl, ⟨rfl, rfl, rfl, fun h => by first | rfl | cases h⟩⟩⟩
theorem tyOK155 : TyOK Tryd.prog 155 (tyT 155) := ⟨Tryd.underlying155, ⟨Tryd.t155, Tryd.type155, rfl, rfl, ⟨rfl, rfl, rfl, fun h => by first | rfl | cases h⟩⟩⟩
theorem tyOK156 : TyOK Tryd.prog 156 (tyT 156) := ⟨⟨_, Tryd.underlying156, rfl⟩, ⟨Tryd.t156, Tryd.type156, rfl, rfl, trivial⟩⟩
theorem tyOK157 : TyOK Tryd.prog 157 (tyT 157) := ⟨⟨_, Tryd.underlying157, rfl⟩, ⟨Tryd.t157, Tryd.type157, rfl, rfl, trivial⟩⟩

set_option maxRecDepth 100000 in
theorem tyOK : ∀ n, TyOK Tryd.prog n (tyT n) := by
  intro n
  unfold tyT
  split
  · exact tyOK1
  · exact tyOK2
  · exact tyOK3
  · exact tyOK4
  · exact tyOK5
  · exact tyOK6
  · exact tyOK7
  · exact tyOK8
  · exact tyOK9
  · exact tyOK10
  · exact tyOK11
  · exact tyOK12
  · exact tyOK13
  · exact tyOK14
  · exact tyOK15
  · exact tyOK16
  · exact tyOK17
  · exact tyOK18
  · exact tyOK19
  · exact tyOK20
  · exact tyOK21
  · exact tyOK22
  · exact tyOK23
  · exact tyOK24
  · exact tyOK25
  · exact tyOK26
  · exact tyOK27
  · exact tyOK28
  · exact tyOK29
  · exact tyOK30
  · exact tyOK31
  · exact tyOK33
  · exact tyOK34
  · exact tyOK35
  · exact tyOK36
  · exact tyOK37
  · exact tyOK38
  · exact tyOK39
  · exact tyOK40
  · exact tyOK41
  · exact tyOK42
  · exact tyOK43
  · exact tyOK44
  · exact tyOK45
  · exact tyOK46
  · exact tyOK47
  · exact tyOK48
  · exact tyOK49
  · exact tyOK50
  · exact tyOK51
  · exact tyOK52
  · exact tyOK53
  · exact tyOK54
  · exact tyOK55
  · exact tyOK56
  · exact tyOK57
  · exact tyOK58
  · exact tyOK59
  · exact tyOK60
  · exact tyOK61
  · exact tyOK62
  · exact tyOK63
  · exact tyOK64
  · exact tyOK65
  · exact tyOK67
  · exact tyOK68
  · exact tyOK69
  · exact tyOK70
  · exact tyOK71
  · exact tyOK72
  · exact tyOK73
  · exact tyOK74
  · exact tyOK75
  · exact tyOK76
  · exact tyOK77
  · exact tyOK78
  · exact tyOK79
  · exact tyOK80
  · exact tyOK81
  · exact tyOK82
  · exact tyOK83
  · exact tyOK84
  · exact tyOK85
  · exact tyOK86
  · exact tyOK87
  · exact tyOK88
  · exact tyOK89
  · exact tyOK90
  · exact tyOK91
  · exact tyOK92
  · exact tyOK93
  · exact tyOK95
  · exact tyOK96
  · exact tyOK97
  · exact tyOK98
  · exact tyOK99
  · exact tyOK100
  · exact tyOK101
  · exact tyOK102
  · exact tyOK104
  · exact tyOK106
  · exact tyOK107
  · exact tyOK108
  · exact tyOK109
  · exact tyOK110
  · exact tyOK111
  · exact tyOK112
  · exact tyOK113
  · exact tyOK114
  · exact tyOK115
  · exact tyOK116
  · exact tyOK118
  · exact tyOK119
  · exact tyOK121
  · exact tyOK122
  · exact tyOK123
  · exact tyOK124
  · exact tyOK126
  · exact tyOK127
  · exact tyOK128
  · exact tyOK130
  · exact tyOK132
  · exact tyOK133
  · exact tyOK135
  · exact tyOK137
  · exact tyOK138
  · exact tyOK141
  · exact tyOK142
  · exact tyOK145
  · exact tyOK146
  · exact tyOK148
  · exact tyOK149
  · exact tyOK150
  · exact tyOK151
  · exact tyOK152
  · exact tyOK153
  · exact tyOK154
  · exact tyOK155
  · exact tyOK156
  · exact tyOK157
  · exact ⟨trivial, trivial⟩

def TT : Tab Tryd.prog := ⟨tyT, tyOK⟩

theorem TT_1 : TT.T 1 = ⟨Ty.func, 1, 8, none⟩ := rfl
theorem TT_2 : TT.T 2 = ⟨Ty.int .i64, 1, 8, some [.int .i64 0]⟩ := rfl
theorem TT_3 : TT.T 3 = ⟨Ty.int .i64, 1, 8, some [.int .i64 0]⟩ := rfl
theorem TT_4 : TT.T 4 = ⟨Ty.bool, 1, 1, some [.bool false]⟩ := rfl
theorem TT_5 : TT.T 5 = ⟨Ty.int .u8, 1, 1, some [.int .u8 0]⟩ := rfl
theorem TT_6 : TT.T 6 = ⟨Ty.int .u8, 1, 1, some [.int .u8 0]⟩ := rfl
theorem TT_7 : TT.T 7 = ⟨Ty.strct [(0, 2), (1, 3), (2, 4), (3, 6)], 4, 24, some [.int .i64 0, .int .i64 0, .bool false, .int .u8 0]⟩ := rfl
theorem TT_8 : TT.T 8 = ⟨Ty.strct [(0, 2), (1, 3), (2, 4), (3, 6)], 4, 24, some [.int .i64 0, .int .i64 0, .bool false, .int .u8 0]⟩ := rfl
theorem TT_9 : TT.T 9 = ⟨Ty.str, 1, 16, some [.str []]⟩ := rfl
theorem TT_10 : TT.T 10 = ⟨Ty.str, 1, 16, some [.str []]⟩ := rfl
theorem TT_11 : TT.T 11 = ⟨Ty.str, 1, 16, some [.str []]⟩ := rfl
theorem TT_12 : TT.T 12 = ⟨Ty.int .u64, 1, 8, some [.int .u64 0]⟩ := rfl
theorem TT_13 : TT.T 13 = ⟨Ty.strct [(0, 9), (1, 12)], 2, 24, some [.str [], .int .u64 0]⟩ := rfl
theorem TT_14 : TT.T 14 = ⟨Ty.strct [(0, 9), (1, 12)], 2, 24, some [.str [], .int .u64 0]⟩ := rfl
theorem TT_15 : TT.T 15 = ⟨Ty.ptr, 1, 8, none⟩ := rfl
theorem TT_16 : TT.T 16 = ⟨Ty.ptr, 1, 8, none⟩ := rfl
theorem TT_17 : TT.T 17 = ⟨Ty.ptr, 1, 8, none⟩ := rfl
theorem TT_18 : TT.T 18 = ⟨Ty.strct [(0, 17)], 1, 8, none⟩ := rfl
theorem TT_19 : TT.T 19 = ⟨Ty.strct [(0, 17)], 1, 8, none⟩ := rfl
theorem TT_20 : TT.T 20 = ⟨Ty.iface, 1, 16, none⟩ := rfl
theorem TT_21 : TT.T 21 = ⟨Ty.int .i32, 1, 4, some [.int .i32 0]⟩ := rfl
theorem TT_22 : TT.T 22 = ⟨Ty.slice 49, 1, 24, some [.sl 3 [] .full]⟩ := rfl
theorem TT_23 : TT.T 23 = ⟨Ty.func, 1, 8, none⟩ := rfl
theorem TT_24 : TT.T 24 = ⟨Ty.func, 1, 8, none⟩ := rfl
theorem TT_25 : TT.T 25 = ⟨Ty.slice 53, 1, 24, some [.sl 3 [] .full]⟩ := rfl
theorem TT_26 : TT.T 26 = ⟨Ty.func, 1, 8, none⟩ := rfl
theorem TT_27 : TT.T 27 = ⟨Ty.func, 1, 8, none⟩ := rfl
theorem TT_28 : TT.T 28 = ⟨Ty.func, 1, 8, none⟩ := rfl
theorem TT_29 : TT.T 29 = ⟨Ty.slice 5, 1, 24, some [.sl 1 [] .full]⟩ := rfl
theorem TT_30 : TT.T 30 = ⟨Ty.func, 1, 8, none⟩ := rfl
theorem TT_31 : TT.T 31 = ⟨Ty.func, 1, 8, none⟩ := rfl
theorem TT_33 : TT.T 33 = ⟨Ty.func, 1, 8, none⟩ := rfl
theorem TT_34 : TT.T 34 = ⟨Ty.func, 1, 8, none⟩ := rfl
theorem TT_35 : TT.T 35 = ⟨Ty.func, 1, 8, none⟩ := rfl
theorem TT_36 : TT.T 36 = ⟨Ty.func, 1, 8, none⟩ := rfl
theorem TT_37 : TT.T 37 = ⟨Ty.func, 1, 8, none⟩ := rfl
theorem TT_38 : TT.T 38 = ⟨Ty.slice 75, 1, 24, some [.sl 2 [] .full]⟩ := rfl
theorem TT_39 : TT.T 39 = ⟨Ty.func, 1, 8, none⟩ := rfl
theorem TT_40 : TT.T 40 = ⟨Ty.func, 1, 8, none⟩ := rfl
theorem TT_41 : TT.T 41 = ⟨Ty.slice 79, 1, 24, some [.sl 2 [] .full]⟩ := rfl
theorem TT_42 : TT.T 42 = ⟨Ty.func, 1, 8, none⟩ := rfl
theorem TT_43 : TT.T 43 = ⟨Ty.func, 1, 8, none⟩ := rfl
theorem TT_44 : TT.T 44 = ⟨Ty.func, 1, 8, none⟩ := rfl
theorem TT_45 : TT.T 45 = ⟨Ty.func, 1, 8, none⟩ := rfl
theorem TT_46 : TT.T 46 = ⟨Ty.strct [(0, 3), (1, 3)], 2, 16, some [.int .i64 0, .int .i64 0]⟩ := rfl
theorem TT_47 : TT.T 47 = ⟨Ty.strct [(0, 3), (1, 3)], 2, 16, some [.int .i64 0, .int .i64 0]⟩ := rfl
theorem TT_48 : TT.T 48 = ⟨Ty.strct [(0, 9), (1, 47)], 3, 32, some [.str [], .int .i64 0, .int .i64 0]⟩ := rfl
theorem TT_49 : TT.T 49 = ⟨Ty.strct [(0, 9), (1, 47)], 3, 32, some [.str [], .int .i64 0, .int .i64 0]⟩ := rfl
theorem TT_50 : TT.T 50 = ⟨Ty.func, 1, 8, none⟩ := rfl
theorem TT_51 : TT.T 51 = ⟨Ty.strct [(0, 3), (1, 3)], 2, 16, some [.int .i64 0, .int .i64 0]⟩ := rfl
theorem TT_52 : TT.T 52 = ⟨Ty.strct [(0, 9), (1, 51)], 3, 32, some [.str [], .int .i64 0, .int .i64 0]⟩ := rfl
theorem TT_53 : TT.T 53 = ⟨Ty.strct [(0, 9), (1, 51)], 3, 32, some [.str [], .int .i64 0, .int .i64 0]⟩ := rfl
theorem TT_54 : TT.T 54 = ⟨Ty.func, 1, 8, none⟩ := rfl
theorem TT_55 : TT.T 55 = ⟨Ty.slice 9, 1, 24, some [.sl 1 [] .full]⟩ := rfl
theorem TT_56 : TT.T 56 = ⟨Ty.func, 1, 8, none⟩ := rfl
theorem TT_57 : TT.T 57 = ⟨Ty.func, 1, 8, none⟩ := rfl
theorem TT_58 : TT.T 58 = ⟨Ty.func, 1, 8, none⟩ := rfl
theorem TT_59 : TT.T 59 = ⟨Ty.ptr, 1, 8, none⟩ := rfl
theorem TT_60 : TT.T 60 = ⟨Ty.func, 1, 8, none⟩ := rfl
theorem TT_61 : TT.T 61 = ⟨Ty.func, 1, 8, none⟩ := rfl
theorem TT_62 : TT.T 62 = ⟨Ty.func, 1, 8, none⟩ := rfl
theorem TT_63 : TT.T 63 = ⟨Ty.func, 1, 8, none⟩ := rfl
theorem TT_64 : TT.T 64 = ⟨Ty.func, 1, 8, none⟩ := rfl
theorem TT_65 : TT.T 65 = ⟨Ty.func, 1, 8, none⟩ := rfl
theorem TT_67 : TT.T 67 = ⟨Ty.func, 1, 8, none⟩ := rfl
theorem TT_68 : TT.T 68 = ⟨Ty.func, 1, 8, none⟩ := rfl
theorem TT_69 : TT.T 69 = ⟨Ty.func, 1, 8, none⟩ := rfl
theorem TT_70 : TT.T 70 = ⟨Ty.func, 1, 8, none⟩ := rfl
theorem TT_71 : TT.T 71 = ⟨Ty.func, 1, 8, none⟩ := rfl
theorem TT_72 : TT.T 72 = ⟨Ty.func, 1, 8, none⟩ := rfl
theorem TT_73 : TT.T 73 = ⟨Ty.slice 3, 1, 24, some [.sl 1 [] .full]⟩ := rfl
theorem TT_74 : TT.T 74 = ⟨Ty.strct [(0, 73), (1, 22)], 2, 48, some [.sl 1 [] .full, .sl 3 [] .full]⟩ := rfl
theorem TT_75 : TT.T 75 = ⟨Ty.strct [(0, 73), (1, 22)], 2, 48, some [.sl 1 [] .full, .sl 3 [] .full]⟩ := rfl
theorem TT_76 : TT.T 76 = ⟨Ty.func, 1, 8, none⟩ := rfl
theorem TT_77 : TT.T 77 = ⟨Ty.func, 1, 8, none⟩ := rfl
theorem TT_78 : TT.T 78 = ⟨Ty.strct [(0, 73), (1, 25)], 2, 48, some [.sl 1 [] .full, .sl 3 [] .full]⟩ := rfl
theorem TT_79 : TT.T 79 = ⟨Ty.strct [(0, 73), (1, 25)], 2, 48, some [.sl 1 [] .full, .sl 3 [] .full]⟩ := rfl
theorem TT_80 : TT.T 80 = ⟨Ty.func, 1, 8, none⟩ := rfl
theorem TT_81 : TT.T 81 = ⟨Ty.func, 1, 8, none⟩ := rfl
theorem TT_82 : TT.T 82 = ⟨Ty.func, 1, 8, none⟩ := rfl
theorem TT_83 : TT.T 83 = ⟨Ty.func, 1, 8, none⟩ := rfl
theorem TT_84 : TT.T 84 = ⟨Ty.func, 1, 8, none⟩ := rfl
theorem TT_85 : TT.T 85 = ⟨Ty.func, 1, 8, none⟩ := rfl
theorem TT_86 : TT.T 86 = ⟨Ty.func, 1, 8, none⟩ := rfl
theorem TT_87 : TT.T 87 = ⟨Ty.map 9 4, 1, 8, none⟩ := rfl
theorem TT_88 : TT.T 88 = ⟨Ty.ptr, 1, 8, none⟩ := rfl
theorem TT_89 : TT.T 89 = ⟨Ty.strct [(0, 88), (1, 29)], 2, 32, none⟩ := rfl
theorem TT_90 : TT.T 90 = ⟨Ty.strct [(0, 88), (1, 29)], 2, 32, none⟩ := rfl
theorem TT_91 : TT.T 91 = ⟨Ty.func, 1, 8, none⟩ := rfl
theorem TT_92 : TT.T 92 = ⟨Ty.iface, 1, 16, none⟩ := rfl
theorem TT_93 : TT.T 93 = ⟨Ty.iface, 1, 16, none⟩ := rfl
theorem TT_95 : TT.T 95 = ⟨Ty.func, 1, 8, none⟩ := rfl
theorem TT_96 : TT.T 96 = ⟨Ty.func, 1, 8, none⟩ := rfl
theorem TT_97 : TT.T 97 = ⟨Ty.func, 1, 8, none⟩ := rfl
theorem TT_98 : TT.T 98 = ⟨Ty.strct [(0, 29), (1, 3)], 2, 32, some [.sl 1 [] .full, .int .i64 0]⟩ := rfl
theorem TT_99 : TT.T 99 = ⟨Ty.strct [(0, 29), (1, 3)], 2, 32, some [.sl 1 [] .full, .int .i64 0]⟩ := rfl
theorem TT_100 : TT.T 100 = ⟨Ty.func, 1, 8, none⟩ := rfl
theorem TT_101 : TT.T 101 = ⟨Ty.slice 51, 1, 24, some [.sl 2 [] .full]⟩ := rfl
theorem TT_102 : TT.T 102 = ⟨Ty.func, 1, 8, none⟩ := rfl
theorem TT_104 : TT.T 104 = ⟨Ty.func, 1, 8, none⟩ := rfl
theorem TT_106 : TT.T 106 = ⟨Ty.func, 1, 8, none⟩ := rfl
theorem TT_107 : TT.T 107 = ⟨Ty.func, 1, 8, none⟩ := rfl
theorem TT_108 : TT.T 108 = ⟨Ty.func, 1, 8, none⟩ := rfl
theorem TT_109 : TT.T 109 = ⟨Ty.func, 1, 8, none⟩ := rfl
theorem TT_110 : TT.T 110 = ⟨Ty.func, 1, 8, none⟩ := rfl
theorem TT_111 : TT.T 111 = ⟨Ty.func, 1, 8, none⟩ := rfl
theorem TT_112 : TT.T 112 = ⟨Ty.ptr, 1, 8, none⟩ := rfl
theorem TT_113 : TT.T 113 = ⟨Ty.func, 1, 8, none⟩ := rfl
theorem TT_114 : TT.T 114 = ⟨Ty.func, 1, 8, none⟩ := rfl
theorem TT_115 : TT.T 115 = ⟨Ty.func, 1, 8, none⟩ := rfl
theorem TT_116 : TT.T 116 = ⟨Ty.func, 1, 8, none⟩ := rfl
theorem TT_118 : TT.T 118 = ⟨Ty.func, 1, 8, none⟩ := rfl
theorem TT_119 : TT.T 119 = ⟨Ty.func, 1, 8, none⟩ := rfl
theorem TT_121 : TT.T 121 = ⟨Ty.func, 1, 8, none⟩ := rfl
theorem TT_122 : TT.T 122 = ⟨Ty.func, 1, 8, none⟩ := rfl
theorem TT_123 : TT.T 123 = ⟨Ty.func, 1, 8, none⟩ := rfl
theorem TT_124 : TT.T 124 = ⟨Ty.int .u64, 1, 8, some [.int .u64 0]⟩ := rfl
theorem TT_126 : TT.T 126 = ⟨Ty.int .u64, 1, 8, some [.int .u64 0]⟩ := rfl
theorem TT_127 : TT.T 127 = ⟨Ty.func, 1, 8, none⟩ := rfl
theorem TT_128 : TT.T 128 = ⟨Ty.func, 1, 8, none⟩ := rfl
theorem TT_130 : TT.T 130 = ⟨Ty.func, 1, 8, none⟩ := rfl
theorem TT_132 : TT.T 132 = ⟨Ty.strct [(0, 5), (1, 5)], 2, 2, some [.int .u8 0, .int .u8 0]⟩ := rfl
theorem TT_133 : TT.T 133 = ⟨Ty.strct [(0, 5), (1, 5)], 2, 2, some [.int .u8 0, .int .u8 0]⟩ := rfl
theorem TT_135 : TT.T 135 = ⟨Ty.int .u32, 1, 4, some [.int .u32 0]⟩ := rfl
theorem TT_137 : TT.T 137 = ⟨Ty.func, 1, 8, none⟩ := rfl
theorem TT_138 : TT.T 138 = ⟨Ty.func, 1, 8, none⟩ := rfl
theorem TT_141 : TT.T 141 = ⟨Ty.func, 1, 8, none⟩ := rfl
theorem TT_142 : TT.T 142 = ⟨Ty.func, 1, 8, none⟩ := rfl
theorem TT_145 : TT.T 145 = ⟨Ty.strct [(0, 17), (1, 17), (2, 17), (3, 9)], 4, 40, none⟩ := rfl
theorem TT_146 : TT.T 146 = ⟨Ty.strct [(0, 17), (1, 17), (2, 17), (3, 9)], 4, 40, none⟩ := rfl
theorem TT_148 : TT.T 148 = ⟨Ty.strct [(0, 147)], 0, 0, none⟩ := rfl
theorem TT_149 : TT.T 149 = ⟨Ty.strct [(0, 147)], 0, 0, none⟩ := rfl
theorem TT_150 : TT.T 150 = ⟨Ty.func, 1, 8, none⟩ := rfl
theorem TT_151 : TT.T 151 = ⟨Ty.int .u8, 1, 1, some [.int .u8 0]⟩ := rfl
theorem TT_152 : TT.T 152 = ⟨Ty.int .u8, 1, 1, some [.int .u8 0]⟩ := rfl
theorem TT_153 : TT.T 153 = ⟨Ty.func, 1, 8, none⟩ := rfl
theorem TT_154 : TT.T 154 = ⟨Ty.int .i32, 1, 4, some [.int .i32 0]⟩ := rfl
theorem TT_155 : TT.T 155 = ⟨Ty.int .i32, 1, 4, some [.int .i32 0]⟩ := rfl
theorem TT_156 : TT.T 156 = ⟨Ty.strct [(0, 12), (1, 12), (2, 135), (3, 151), (4, 5), (5, 5), (6, 152), (7, 153), (8, 112), (9, 154), (10, 155)], 11, 48, none⟩ := rfl
theorem TT_157 : TT.T 157 = ⟨Ty.strct [(0, 12), (1, 12), (2, 135), (3, 151), (4, 5), (5, 5), (6, 152), (7, 153), (8, 112), (9, 154), (10, 155)], 11, 48, none⟩ := rfl
attribute [go_sem] TT_1 TT_2 TT_3 TT_4 TT_5 TT_6 TT_7 TT_8 TT_9 TT_10 TT_11 TT_12 TT_13 TT_14 TT_15 TT_16 TT_17 TT_18 TT_19 TT_20 TT_21 TT_22 TT_23 TT_24 TT_25 TT_26 TT_27 TT_28 TT_29 TT_30 TT_31 TT_33 TT_34 TT_35 TT_36 TT_37 TT_38 TT_39 TT_40 TT_41 TT_42 TT_43 TT_44 TT_45 TT_46 TT_47 TT_48 TT_49 TT_50 TT_51 TT_52 TT_53 TT_54 TT_55 TT_56 TT_57 TT_58 TT_59 TT_60 TT_61 TT_62 TT_63 TT_64 TT_65 TT_67 TT_68 TT_69 TT_70 TT_71 TT_72 TT_73 TT_74 TT_75 TT_76 TT_77 TT_78 TT_79 TT_80 TT_81 TT_82 TT_83 TT_84 TT_85 TT_86 TT_87 TT_88 TT_89 TT_90 TT_91 TT_92 TT_93 TT_95 TT_96 TT_97 TT_98 TT_99 TT_100 TT_101 TT_102 TT_104 TT_106 TT_107 TT_108 TT_109 TT_110 TT_111 TT_112 TT_113 TT_114 TT_115 TT_116 TT_118 TT_119 TT_121 TT_122 TT_123 TT_124 TT_126 TT_127 TT_128 TT_130 TT_132 TT_133 TT_135 TT_137 TT_138 TT_141 TT_142 TT_145 TT_146 TT_148 TT_149 TT_150 TT_151 TT_152 TT_153 TT_154 TT_155 TT_156 TT_157
theorem MX : Tryd.prog.follows .mixedOrders = true := by kernel_rfl
/-- The library's own variable MaxLen holds a number. -/
instance : Inhabited Glob := ⟨{ ok := fun w S => S 0 ∧ ∃ m : Int, w.cell? ⟨0, 0, none⟩ = some (.int .i64 m), lend := False, loc := fun w w' S h ⟨h0, m, hm⟩ => ⟨h0, m, by have := h 0 h0; simpa [World.cell?, this] using hm⟩ }⟩
instance : Inhabited NoLend := ⟨⟨fun h => h⟩⟩
end Go.Proofs.YtnhfakijgbkadaaDoor
