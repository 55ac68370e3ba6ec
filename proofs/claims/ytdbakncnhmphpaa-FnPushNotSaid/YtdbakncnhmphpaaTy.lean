/- The types of the translation, as the abstract logic has them: for each its form, its cells, its bytes and its zero value. Printed by a program from the translation; each row is proved from the loaded program's own facts. -/
import Derived.Test.YtdbakncnhmphpaaProg
import Derived.Test.YtdbakncnhmphpaaCoreD
namespace Go.Proofs.Ytdbakncnhmphpaa
open Go Go.AL
set_option maxRecDepth 100000

set_option maxRecDepth 100000 in
def tyT : Nat → TyI
  | 1 => ⟨Ty.func, 1, 8, none⟩
  | 2 => ⟨Ty.int .i64, 1, 8, some [.int .i64 0]⟩
  | 3 => ⟨Ty.int .i64, 1, 8, some [.int .i64 0]⟩
  | 4 => ⟨Ty.bool, 1, 1, some [.bool false]⟩
  | 5 => ⟨Ty.int .u8, 1, 1, some [.int .u8 0]⟩
  | 6 => ⟨Ty.int .u8, 1, 1, some [.int .u8 0]⟩
  | 7 => ⟨Ty.strct [(0, 2), (1, 3), (2, 4), (3, 6)], 4, 24, some [.int .i64 0, .int .i64 0, .bool false, .int .u8 0]⟩
  | 8 => ⟨Ty.strct [(0, 2), (1, 3), (2, 4), (3, 6)], 4, 24, some [.int .i64 0, .int .i64 0, .bool false, .int .u8 0]⟩
  | 9 => ⟨Ty.str, 1, 16, some [.str []]⟩
  | 10 => ⟨Ty.str, 1, 16, some [.str []]⟩
  | 11 => ⟨Ty.str, 1, 16, some [.str []]⟩
  | 12 => ⟨Ty.int .u64, 1, 8, some [.int .u64 0]⟩
  | 13 => ⟨Ty.strct [(0, 9), (1, 12)], 2, 24, some [.str [], .int .u64 0]⟩
  | 14 => ⟨Ty.strct [(0, 9), (1, 12)], 2, 24, some [.str [], .int .u64 0]⟩
  | 15 => ⟨Ty.ptr, 1, 8, none⟩
  | 16 => ⟨Ty.ptr, 1, 8, none⟩
  | 17 => ⟨Ty.ptr, 1, 8, none⟩
  | 18 => ⟨Ty.strct [(0, 17)], 1, 8, none⟩
  | 19 => ⟨Ty.strct [(0, 17)], 1, 8, none⟩
  | 20 => ⟨Ty.iface, 1, 16, none⟩
  | 21 => ⟨Ty.int .i32, 1, 4, some [.int .i32 0]⟩
  | 22 => ⟨Ty.slice 93, 1, 24, some [.sl 2 [] .full]⟩
  | 23 => ⟨Ty.strct [(0, 22), (1, 22)], 2, 48, some [.sl 2 [] .full, .sl 2 [] .full]⟩
  | 24 => ⟨Ty.strct [(0, 22), (1, 22)], 2, 48, some [.sl 2 [] .full, .sl 2 [] .full]⟩
  | 25 => ⟨Ty.slice 27, 1, 24, some [.sl 4 [] .full]⟩
  | 26 => ⟨Ty.strct [(0, 3), (1, 3), (2, 9), (3, 25)], 4, 56, some [.int .i64 0, .int .i64 0, .str [], .sl 4 [] .full]⟩
  | 27 => ⟨Ty.strct [(0, 3), (1, 3), (2, 9), (3, 25)], 4, 56, some [.int .i64 0, .int .i64 0, .str [], .sl 4 [] .full]⟩
  | 28 => ⟨Ty.func, 1, 8, none⟩
  | 29 => ⟨Ty.func, 1, 8, none⟩
  | 30 => ⟨Ty.slice 32, 1, 24, some [.sl 4 [] .full]⟩
  | 31 => ⟨Ty.strct [(0, 3), (1, 3), (2, 9), (3, 30)], 4, 56, some [.int .i64 0, .int .i64 0, .str [], .sl 4 [] .full]⟩
  | 32 => ⟨Ty.strct [(0, 3), (1, 3), (2, 9), (3, 30)], 4, 56, some [.int .i64 0, .int .i64 0, .str [], .sl 4 [] .full]⟩
  | 34 => ⟨Ty.func, 1, 8, none⟩
  | 35 => ⟨Ty.slice 96, 1, 24, some [.sl 2 [] .full]⟩
  | 36 => ⟨Ty.strct [(0, 35), (1, 35)], 2, 48, some [.sl 2 [] .full, .sl 2 [] .full]⟩
  | 37 => ⟨Ty.strct [(0, 35), (1, 35)], 2, 48, some [.sl 2 [] .full, .sl 2 [] .full]⟩
  | 38 => ⟨Ty.func, 1, 8, none⟩
  | 39 => ⟨Ty.func, 1, 8, none⟩
  | 40 => ⟨Ty.func, 1, 8, none⟩
  | 41 => ⟨Ty.func, 1, 8, none⟩
  | 42 => ⟨Ty.func, 1, 8, none⟩
  | 43 => ⟨Ty.func, 1, 8, none⟩
  | 44 => ⟨Ty.func, 1, 8, none⟩
  | 45 => ⟨Ty.slice 5, 1, 24, some [.sl 1 [] .full]⟩
  | 47 => ⟨Ty.func, 1, 8, none⟩
  | 48 => ⟨Ty.func, 1, 8, none⟩
  | 49 => ⟨Ty.slice 85, 1, 24, some [.sl 2 [] .full]⟩
  | 50 => ⟨Ty.slice 108, 1, 24, some [.sl 3 [] .full]⟩
  | 51 => ⟨Ty.strct [(0, 3), (1, 3), (2, 3), (3, 50)], 4, 48, some [.int .i64 0, .int .i64 0, .int .i64 0, .sl 3 [] .full]⟩
  | 52 => ⟨Ty.strct [(0, 3), (1, 3), (2, 3), (3, 50)], 4, 48, some [.int .i64 0, .int .i64 0, .int .i64 0, .sl 3 [] .full]⟩
  | 54 => ⟨Ty.func, 1, 8, none⟩
  | 55 => ⟨Ty.func, 1, 8, none⟩
  | 56 => ⟨Ty.func, 1, 8, none⟩
  | 57 => ⟨Ty.slice 52, 1, 24, some [.sl 4 [] .full]⟩
  | 58 => ⟨Ty.func, 1, 8, none⟩
  | 59 => ⟨Ty.func, 1, 8, none⟩
  | 60 => ⟨Ty.func, 1, 8, none⟩
  | 61 => ⟨Ty.func, 1, 8, none⟩
  | 62 => ⟨Ty.func, 1, 8, none⟩
  | 63 => ⟨Ty.func, 1, 8, none⟩
  | 64 => ⟨Ty.func, 1, 8, none⟩
  | 65 => ⟨Ty.func, 1, 8, none⟩
  | 66 => ⟨Ty.func, 1, 8, none⟩
  | 67 => ⟨Ty.func, 1, 8, none⟩
  | 68 => ⟨Ty.func, 1, 8, none⟩
  | 69 => ⟨Ty.func, 1, 8, none⟩
  | 70 => ⟨Ty.func, 1, 8, none⟩
  | 71 => ⟨Ty.func, 1, 8, none⟩
  | 72 => ⟨Ty.ptr, 1, 8, none⟩
  | 73 => ⟨Ty.func, 1, 8, none⟩
  | 74 => ⟨Ty.func, 1, 8, none⟩
  | 75 => ⟨Ty.func, 1, 8, none⟩
  | 76 => ⟨Ty.func, 1, 8, none⟩
  | 77 => ⟨Ty.func, 1, 8, none⟩
  | 78 => ⟨Ty.func, 1, 8, none⟩
  | 79 => ⟨Ty.func, 1, 8, none⟩
  | 80 => ⟨Ty.func, 1, 8, none⟩
  | 81 => ⟨Ty.func, 1, 8, none⟩
  | 82 => ⟨Ty.func, 1, 8, none⟩
  | 83 => ⟨Ty.slice 3, 1, 24, some [.sl 1 [] .full]⟩
  | 84 => ⟨Ty.strct [(0, 83), (1, 50)], 2, 48, some [.sl 1 [] .full, .sl 3 [] .full]⟩
  | 85 => ⟨Ty.strct [(0, 83), (1, 50)], 2, 48, some [.sl 1 [] .full, .sl 3 [] .full]⟩
  | 86 => ⟨Ty.func, 1, 8, none⟩
  | 87 => ⟨Ty.strct [(0, 3), (1, 3)], 2, 16, some [.int .i64 0, .int .i64 0]⟩
  | 88 => ⟨Ty.strct [(0, 3), (1, 3)], 2, 16, some [.int .i64 0, .int .i64 0]⟩
  | 90 => ⟨Ty.func, 1, 8, none⟩
  | 91 => ⟨Ty.func, 1, 8, none⟩
  | 92 => ⟨Ty.strct [(0, 9), (1, 3)], 2, 24, some [.str [], .int .i64 0]⟩
  | 93 => ⟨Ty.strct [(0, 9), (1, 3)], 2, 24, some [.str [], .int .i64 0]⟩
  | 94 => ⟨Ty.func, 1, 8, none⟩
  | 95 => ⟨Ty.func, 1, 8, none⟩
  | 96 => ⟨Ty.strct [(0, 9), (1, 3)], 2, 24, some [.str [], .int .i64 0]⟩
  | 97 => ⟨Ty.func, 1, 8, none⟩
  | 98 => ⟨Ty.func, 1, 8, none⟩
  | 99 => ⟨Ty.func, 1, 8, none⟩
  | 100 => ⟨Ty.func, 1, 8, none⟩
  | 101 => ⟨Ty.func, 1, 8, none⟩
  | 102 => ⟨Ty.func, 1, 8, none⟩
  | 103 => ⟨Ty.strct [(0, 45), (1, 3)], 2, 32, some [.sl 1 [] .full, .int .i64 0]⟩
  | 104 => ⟨Ty.strct [(0, 45), (1, 3)], 2, 32, some [.sl 1 [] .full, .int .i64 0]⟩
  | 105 => ⟨Ty.func, 1, 8, none⟩
  | 106 => ⟨Ty.func, 1, 8, none⟩
  | 107 => ⟨Ty.strct [(0, 9), (1, 88)], 3, 32, some [.str [], .int .i64 0, .int .i64 0]⟩
  | 108 => ⟨Ty.strct [(0, 9), (1, 88)], 3, 32, some [.str [], .int .i64 0, .int .i64 0]⟩
  | 109 => ⟨Ty.func, 1, 8, none⟩
  | 110 => ⟨Ty.func, 1, 8, none⟩
  | 111 => ⟨Ty.slice 35, 1, 24, some [.sl 1 [] .full]⟩
  | 112 => ⟨Ty.func, 1, 8, none⟩
  | 113 => ⟨Ty.func, 1, 8, none⟩
  | 114 => ⟨Ty.func, 1, 8, none⟩
  | 115 => ⟨Ty.func, 1, 8, none⟩
  | 116 => ⟨Ty.strct [(0, 49), (1, 52)], 5, 72, some [.sl 2 [] .full, .int .i64 0, .int .i64 0, .int .i64 0, .sl 3 [] .full]⟩
  | 117 => ⟨Ty.strct [(0, 49), (1, 52)], 5, 72, some [.sl 2 [] .full, .int .i64 0, .int .i64 0, .int .i64 0, .sl 3 [] .full]⟩
  | 118 => ⟨Ty.func, 1, 8, none⟩
  | 119 => ⟨Ty.func, 1, 8, none⟩
  | 121 => ⟨Ty.func, 1, 8, none⟩
  | 122 => ⟨Ty.func, 1, 8, none⟩
  | 123 => ⟨Ty.slice 9, 1, 24, some [.sl 1 [] .full]⟩
  | 124 => ⟨Ty.func, 1, 8, none⟩
  | 125 => ⟨Ty.slice 88, 1, 24, some [.sl 2 [] .full]⟩
  | 126 => ⟨Ty.map 9 4, 1, 8, none⟩
  | 127 => ⟨Ty.func, 1, 8, none⟩
  | 129 => ⟨Ty.func, 1, 8, none⟩
  | 130 => ⟨Ty.func, 1, 8, none⟩
  | 131 => ⟨Ty.func, 1, 8, none⟩
  | 133 => ⟨Ty.func, 1, 8, none⟩
  | 134 => ⟨Ty.func, 1, 8, none⟩
  | 135 => ⟨Ty.func, 1, 8, none⟩
  | 136 => ⟨Ty.func, 1, 8, none⟩
  | 137 => ⟨Ty.func, 1, 8, none⟩
  | 138 => ⟨Ty.strct [(0, 17), (1, 17), (2, 17), (3, 9)], 4, 40, none⟩
  | 139 => ⟨Ty.strct [(0, 17), (1, 17), (2, 17), (3, 9)], 4, 40, none⟩
  | 141 => ⟨Ty.strct [(0, 140)], 0, 0, none⟩
  | 142 => ⟨Ty.strct [(0, 140)], 0, 0, none⟩
  | 143 => ⟨Ty.func, 1, 8, none⟩
  | 144 => ⟨Ty.int .u32, 1, 4, some [.int .u32 0]⟩
  | 145 => ⟨Ty.int .u8, 1, 1, some [.int .u8 0]⟩
  | 146 => ⟨Ty.int .u8, 1, 1, some [.int .u8 0]⟩
  | 147 => ⟨Ty.func, 1, 8, none⟩
  | 148 => ⟨Ty.ptr, 1, 8, none⟩
  | 149 => ⟨Ty.int .i32, 1, 4, some [.int .i32 0]⟩
  | 150 => ⟨Ty.int .i32, 1, 4, some [.int .i32 0]⟩
  | 151 => ⟨Ty.strct [(0, 12), (1, 12), (2, 144), (3, 145), (4, 5), (5, 5), (6, 146), (7, 147), (8, 148), (9, 149), (10, 150)], 11, 48, none⟩
  | 152 => ⟨Ty.strct [(0, 12), (1, 12), (2, 144), (3, 145), (4, 5), (5, 5), (6, 146), (7, 147), (8, 148), (9, 149), (10, 150)], 11, 48, none⟩
  | _ => ⟨.other, 0, 0, none⟩

theorem tyOK1 : TyOK Try.prog 1 (tyT 1) := ⟨⟨_, _, _, Try.underlying1⟩, ⟨Try.t1, Try.type1, rfl, rfl, trivial⟩⟩
theorem tyOK2 : TyOK Try.prog 2 (tyT 2) := ⟨Try.underlying2, ⟨Try.t2, Try.type2, rfl, rfl, ⟨rfl, rfl, rfl, fun h => by first | rfl | cases h⟩⟩⟩
theorem tyOK3 : TyOK Try.prog 3 (tyT 3) := ⟨Try.underlying3, ⟨Try.t3, Try.type3, rfl, rfl, ⟨rfl, rfl, rfl, fun h => by first | rfl | cases h⟩⟩⟩
theorem tyOK4 : TyOK Try.prog 4 (tyT 4) := ⟨Try.underlying4, ⟨Try.t4, Try.type4, rfl, rfl, ⟨rfl, rfl, rfl, fun h => by first | rfl | cases h⟩⟩⟩
theorem tyOK5 : TyOK Try.prog 5 (tyT 5) := ⟨Try.underlying5, ⟨Try.t5, Try.type5, rfl, rfl, ⟨rfl, rfl, rfl, fun h => by first | rfl | cases h⟩⟩⟩
theorem tyOK6 : TyOK Try.prog 6 (tyT 6) := ⟨Try.underlying6, ⟨Try.t6, Try.type6, rfl, rfl, ⟨rfl, rfl, rfl, fun h => by first | rfl | cases h⟩⟩⟩
theorem tyOK7 : TyOK Try.prog 7 (tyT 7) := ⟨⟨_, Try.underlying7, rfl⟩, ⟨Try.t7, Try.type7, rfl, rfl, ⟨rfl, rfl, rfl, fun h => by first | rfl | cases h⟩⟩⟩
theorem tyOK8 : TyOK Try.prog 8 (tyT 8) := ⟨⟨_, Try.underlying8, rfl⟩, ⟨Try.t8, Try.type8, rfl, rfl, ⟨rfl, rfl, rfl, fun h => by first | rfl | cases h⟩⟩⟩
theorem tyOK9 : TyOK Try.prog 9 (tyT 9) := ⟨Try.underlying9, ⟨Try.t9, Try.type9, rfl, rfl, ⟨rfl, rfl, rfl, fun h => by first | rfl | cases h⟩⟩⟩
theorem tyOK10 : TyOK Try.prog 10 (tyT 10) := ⟨Try.underlying10, ⟨Try.t10, Try.type10, rfl, rfl, ⟨rfl, rfl, rfl, fun h => by first | rfl | cases h⟩⟩⟩
theorem tyOK11 : TyOK Try.prog 11 (tyT 11) := ⟨Try.underlying11, ⟨Try.t11, Try.type11, rfl, rfl, ⟨rfl, rfl, rfl, fun h => by first | rfl | cases h⟩⟩⟩
theorem tyOK12 : TyOK Try.prog 12 (tyT 12) := ⟨Try.underlying12, ⟨Try.t12, Try.type12, rfl, rfl, ⟨rfl, rfl, rfl, fun h => by first | rfl | cases h⟩⟩⟩
theorem tyOK13 : TyOK Try.prog 13 (tyT 13) := ⟨⟨_, Try.underlying13, rfl⟩, ⟨Try.t13, Try.type13, rfl, rfl, ⟨rfl, rfl, rfl, fun h => by first | rfl | cases h⟩⟩⟩
theorem tyOK14 : TyOK Try.prog 14 (tyT 14) := ⟨⟨_, Try.underlying14, rfl⟩, ⟨Try.t14, Try.type14, rfl, rfl, ⟨rfl, rfl, rfl, fun h => by first | rfl | cases h⟩⟩⟩
theorem tyOK15 : TyOK Try.prog 15 (tyT 15) := ⟨⟨_, Try.underlying15⟩, ⟨Try.t15, Try.type15, rfl, rfl, trivial⟩⟩
theorem tyOK16 : TyOK Try.prog 16 (tyT 16) := ⟨⟨_, Try.underlying16⟩, ⟨Try.t16, Try.type16, rfl, rfl, trivial⟩⟩
theorem tyOK17 : TyOK Try.prog 17 (tyT 17) := ⟨⟨_, Try.underlying17⟩, ⟨Try.t17, Try.type17, rfl, rfl, trivial⟩⟩
theorem tyOK18 : TyOK Try.prog 18 (tyT 18) := ⟨⟨_, Try.underlying18, rfl⟩, ⟨Try.t18, Try.type18, rfl, rfl, trivial⟩⟩
theorem tyOK19 : TyOK Try.prog 19 (tyT 19) := ⟨⟨_, Try.underlying19, rfl⟩, ⟨Try.t19, Try.type19, rfl, rfl, trivial⟩⟩
theorem tyOK20 : TyOK Try.prog 20 (tyT 20) := ⟨⟨_, Try.underlying20⟩, ⟨Try.t20, Try.type20, rfl, rfl, trivial⟩⟩
theorem tyOK21 : TyOK Try.prog 21 (tyT 21) := ⟨Try.underlying21, ⟨Try.t21, Try.type21, rfl, rfl, ⟨rfl, rfl, rfl, fun h => by first | rfl | cases h⟩⟩⟩
theorem tyOK22 : TyOK Try.prog 22 (tyT 22) := ⟨Try.underlying22, ⟨Try.t22, Try.type22, rfl, rfl, ⟨rfl, rfl, rfl, fun h => by first | rfl | cases h⟩⟩⟩
theorem tyOK23 : TyOK Try.prog 23 (tyT 23) := ⟨⟨_, Try.underlying23, rfl⟩, ⟨Try.t23, Try.type23, rfl, rfl, ⟨rfl, rfl, rfl, fun h => by first | rfl | cases h⟩⟩⟩
theorem tyOK24 : TyOK Try.prog 24 (tyT 24) := ⟨⟨_, Try.underlying24, rfl⟩, ⟨Try.t24, Try.type24, rfl, rfl, ⟨rfl, rfl, rfl, fun h => by first | rfl | cases h⟩⟩⟩
theorem tyOK25 : TyOK Try.prog 25 (tyT 25) := ⟨Try.underlying25, ⟨Try.t25, Try.type25, rfl, rfl, ⟨rfl, rfl, rfl, fun h => by first | rfl | cases h⟩⟩⟩
theorem tyOK26 : TyOK Try.prog 26 (tyT 26) := ⟨⟨_, Try.underlying26, rfl⟩, ⟨Try.t26, Try.type26, rfl, rfl, ⟨rfl, rfl, rfl, fun h => by first | rfl | cases h⟩⟩⟩
theorem tyOK27 : TyOK Try.prog 27 (tyT 27) := ⟨⟨_, Try.underlying27, rfl⟩, ⟨Try.t27, Try.type27, rfl, rfl, ⟨rfl, rfl, rfl, fun h => by first | rfl | cases h⟩⟩⟩
theorem tyOK28 : TyOK Try.prog 28 (tyT 28) := ⟨⟨_, _, _, Try.underlying28⟩, ⟨Try.t28, Try.type28, rfl, rfl, trivial⟩⟩
theorem tyOK29 : TyOK Try.prog 29 (tyT 29) := ⟨⟨_, _, _, Try.underlying29⟩, ⟨Try.t29, Try.type29, rfl, rfl, trivial⟩⟩
theorem tyOK30 : TyOK Try.prog 30 (tyT 30) := ⟨Try.underlying30, ⟨Try.t30, Try.type30, rfl, rfl, ⟨rfl, rfl, rfl, fun h => by first | rfl | cases h⟩⟩⟩
theorem tyOK31 : TyOK Try.prog 31 (tyT 31) := ⟨⟨_, Try.underlying31, rfl⟩, ⟨Try.t31, Try.type31, rfl, rfl, ⟨rfl, rfl, rfl, fun h => by first | rfl | cases h⟩⟩⟩
theorem tyOK32 : TyOK Try.prog 32 (tyT 32) := ⟨⟨_, Try.underlying32, rfl⟩, ⟨Try.t32, Try.type32, rfl, rfl, ⟨rfl, rfl, rfl, fun h => by first | rfl | cases h⟩⟩⟩
theorem tyOK34 : TyOK Try.prog 34 (tyT 34) := ⟨⟨_, _, _, Try.underlying34⟩, ⟨Try.t34, Try.type34, rfl, rfl, trivial⟩⟩
theorem tyOK35 : TyOK Try.prog 35 (tyT 35) := ⟨Try.underlying35, ⟨Try.t35, Try.type35, rfl, rfl, ⟨rfl, rfl, rfl, fun h => by first | rfl | cases h⟩⟩⟩
theorem tyOK36 : TyOK Try.prog 36 (tyT 36) := ⟨⟨_, Try.underlying36, rfl⟩, ⟨Try.t36, Try.type36, rfl, rfl, ⟨rfl, rfl, rfl, fun h => by first | rfl | cases h⟩⟩⟩
theorem tyOK37 : TyOK Try.prog 37 (tyT 37) := ⟨⟨_, Try.underlying37, rfl⟩, ⟨Try.t37, Try.type37, rfl, rfl, ⟨rfl, rfl, rfl, fun h => by first | rfl | cases h⟩⟩⟩
theorem tyOK38 : TyOK Try.prog 38 (tyT 38) := ⟨⟨_, _, _, Try.underlying38⟩, ⟨Try.t38, Try.type38, rfl, rfl, trivial⟩⟩
theorem tyOK39 : TyOK Try.prog 39 (tyT 39) := ⟨⟨_, _, _, Try.underlying39⟩, ⟨Try.t39, Try.type39, rfl, rfl, trivial⟩⟩
theorem tyOK40 : TyOK Try.prog 40 (tyT 40) := ⟨⟨_, _, _, Try.underlying40⟩, ⟨Try.t40, Try.type40, rfl, rfl, trivial⟩⟩
theorem tyOK41 : TyOK Try.prog 41 (tyT 41) := ⟨⟨_, _, _, Try.underlying41⟩, ⟨Try.t41, Try.type41, rfl, rfl, trivial⟩⟩
theorem tyOK42 : TyOK Try.prog 42 (tyT 42) := ⟨⟨_, _, _, Try.underlying42⟩, ⟨Try.t42, Try.type42, rfl, rfl, trivial⟩⟩
theorem tyOK43 : TyOK Try.prog 43 (tyT 43) := ⟨⟨_, _, _, Try.underlying43⟩, ⟨Try.t43, Try.type43, rfl, rfl, trivial⟩⟩
theorem tyOK44 : TyOK Try.prog 44 (tyT 44) := ⟨⟨_, _, _, Try.underlying44⟩, ⟨Try.t44, Try.type44, rfl, rfl, trivial⟩⟩
theorem tyOK45 : TyOK Try.prog 45 (tyT 45) := ⟨Try.underlying45, ⟨Try.t45, Try.type45, rfl, rfl, ⟨rfl, rfl, rfl, fun h => by first | rfl | cases h⟩⟩⟩
theorem tyOK47 : TyOK Try.prog 47 (tyT 47) := ⟨⟨_, _, _, Try.underlying47⟩, ⟨Try.t47, Try.type47, rfl, rfl, trivial⟩⟩
theorem tyOK48 : TyOK Try.prog 48 (tyT 48) := ⟨⟨_, _, _, Try.underlying48⟩, ⟨Try.t48, Try.type48, rfl, rfl, trivial⟩⟩
theorem tyOK49 : TyOK Try.prog 49 (tyT 49) := ⟨Try.underlying49, ⟨Try.t49, Try.type49, rfl, rfl, ⟨rfl, rfl, rfl, fun h => by first | rfl | cases h⟩⟩⟩
theorem tyOK50 : TyOK Try.prog 50 (tyT 50) := ⟨Try.underlying50, ⟨Try.t50, Try.type50, rfl, rfl, ⟨rfl, rfl, rfl, fun h => by first | rfl | cases h⟩⟩⟩
theorem tyOK51 : TyOK Try.prog 51 (tyT 51) := ⟨⟨_, Try.underlying51, rfl⟩, ⟨Try.t51, Try.type51, rfl, rfl, ⟨rfl, rfl, rfl, fun h => by first | rfl | cases h⟩⟩⟩
theorem tyOK52 : TyOK Try.prog 52 (tyT 52) := ⟨⟨_, Try.underlying52, rfl⟩, ⟨Try.t52, Try.type52, rfl, rfl, ⟨rfl, rfl, rfl, fun h => by first | rfl | cases h⟩⟩⟩
theorem tyOK54 : TyOK Try.prog 54 (tyT 54) := ⟨⟨_, _, _, Try.underlying54⟩, ⟨Try.t54, Try.type54, rfl, rfl, trivial⟩⟩
theorem tyOK55 : TyOK Try.prog 55 (tyT 55) := ⟨⟨_, _, _, Try.underlying55⟩, ⟨Try.t55, Try.type55, rfl, rfl, trivial⟩⟩
theorem tyOK56 : TyOK Try.prog 56 (tyT 56) := ⟨⟨_, _, _, Try.underlying56⟩, ⟨Try.t56, Try.type56, rfl, rfl, trivial⟩⟩
theorem tyOK57 : TyOK Try.prog 57 (tyT 57) := ⟨Try.underlying57, ⟨Try.t57, Try.type57, rfl, rfl, ⟨rfl, rfl, rfl, fun h => by first | rfl | cases h⟩⟩⟩
theorem tyOK58 : TyOK Try.prog 58 (tyT 58) := ⟨⟨_, _, _, Try.underlying58⟩, ⟨Try.t58, Try.type58, rfl, rfl, trivial⟩⟩
theorem tyOK59 : TyOK Try.prog 59 (tyT 59) := ⟨⟨_, _, _, Try.underlying59⟩, ⟨Try.t59, Try.type59, rfl, rfl, trivial⟩⟩
theorem tyOK60 : TyOK Try.prog 60 (tyT 60) := ⟨⟨_, _, _, Try.underlying60⟩, ⟨Try.t60, Try.type60, rfl, rfl, trivial⟩⟩
theorem tyOK61 : TyOK Try.prog 61 (tyT 61) := ⟨⟨_, _, _, Try.underlying61⟩, ⟨Try.t61, Try.type61, rfl, rfl, trivial⟩⟩
theorem tyOK62 : TyOK Try.prog 62 (tyT 62) := ⟨⟨_, _, _, Try.underlying62⟩, ⟨Try.t62, Try.type62, rfl, rfl, trivial⟩⟩
theorem tyOK63 : TyOK Try.prog 63 (tyT 63) := ⟨⟨_, _, _, Try.underlying63⟩, ⟨Try.t63, Try.type63, rfl, rfl, trivial⟩⟩
theorem tyOK64 : TyOK Try.prog 64 (tyT 64) := ⟨⟨_, _, _, Try.underlying64⟩, ⟨Try.t64, Try.type64, rfl, rfl, trivial⟩⟩
theorem tyOK65 : TyOK Try.prog 65 (tyT 65) := ⟨⟨_, _, _, Try.underlying65⟩, ⟨Try.t65, Try.type65, rfl, rfl, trivial⟩⟩
theorem tyOK66 : TyOK Try.prog 66 (tyT 66) := ⟨⟨_, _, _, Try.underlying66⟩, ⟨Try.t66, Try.type66, rfl, rfl, trivial⟩⟩
theorem tyOK67 : TyOK Try.prog 67 (tyT 67) := ⟨⟨_, _, _, Try.underlying67⟩, ⟨Try.t67, Try.type67, rfl, rfl, trivial⟩⟩
theorem tyOK68 : TyOK Try.prog 68 (tyT 68) := ⟨⟨_, _, _, Try.underlying68⟩, ⟨Try.t68, Try.type68, rfl, rfl, trivial⟩⟩
theorem tyOK69 : TyOK Try.prog 69 (tyT 69) := ⟨⟨_, _, _, Try.underlying69⟩, ⟨Try.t69, Try.type69, rfl, rfl, trivial⟩⟩
theorem tyOK70 : TyOK Try.prog 70 (tyT 70) := ⟨⟨_, _, _, Try.underlying70⟩, ⟨Try.t70, Try.type70, rfl, rfl, trivial⟩⟩
theorem tyOK71 : TyOK Try.prog 71 (tyT 71) := ⟨⟨_, _, _, Try.underlying71⟩, ⟨Try.t71, Try.type71, rfl, rfl, trivial⟩⟩
theorem tyOK72 : TyOK Try.prog 72 (tyT 72) := ⟨⟨_, Try.underlying72⟩, ⟨Try.t72, Try.type72, rfl, rfl, trivial⟩⟩
theorem tyOK73 : TyOK Try.prog 73 (tyT 73) := ⟨⟨_, _, _, Try.underlying73⟩, ⟨Try.t73, Try.type73, rfl, rfl, trivial⟩⟩
theorem tyOK74 : TyOK Try.prog 74 (tyT 74) := ⟨⟨_, _, _, Try.underlying74⟩, ⟨Try.t74, Try.type74, rfl, rfl, trivial⟩⟩
theorem tyOK75 : TyOK Try.prog 75 (tyT 75) := ⟨⟨_, _, _, Try.underlying75⟩, ⟨Try.t75, Try.type75, rfl, rfl, trivial⟩⟩
theorem tyOK76 : TyOK Try.prog 76 (tyT 76) := ⟨⟨_, _, _, Try.underlying76⟩, ⟨Try.t76, Try.type76, rfl, rfl, trivial⟩⟩
theorem tyOK77 : TyOK Try.prog 77 (tyT 77) := ⟨⟨_, _, _, Try.underlying77⟩, ⟨Try.t77, Try.type77, rfl, rfl, trivial⟩⟩
theorem tyOK78 : TyOK Try.prog 78 (tyT 78) := ⟨⟨_, _, _, Try.underlying78⟩, ⟨Try.t78, Try.type78, rfl, rfl, trivial⟩⟩
theorem tyOK79 : TyOK Try.prog 79 (tyT 79) := ⟨⟨_, _, _, Try.underlying79⟩, ⟨Try.t79, Try.type79, rfl, rfl, trivial⟩⟩
theorem tyOK80 : TyOK Try.prog 80 (tyT 80) := ⟨⟨_, _, _, Try.underlying80⟩, ⟨Try.t80, Try.type80, rfl, rfl, trivial⟩⟩
theorem tyOK81 : TyOK Try.prog 81 (tyT 81) := ⟨⟨_, _, _, Try.underlying81⟩, ⟨Try.t81, Try.type81, rfl, rfl, trivial⟩⟩
theorem tyOK82 : TyOK Try.prog 82 (tyT 82) := ⟨⟨_, _, _, Try.underlying82⟩, ⟨Try.t82, Try.type82, rfl, rfl, trivial⟩⟩
theorem tyOK83 : TyOK Try.prog 83 (tyT 83) := ⟨Try.underlying83, ⟨Try.t83, Try.type83, rfl, rfl, ⟨rfl, rfl, rfl, fun h => by first | rfl | cases h⟩⟩⟩
theorem tyOK84 : TyOK Try.prog 84 (tyT 84) := ⟨⟨_, Try.underlying84, rfl⟩, ⟨Try.t84, Try.type84, rfl, rfl, ⟨rfl, rfl, rfl, fun h => by first | rfl | cases h⟩⟩⟩
theorem tyOK85 : TyOK Try.prog 85 (tyT 85) := ⟨⟨_, Try.underlying85, rfl⟩, ⟨Try.t85, Try.type85, rfl, rfl, ⟨rfl, rfl, rfl, fun h => by first | rfl | cases h⟩⟩⟩
theorem tyOK86 : TyOK Try.prog 86 (tyT 86) := ⟨⟨_, _, _, Try.underlying86⟩, ⟨Try.t86, Try.type86, rfl, rfl, trivial⟩⟩
theorem tyOK87 : TyOK Try.prog 87 (tyT 87) := ⟨⟨_, Try.underlying87, rfl⟩, ⟨Try.t87, Try.type87, rfl, rfl, ⟨rfl, rfl, rfl, fun h => by first | rfl | cases h⟩⟩⟩
theorem tyOK88 : TyOK Try.prog 88 (tyT 88) := ⟨⟨_, Try.underlying88, rfl⟩, ⟨Try.t88, Try.type88, rfl, rfl, ⟨rfl, rfl, rfl, fun h => by first | rfl | cases h⟩⟩⟩
theorem tyOK90 : TyOK Try.prog 90 (tyT 90) := ⟨⟨_, _, _, Try.underlying90⟩, ⟨Try.t90, Try.type90, rfl, rfl, trivial⟩⟩
theorem tyOK91 : TyOK Try.prog 91 (tyT 91) := ⟨⟨_, _, _, Try.underlying91⟩, ⟨Try.t91, Try.type91, rfl, rfl, trivial⟩⟩
theorem tyOK92 : TyOK Try.prog 92 (tyT 92) := ⟨⟨_, Try.underlying92, rfl⟩, ⟨Try.t92, Try.type92, rfl, rfl, ⟨rfl, rfl, rfl, fun h => by first | rfl | cases h⟩⟩⟩
theorem tyOK93 : TyOK Try.prog 93 (tyT 93) := ⟨⟨_, Try.underlying93, rfl⟩, ⟨Try.t93, Try.type93, rfl, rfl, ⟨rfl, rfl, rfl, fun h => by first | rfl | cases h⟩⟩⟩
theorem tyOK94 : TyOK Try.prog 94 (tyT 94) := ⟨⟨_, _, _, Try.underlying94⟩, ⟨Try.t94, Try.type94, rfl, rfl, trivial⟩⟩
theorem tyOK95 : TyOK Try.prog 95 (tyT 95) := ⟨⟨_, _, _, Try.underlying95⟩, ⟨Try.t95, Try.type95, rfl, rfl, trivial⟩⟩
theorem tyOK96 : TyOK Try.prog 96 (tyT 96) := ⟨⟨_, Try.underlying96, rfl⟩, ⟨Try.t96, Try.type96, rfl, rfl, ⟨rfl, rfl, rfl, fun h => by first | rfl | cases h⟩⟩⟩
theorem tyOK97 : TyOK Try.prog 97 (tyT 97) := ⟨⟨_, _, _, Try.underlying97⟩, ⟨Try.t97, Try.type97, rfl, rfl, trivial⟩⟩
theorem tyOK98 : TyOK Try.prog 98 (tyT 98) := ⟨⟨_, _, _, Try.underlying98⟩, ⟨Try.t98, Try.type98, rfl, rfl, trivial⟩⟩
theorem tyOK99 : TyOK Try.prog 99 (tyT 99) := ⟨⟨_, _, _, Try.underlying99⟩, ⟨Try.t99, Try.type99, rfl, rfl, trivial⟩⟩
theorem tyOK100 : TyOK Try.prog 100 (tyT 100) := ⟨⟨_, _, _, Try.underlying100⟩, ⟨Try.t100, Try.type100, rfl, rfl, trivial⟩⟩
theorem tyOK101 : TyOK Try.prog 101 (tyT 101) := ⟨⟨_, _, _, Try.underlying101⟩, ⟨Try.t101, Try.type101, rfl, rfl, trivial⟩⟩
theorem tyOK102 : TyOK Try.prog 102 (tyT 102) := ⟨⟨_, _, _, Try.underlying102⟩, ⟨Try.t102, Try.type102, rfl, rfl, trivial⟩⟩
theorem tyOK103 : TyOK Try.prog 103 (tyT 103) := ⟨⟨_, Try.underlying103, rfl⟩, ⟨Try.t103, Try.type103, rfl, rfl, ⟨rfl, rfl, rfl, fun h => by first | rfl | cases h⟩⟩⟩
theorem tyOK104 : TyOK Try.prog 104 (tyT 104) := ⟨⟨_, Try.underlying104, rfl⟩, ⟨Try.t104, Try.type104, rfl, rfl, ⟨rfl, rfl, rfl, fun h => by first | rfl | cases h⟩⟩⟩
theorem tyOK105 : TyOK Try.prog 105 (tyT 105) := ⟨⟨_, _, _, Try.underlying105⟩, ⟨Try.t105, Try.type105, rfl, rfl, trivial⟩⟩
theorem tyOK106 : TyOK Try.prog 106 (tyT 106) := ⟨⟨_, _, _, Try.underlying106⟩, ⟨Try.t106, Try.type106, rfl, rfl, trivial⟩⟩
theorem tyOK107 : TyOK Try.prog 107 (tyT 107) := ⟨⟨_, Try.underlying107, rfl⟩, ⟨Try.t107, Try.type107, rfl, rfl, ⟨rfl, rfl, rfl, fun h => by first | rfl | cases h⟩⟩⟩
theorem tyOK108 : TyOK Try.prog 108 (tyT 108) := ⟨⟨_, Try.underlying108, rfl⟩, ⟨Try.t108, Try.type108, rfl, rfl, ⟨rfl, rfl, rfl, fun h => by first | rfl | cases h⟩⟩⟩
theorem tyOK109 : TyOK Try.prog 109 (tyT 109) := ⟨⟨_, _, _, Try.underlying109⟩, ⟨Try.t109, Try.type109, rfl, rfl, trivial⟩⟩
theorem tyOK110 : TyOK Try.prog 110 (tyT 110) := ⟨⟨_, _, _, Try.underlying110⟩, ⟨Try.t110, Try.type110, rfl, rfl, trivial⟩⟩
theorem tyOK111 : TyOK Try.prog 111 (tyT 111) := ⟨Try.underlying111, ⟨Try.t111, Try.type111, rfl, rfl, ⟨rfl, rfl, rfl, fun h => by first | rfl | cases h⟩⟩⟩
theorem tyOK112 : TyOK Try.prog 112 (tyT 112) := ⟨⟨_, _, _, Try.underlying112⟩, ⟨Try.t112, Try.type112, rfl, rfl, trivial⟩⟩
theorem tyOK113 : TyOK Try.prog 113 (tyT 113) := ⟨⟨_, _, _, Try.underlying113⟩, ⟨Try.t113, Try.type113, rfl, rfl, trivial⟩⟩
theorem tyOK114 : TyOK Try.prog 114 (tyT 114) := ⟨⟨_, _, _, Try.underlying114⟩, ⟨Try.t114, Try.type114, rfl, rfl, trivial⟩⟩
theorem tyOK115 : TyOK Try.prog 115 (tyT 115) := ⟨⟨_, _, _, Try.underlying115⟩, ⟨Try.t115, Try.type115, rfl, rfl, trivial⟩⟩
theorem tyOK116 : TyOK Try.prog 116 (tyT 116) := ⟨⟨_, Try.underlying116, rfl⟩, ⟨Try.t116, Try.type116, rfl, rfl, ⟨rfl, rfl, rfl, fun h => by first | rfl | cases h⟩⟩⟩
theorem tyOK117 : TyOK Try.prog 117 (tyT 117) := ⟨⟨_, Try.underlying117, rfl⟩, ⟨Try.t117, Try.type117, rfl, rfl, ⟨rfl, rfl, rfl, fun h => by first | rfl | cases h⟩⟩⟩
theorem tyOK118 : TyOK Try.prog 118 (tyT 118) := ⟨⟨_, _, _, Try.underlying118⟩, ⟨Try.t118, Try.type118, rfl, rfl, trivial⟩⟩
theorem tyOK119 : TyOK Try.prog 119 (tyT 119) := ⟨⟨_, _, _, Try.underlying119⟩, ⟨Try.t119, Try.type119, rfl, rfl, trivial⟩⟩
theorem tyOK121 : TyOK Try.prog 121 (tyT 121) := ⟨⟨_, _, _, Try.underlying121⟩, ⟨Try.t121, Try.type121, rfl, rfl, trivial⟩⟩
theorem tyOK122 : TyOK Try.prog 122 (tyT 122) := ⟨⟨_, _, _, Try.underlying122⟩, ⟨Try.t122, Try.type122, rfl, rfl, trivial⟩⟩
theorem tyOK123 : TyOK Try.prog 123 (tyT 123) := ⟨Try.underlying123, ⟨Try.t123, Try.type123, rfl, rfl, ⟨rfl, rfl, rfl, fun h => by first | rfl | cases h⟩⟩⟩
theorem tyOK124 : TyOK Try.prog 124 (tyT 124) := ⟨⟨_, _, _, Try.underlying124⟩, ⟨Try.t124, Try.type124, rfl, rfl, trivial⟩⟩
theorem tyOK125 : TyOK Try.prog 125 (tyT 125) := ⟨Try.underlying125, ⟨Try.t125, Try.type125, rfl, rfl, ⟨rfl, rfl, rfl, fun h => by first | rfl | cases h⟩⟩⟩
theorem tyOK126 : TyOK Try.prog 126 (tyT 126) := ⟨Try.underlying126, ⟨Try.t126, Try.type126, rfl, rfl, trivial⟩⟩
theorem tyOK127 : TyOK Try.prog 127 (tyT 127) := ⟨⟨_, _, _, Try.underlying127⟩, ⟨Try.t127, Try.type127, rfl, rfl, trivial⟩⟩
theorem tyOK129 : TyOK Try.prog 129 (tyT 129) := ⟨⟨_, _, _, Try.underlying129⟩, ⟨Try.t129, Try.type129, rfl, rfl, trivial⟩⟩
theorem tyOK130 : TyOK Try.prog 130 (tyT 130) := ⟨⟨_, _, _, Try.underlying130⟩, ⟨Try.t130, Try.type130, rfl, rfl, trivial⟩⟩
theorem tyOK131 : TyOK Try.prog 131 (tyT 131) := ⟨⟨_, _, _, Try.underlying131⟩, ⟨Try.t131, Try.type131, rfl, rfl, trivial⟩⟩
theorem tyOK133 : TyOK Try.prog 133 (tyT 133) := ⟨⟨_, _, _, Try.underlying133⟩, ⟨Try.t133, Try.type133, rfl, rfl, trivial⟩⟩
theorem tyOK134 : TyOK Try.prog 134 (tyT 134) := ⟨⟨_, _, _, Try.underlying134⟩, ⟨Try.t134, Try.type134, rfl, rfl, trivial⟩⟩
theorem tyOK135 : TyOK Try.prog 135 (tyT 135) := ⟨⟨_, _, _, Try.underlying135⟩, ⟨Try.t135, Try.type135, rfl, rfl, trivial⟩⟩
theorem tyOK136 : TyOK Try.prog 136 (tyT 136) := ⟨⟨_, _, _, Try.underlying136⟩, ⟨Try.t136, Try.type136, rfl, rfl, trivial⟩⟩
theorem tyOK137 : TyOK Try.prog 137 (tyT 137) := ⟨⟨_, _, _, Try.underlying137⟩, ⟨Try.t137, Try.type137, rfl, rfl, trivial⟩⟩
theorem tyOK138 : TyOK Try.prog 138 (tyT 138) := ⟨⟨_, Try.underlying138, rfl⟩, ⟨Try.t138, Try.type138, rfl, rfl, trivial⟩⟩
theorem tyOK139 : TyOK Try.prog 139 (tyT 139) := ⟨⟨_, Try.underlying139, rfl⟩, ⟨Try.t139, Try.type139, rfl, rfl, trivial⟩⟩
theorem tyOK141 : TyOK Try.prog 141 (tyT 141) := ⟨⟨_, Try.underlying141, rfl⟩, ⟨Try.t141, Try.type141, rfl, rfl, trivial⟩⟩
theorem tyOK142 : TyOK Try.prog 142 (tyT 142) := ⟨⟨_, Try.underlying142, rfl⟩, ⟨Try.t142, Try.type142, rfl, rfl, trivial⟩⟩
theorem tyOK143 : TyOK Try.prog 143 (tyT 143) := ⟨⟨_, _, _, Try.underlying143⟩, ⟨Try.t143, Try.type143, rfl, rfl, trivial⟩⟩
theorem tyOK144 : TyOK Try.prog 144 (tyT 144) := ⟨Try.underlying144, ⟨Try.t144, Try.type144, rfl, rfl, ⟨rfl, rfl, rfl, fun h => by first | rfl | cases h⟩⟩⟩
theorem tyOK145 : TyOK Try.prog 145 (tyT 145) := ⟨Try.underlying145, ⟨Try.t145, Try.type145, rfl, rfl, ⟨rfl, rfl, rfl, fun h => by first | rfl | cases h⟩⟩⟩
theorem tyOK146 : TyOK Try.prog 146 (tyT 146) := ⟨Try.underlying146, ⟨Try.t146, Try.type146, rfl, rfl, ⟨rfl, rfl, rfl, fun h => by first | rfl | cases h⟩⟩⟩
theorem tyOK147 : TyOK Try.prog 147 (tyT 147) := ⟨⟨_, _, _, Try.underlying147⟩, ⟨Try.t147, Try.type147, rfl, rfl, trivial⟩⟩
theorem tyOK148 : TyOK Try.prog 148 (tyT 148) := ⟨⟨_, Try.underlying148⟩, ⟨Try.t148, Try.type148, rfl, rfl, trivial⟩⟩
theorem tyOK149 : TyOK Try.prog 149 (tyT 149) := ⟨Try.underlying149, ⟨Try.t149, Try.type149, rfl, rfl, ⟨rfl, rfl, rfl, fun h => by first | rfl | cases h⟩⟩⟩
theorem tyOK150 : TyOK Try.prog 150 (tyT 150) := ⟨Try.underlying150, ⟨Try.t150, Try.type150, rfl, rfl, ⟨rfl, rfl, rfl, fun h => by first | rfl | cases h⟩⟩⟩
theorem tyOK151 : TyOK Try.prog 151 (tyT 151) := ⟨⟨_, Try.underlying151, rfl⟩, ⟨Try.t151, Try.type151, rfl, rfl, trivial⟩⟩
theorem tyOK152 : TyOK Try.prog 152 (tyT 152) := ⟨⟨_, Try.underlying152, rfl⟩, ⟨Try.t152, Try.type152, rfl, rfl, trivial⟩⟩

set_option maxRecDepth 100000 in
theorem tyOK : ∀ n, TyOK Try.prog n (tyT n) := by
  intro n
  unfold tyT
  split
  · exact tyOK1
  · exact tyOK2
  · exact tyOK3
  · exact tyOK4
  · exact tyOK5
  · exact tyOK6
  · exact tyOK7
  · exact tyOK8
  · exact tyOK9
  · exact tyOK10
  · exact tyOK11
  · exact tyOK12
  · exact tyOK13
  · exact tyOK14
  · exact tyOK15
  · exact tyOK16
  · exact tyOK17
  · exact tyOK18
  · exact tyOK19
  · exact tyOK20
  · exact tyOK21
  · exact tyOK22
  · exact tyOK23
  · exact tyOK24
  · exact tyOK25
  · exact tyOK26
  · exact tyOK27
  · exact tyOK28
  · exact tyOK29
  · exact tyOK30
  · exact tyOK31
  · exact tyOK32
  · exact tyOK34
  · exact tyOK35
  · exact tyOK36
  · exact tyOK37
  · exact tyOK38
  · exact tyOK39
  · exact tyOK40
  · exact tyOK41
  · exact tyOK42
  · exact tyOK43
  · exact tyOK44
  · exact tyOK45
  · exact tyOK47
  · exact tyOK48
  · exact tyOK49
  · exact tyOK50
  · exact tyOK51
  · exact tyOK52
  · exact tyOK54
  · exact tyOK55
  · exact tyOK56
  · exact tyOK57
  · exact tyOK58
  · exact tyOK59
  · exact tyOK60
  · exact tyOK61
  · exact tyOK62
  · exact tyOK63
  · exact tyOK64
  · exact tyOK65
  · exact tyOK66
  · exact tyOK67
  · exact tyOK68
  · exact tyOK69
  · exact tyOK70
  · exact tyOK71
  · exact tyOK72
  · exact tyOK73
  · exact tyOK74
  · exact tyOK75
  · exact tyOK76
  · exact tyOK77
  · exact tyOK78
  · exact tyOK79
  · exact tyOK80
  · exact tyOK81
  · exact tyOK82
  · exact tyOK83
  · exact tyOK84
  · exact tyOK85
  · exact tyOK86
  · exact tyOK87
  · exact tyOK88
  · exact tyOK90
  · exact tyOK91
  · exact tyOK92
  · exact tyOK93
  · exact tyOK94
  · exact tyOK95
  · exact tyOK96
  · exact tyOK97
  · exact tyOK98
  · exact tyOK99
  · exact tyOK100
  · exact tyOK101
  · exact tyOK102
  · exact tyOK103
  · exact tyOK104
  · exact tyOK105
  · exact tyOK106
  · exact tyOK107
  · exact tyOK108
  · exact tyOK109
  · exact tyOK110
  · exact tyOK111
  · exact tyOK112
  · exact tyOK113
  · exact tyOK114
  · exact tyOK115
  · exact tyOK116
  · exact tyOK117
  · exact tyOK118
  · exact tyOK119
  · exact tyOK121
  · exact tyOK122
  · exact tyOK123
  · exact tyOK124
  · exact tyOK125
  · exact tyOK126
  · exact tyOK127
  · exact tyOK129
  · exact tyOK130
  · exact tyOK131
  · exact tyOK133
  · exact tyOK134
  · exact tyOK135
  · exact tyOK136
  · exact tyOK137
  · exact tyOK138
  · exact tyOK139
  · exact tyOK141
  · exact tyOK142
  · exact tyOK143
  · exact tyOK144
  · exact tyOK145
  · exact tyOK146
  · exact tyOK147
  · exact tyOK148
  · exact tyOK149
  · exact tyOK150
  · exact tyOK151
  · exact tyOK152
  · exact ⟨trivial, trivial⟩

def TT : Tab Try.prog := ⟨tyT, tyOK⟩

theorem TT_1 : TT.T 1 = ⟨Ty.func, 1, 8, none⟩ := rfl
theorem TT_2 : TT.T 2 = ⟨Ty.int .i64, 1, 8, some [.int .i64 0]⟩ := rfl
theorem TT_3 : TT.T 3 = ⟨Ty.int .i64, 1, 8, some [.int .i64 0]⟩ := rfl
theorem TT_4 : TT.T 4 = ⟨Ty.bool, 1, 1, some [.bool false]⟩ := rfl
theorem TT_5 : TT.T 5 = ⟨Ty.int .u8, 1, 1, some [.int .u8 0]⟩ := rfl
theorem TT_6 : TT.T 6 = ⟨Ty.int .u8, 1, 1, some [.int .u8 0]⟩ := rfl
theorem TT_7 : TT.T 7 = ⟨Ty.strct [(0, 2), (1, 3), (2, 4), (3, 6)], 4, 24, some [.int .i64 0, .int .i64 0, .bool false, .int .u8 0]⟩ := rfl
theorem TT_8 : TT.T 8 = ⟨Ty.strct [(0, 2), (1, 3), (2, 4), (3, 6)], 4, 24, some [.int .i64 0, .int .i64 0, .bool false, .int .u8 0]⟩ := rfl
theorem TT_9 : TT.T 9 = ⟨Ty.str, 1, 16, some [.str []]⟩ := rfl
theorem TT_10 : TT.T 10 = ⟨Ty.str, 1, 16, some [.str []]⟩ := rfl
theorem TT_11 : TT.T 11 = ⟨Ty.str, 1, 16, some [.str []]⟩ := rfl
theorem TT_12 : TT.T 12 = ⟨Ty.int .u64, 1, 8, some [.int .u64 0]⟩ := rfl
theorem TT_13 : TT.T 13 = ⟨Ty.strct [(0, 9), (1, 12)], 2, 24, some [.str [], .int .u64 0]⟩ := rfl
theorem TT_14 : TT.T 14 = ⟨Ty.strct [(0, 9), (1, 12)], 2, 24, some [.str [], .int .u64 0]⟩ := rfl
theorem TT_15 : TT.T 15 = ⟨Ty.ptr, 1, 8, none⟩ := rfl
theorem TT_16 : TT.T 16 = ⟨Ty.ptr, 1, 8, none⟩ := rfl
theorem TT_17 : TT.T 17 = ⟨Ty.ptr, 1, 8, none⟩ := rfl
theorem TT_18 : TT.T 18 = ⟨Ty.strct [(0, 17)], 1, 8, none⟩ := rfl
theorem TT_19 : TT.T 19 = ⟨Ty.strct [(0, 17)], 1, 8, none⟩ := rfl
theorem TT_20 : TT.T 20 = ⟨Ty.iface, 1, 16, none⟩ := rfl
theorem TT_21 : TT.T 21 = ⟨Ty.int .i32, 1, 4, some [.int .i32 0]⟩ := rfl
theorem TT_22 : TT.T 22 = ⟨Ty.slice 93, 1, 24, some [.sl 2 [] .full]⟩ := rfl
theorem TT_23 : TT.T 23 = ⟨Ty.strct [(0, 22), (1, 22)], 2, 48, some [.sl 2 [] .full, .sl 2 [] .full]⟩ := rfl
theorem TT_24 : TT.T 24 = ⟨Ty.strct [(0, 22), (1, 22)], 2, 48, some [.sl 2 [] .full, .sl 2 [] .full]⟩ := rfl
theorem TT_25 : TT.T 25 = ⟨Ty.slice 27, 1, 24, some [.sl 4 [] .full]⟩ := rfl
theorem TT_26 : TT.T 26 = ⟨Ty.strct [(0, 3), (1, 3), (2, 9), (3, 25)], 4, 56, some [.int .i64 0, .int .i64 0, .str [], .sl 4 [] .full]⟩ := rfl
theorem TT_27 : TT.T 27 = ⟨Ty.strct [(0, 3), (1, 3), (2, 9), (3, 25)], 4, 56, some [.int .i64 0, .int .i64 0, .str [], .sl 4 [] .full]⟩ := rfl
theorem TT_28 : TT.T 28 = ⟨Ty.func, 1, 8, none⟩ := rfl
theorem TT_29 : TT.T 29 = ⟨Ty.func, 1, 8, none⟩ := rfl
theorem TT_30 : TT.T 30 = ⟨Ty.slice 32, 1, 24, some [.sl 4 [] .full]⟩ := rfl
theorem TT_31 : TT.T 31 = ⟨Ty.strct [(0, 3), (1, 3), (2, 9), (3, 30)], 4, 56, some [.int .i64 0, .int .i64 0, .str [], .sl 4 [] .full]⟩ := rfl
theorem TT_32 : TT.T 32 = ⟨Ty.strct [(0, 3), (1, 3), (2, 9), (3, 30)], 4, 56, some [.int .i64 0, .int .i64 0, .str [], .sl 4 [] .full]⟩ := rfl
theorem TT_34 : TT.T 34 = ⟨Ty.func, 1, 8, none⟩ := rfl
theorem TT_35 : TT.T 35 = ⟨Ty.slice 96, 1, 24, some [.sl 2 [] .full]⟩ := rfl
theorem TT_36 : TT.T 36 = ⟨Ty.strct [(0, 35), (1, 35)], 2, 48, some [.sl 2 [] .full, .sl 2 [] .full]⟩ := rfl
theorem TT_37 : TT.T 37 = ⟨Ty.strct [(0, 35), (1, 35)], 2, 48, some [.sl 2 [] .full, .sl 2 [] .full]⟩ := rfl
theorem TT_38 : TT.T 38 = ⟨Ty.func, 1, 8, none⟩ := rfl
theorem TT_39 : TT.T 39 = ⟨Ty.func, 1, 8, none⟩ := rfl
theorem TT_40 : TT.T 40 = ⟨Ty.func, 1, 8, none⟩ := rfl
theorem TT_41 : TT.T 41 = ⟨Ty.func, 1, 8, none⟩ := rfl
theorem TT_42 : TT.T 42 = ⟨Ty.func, 1, 8, none⟩ := rfl
theorem TT_43 : TT.T 43 = ⟨Ty.func, 1, 8, none⟩ := rfl
theorem TT_44 : TT.T 44 = ⟨Ty.func, 1, 8, none⟩ := rfl
theorem TT_45 : TT.T 45 = ⟨Ty.slice 5, 1, 24, some [.sl 1 [] .full]⟩ := rfl
theorem TT_47 : TT.T 47 = ⟨Ty.func, 1, 8, none⟩ := rfl
theorem TT_48 : TT.T 48 = ⟨Ty.func, 1, 8, none⟩ := rfl
theorem TT_49 : TT.T 49 = ⟨Ty.slice 85, 1, 24, some [.sl 2 [] .full]⟩ := rfl
theorem TT_50 : TT.T 50 = ⟨Ty.slice 108, 1, 24, some [.sl 3 [] .full]⟩ := rfl
theorem TT_51 : TT.T 51 = ⟨Ty.strct [(0, 3), (1, 3), (2, 3), (3, 50)], 4, 48, some [.int .i64 0, .int .i64 0, .int .i64 0, .sl 3 [] .full]⟩ := rfl
theorem TT_52 : TT.T 52 = ⟨Ty.strct [(0, 3), (1, 3), (2, 3), (3, 50)], 4, 48, some [.int .i64 0, .int .i64 0, .int .i64 0, .sl 3 [] .full]⟩ := rfl
theorem TT_54 : TT.T 54 = ⟨Ty.func, 1, 8, none⟩ := rfl
theorem TT_55 : TT.T 55 = ⟨Ty.func, 1, 8, none⟩ := rfl
theorem TT_56 : TT.T 56 = ⟨Ty.func, 1, 8, none⟩ := rfl
theorem TT_57 : TT.T 57 = ⟨Ty.slice 52, 1, 24, some [.sl 4 [] .full]⟩ := rfl
theorem TT_58 : TT.T 58 = ⟨Ty.func, 1, 8, none⟩ := rfl
theorem TT_59 : TT.T 59 = ⟨Ty.func, 1, 8, none⟩ := rfl
theorem TT_60 : TT.T 60 = ⟨Ty.func, 1, 8, none⟩ := rfl
theorem TT_61 : TT.T 61 = ⟨Ty.func, 1, 8, none⟩ := rfl
theorem TT_62 : TT.T 62 = ⟨Ty.func, 1, 8, none⟩ := rfl
theorem TT_63 : TT.T 63 = ⟨Ty.func, 1, 8, none⟩ := rfl
theorem TT_64 : TT.T 64 = ⟨Ty.func, 1, 8, none⟩ := rfl
theorem TT_65 : TT.T 65 = ⟨Ty.func, 1, 8, none⟩ := rfl
theorem TT_66 : TT.T 66 = ⟨Ty.func, 1, 8, none⟩ := rfl
theorem TT_67 : TT.T 67 = ⟨Ty.func, 1, 8, none⟩ := rfl
theorem TT_68 : TT.T 68 = ⟨Ty.func, 1, 8, none⟩ := rfl
theorem TT_69 : TT.T 69 = ⟨Ty.func, 1, 8, none⟩ := rfl
theorem TT_70 : TT.T 70 = ⟨Ty.func, 1, 8, none⟩ := rfl
theorem TT_71 : TT.T 71 = ⟨Ty.func, 1, 8, none⟩ := rfl
theorem TT_72 : TT.T 72 = ⟨Ty.ptr, 1, 8, none⟩ := rfl
theorem TT_73 : TT.T 73 = ⟨Ty.func, 1, 8, none⟩ := rfl
theorem TT_74 : TT.T 74 = ⟨Ty.func, 1, 8, none⟩ := rfl
theorem TT_75 : TT.T 75 = ⟨Ty.func, 1, 8, none⟩ := rfl
theorem TT_76 : TT.T 76 = ⟨Ty.func, 1, 8, none⟩ := rfl
theorem TT_77 : TT.T 77 = ⟨Ty.func, 1, 8, none⟩ := rfl
theorem TT_78 : TT.T 78 = ⟨Ty.func, 1, 8, none⟩ := rfl
theorem TT_79 : TT.T 79 = ⟨Ty.func, 1, 8, none⟩ := rfl
theorem TT_80 : TT.T 80 = ⟨Ty.func, 1, 8, none⟩ := rfl
theorem TT_81 : TT.T 81 = ⟨Ty.func, 1, 8, none⟩ := rfl
theorem TT_82 : TT.T 82 = ⟨Ty.func, 1, 8, none⟩ := rfl
theorem TT_83 : TT.T 83 = ⟨Ty.slice 3, 1, 24, some [.sl 1 [] .full]⟩ := rfl
theorem TT_84 : TT.T 84 = ⟨Ty.strct [(0, 83), (1, 50)], 2, 48, some [.sl 1 [] .full, .sl 3 [] .full]⟩ := rfl
theorem TT_85 : TT.T 85 = ⟨Ty.strct [(0, 83), (1, 50)], 2, 48, some [.sl 1 [] .full, .sl 3 [] .full]⟩ := rfl
theorem TT_86 : TT.T 86 = ⟨Ty.func, 1, 8, none⟩ := rfl
theorem TT_87 : TT.T 87 = ⟨Ty.strct [(0, 3), (1, 3)], 2, 16, some [.int .i64 0, .int .i64 0]⟩ := rfl
theorem TT_88 : TT.T 88 = ⟨Ty.strct [(0, 3), (1, 3)], 2, 16, some [.int .i64 0, .int .i64 0]⟩ := rfl
theorem TT_90 : TT.T 90 = ⟨Ty.func, 1, 8, none⟩ := rfl
theorem TT_91 : TT.T 91 = ⟨Ty.func, 1, 8, none⟩ := rfl
theorem TT_92 : TT.T 92 = ⟨Ty.strct [(0, 9), (1, 3)], 2, 24, some [.str [], .int .i64 0]⟩ := rfl
theorem TT_93 : TT.T 93 = ⟨Ty.strct [(0, 9), (1, 3)], 2, 24, some [.str [], .int .i64 0]⟩ := rfl
theorem TT_94 : TT.T 94 = ⟨Ty.func, 1, 8, none⟩ := rfl
theorem TT_95 : TT.T 95 = ⟨Ty.func, 1, 8, none⟩ := rfl
theorem TT_96 : TT.T 96 = ⟨Ty.strct [(0, 9), (1, 3)], 2, 24, some [.str [], .int .i64 0]⟩ := rfl
theorem TT_97 : TT.T 97 = ⟨Ty.func, 1, 8, none⟩ := rfl
theorem TT_98 : TT.T 98 = ⟨Ty.func, 1, 8, none⟩ := rfl
theorem TT_99 : TT.T 99 = ⟨Ty.func, 1, 8, none⟩ := rfl
theorem TT_100 : TT.T 100 = ⟨Ty.func, 1, 8, none⟩ := rfl
theorem TT_101 : TT.T 101 = ⟨Ty.func, 1, 8, none⟩ := rfl
theorem TT_102 : TT.T 102 = ⟨Ty.func, 1, 8, none⟩ := rfl
theorem TT_103 : TT.T 103 = ⟨Ty.strct [(0, 45), (1, 3)], 2, 32, some [.sl 1 [] .full, .int .i64 0]⟩ := rfl
theorem TT_104 : TT.T 104 = ⟨Ty.strct [(0, 45), (1, 3)], 2, 32, some [.sl 1 [] .full, .int .i64 0]⟩ := rfl
theorem TT_105 : TT.T 105 = ⟨Ty.func, 1, 8, none⟩ := rfl
theorem TT_106 : TT.T 106 = ⟨Ty.func, 1, 8, none⟩ := rfl
theorem TT_107 : TT.T 107 = ⟨Ty.strct [(0, 9), (1, 88)], 3, 32, some [.str [], .int .i64 0, .int .i64 0]⟩ := rfl
theorem TT_108 : TT.T 108 = ⟨Ty.strct [(0, 9), (1, 88)], 3, 32, some [.str [], .int .i64 0, .int .i64 0]⟩ := rfl
theorem TT_109 : TT.T 109 = ⟨Ty.func, 1, 8, none⟩ := rfl
theorem TT_110 : TT.T 110 = ⟨Ty.func, 1, 8, none⟩ := rfl
theorem TT_111 : TT.T 111 = ⟨Ty.slice 35, 1, 24, some [.sl 1 [] .full]⟩ := rfl
theorem TT_112 : TT.T 112 = ⟨Ty.func, 1, 8, none⟩ := rfl
theorem TT_113 : TT.T 113 = ⟨Ty.func, 1, 8, none⟩ := rfl
theorem TT_114 : TT.T 114 = ⟨Ty.func, 1, 8, none⟩ := rfl
theorem TT_115 : TT.T 115 = ⟨Ty.func, 1, 8, none⟩ := rfl
theorem TT_116 : TT.T 116 = ⟨Ty.strct [(0, 49), (1, 52)], 5, 72, some [.sl 2 [] .full, .int .i64 0, .int .i64 0, .int .i64 0, .sl 3 [] .full]⟩ := rfl
theorem TT_117 : TT.T 117 = ⟨Ty.strct [(0, 49), (1, 52)], 5, 72, some [.sl 2 [] .full, .int .i64 0, .int .i64 0, .int .i64 0, .sl 3 [] .full]⟩ := rfl
theorem TT_118 : TT.T 118 = ⟨Ty.func, 1, 8, none⟩ := rfl
theorem TT_119 : TT.T 119 = ⟨Ty.func, 1, 8, none⟩ := rfl
theorem TT_121 : TT.T 121 = ⟨Ty.func, 1, 8, none⟩ := rfl
theorem TT_122 : TT.T 122 = ⟨Ty.func, 1, 8, none⟩ := rfl
theorem TT_123 : TT.T 123 = ⟨Ty.slice 9, 1, 24, some [.sl 1 [] .full]⟩ := rfl
theorem TT_124 : TT.T 124 = ⟨Ty.func, 1, 8, none⟩ := rfl
theorem TT_125 : TT.T 125 = ⟨Ty.slice 88, 1, 24, some [.sl 2 [] .full]⟩ := rfl
theorem TT_126 : TT.T 126 = ⟨Ty.map 9 4, 1, 8, none⟩ := rfl
theorem TT_127 : TT.T 127 = ⟨Ty.func, 1, 8, none⟩ := rfl
theorem TT_129 : TT.T 129 = ⟨Ty.func, 1, 8, none⟩ := rfl
theorem TT_130 : TT.T 130 = ⟨Ty.func, 1, 8, none⟩ := rfl
theorem TT_131 : TT.T 131 = ⟨Ty.func, 1, 8, none⟩ := rfl
theorem TT_133 : TT.T 133 = ⟨Ty.func, 1, 8, none⟩ := rfl
theorem TT_134 : TT.T 134 = ⟨Ty.func, 1, 8, none⟩ := rfl
theorem TT_135 : TT.T 135 = ⟨Ty.func, 1, 8, none⟩ := rfl
theorem TT_136 : TT.T 136 = ⟨Ty.func, 1, 8, none⟩ := rfl
theorem TT_137 : TT.T 137 = ⟨Ty.func, 1, 8, none⟩ := rfl
theorem TT_138 : TT.T 138 = ⟨Ty.strct [(0, 17), (1, 17), (2, 17), (3, 9)], 4, 40, none⟩ := rfl
theorem TT_139 : TT.T 139 = ⟨Ty.strct [(0, 17), (1, 17), (2, 17), (3, 9)], 4, 40, none⟩ := rfl
theorem TT_141 : TT.T 141 = ⟨Ty.strct [(0, 140)], 0, 0, none⟩ := rfl
theorem TT_142 : TT.T 142 = ⟨Ty.strct [(0, 140)], 0, 0, none⟩ := rfl
theorem TT_143 : TT.T 143 = ⟨Ty.func, 1, 8, none⟩ := rfl
theorem TT_144 : TT.T 144 = ⟨Ty.int .u32, 1, 4, some [.int .u32 0]⟩ := rfl
theorem TT_145 : TT.T 145 = ⟨Ty.int .u8, 1, 1, some [.int .u8 0]⟩ := rfl
theorem TT_146 : TT.T 146 = ⟨Ty.int .u8, 1, 1, some [.int .u8 0]⟩ := rfl
theorem TT_147 : TT.T 147 = ⟨Ty.func, 1, 8, none⟩ := rfl
theorem TT_148 : TT.T 148 = ⟨Ty.ptr, 1, 8, none⟩ := rfl
theorem TT_149 : TT.T 149 = ⟨Ty.int .i32, 1, 4, some [.int .i32 0]⟩ := rfl
theorem TT_150 : TT.T 150 = ⟨Ty.int .i32, 1, 4, some [.int .i32 0]⟩ := rfl
theorem TT_151 : TT.T 151 = ⟨Ty.strct [(0, 12), (1, 12), (2, 144), (3, 145), (4, 5), (5, 5), (6, 146), (7, 147), (8, 148), (9, 149), (10, 150)], 11, 48, none⟩ := rfl
theorem TT_152 : TT.T 152 = ⟨Ty.strct [(0, 12), (1, 12), (2, 144), (3, 145), (4, 5), (5, 5), (6, 146), (7, 147), (8, 148), (9, 149), (10, 150)], 11, 48, none⟩ := rfl
attribute [go_sem] TT_1 TT_2 TT_3 TT_4 TT_5 TT_6 TT_7 TT_8 TT_9 TT_10 TT_11 TT_12 TT_13 TT_14 TT_15 TT_16 TT_17 TT_18 TT_19 TT_20 TT_21 TT_22 TT_23 TT_24 TT_25 TT_26 TT_27 TT_28 TT_29 TT_30 TT_31 TT_32 TT_34 TT_35 TT_36 TT_37 TT_38 TT_39 TT_40 TT_41 TT_42 TT_43 TT_44 TT_45 TT_47 TT_48 TT_49 TT_50 TT_51 TT_52 TT_54 TT_55 TT_56 TT_57 TT_58 TT_59 TT_60 TT_61 TT_62 TT_63 TT_64 TT_65 TT_66 TT_67 TT_68 TT_69 TT_70 TT_71 TT_72 TT_73 TT_74 TT_75 TT_76 TT_77 TT_78 TT_79 TT_80 TT_81 TT_82 TT_83 TT_84 TT_85 TT_86 TT_87 TT_88 TT_90 TT_91 TT_92 TT_93 TT_94 TT_95 TT_96 TT_97 TT_98 TT_99 TT_100 TT_101 TT_102 TT_103 TT_104 TT_105 TT_106 TT_107 TT_108 TT_109 TT_110 TT_111 TT_112 TT_113 TT_114 TT_115 TT_116 TT_117 TT_118 TT_119 TT_121 TT_122 TT_123 TT_124 TT_125 TT_126 TT_127 TT_129 TT_130 TT_131 TT_133 TT_134 TT_135 TT_136 TT_137 TT_138 TT_139 TT_141 TT_142 TT_143 TT_144 TT_145 TT_146 TT_147 TT_148 TT_149 TT_150 TT_151 TT_152
theorem MX : Try.prog.follows .mixedOrders = true := by kernel_rfl
end Go.Proofs.Ytdbakncnhmphpaa
