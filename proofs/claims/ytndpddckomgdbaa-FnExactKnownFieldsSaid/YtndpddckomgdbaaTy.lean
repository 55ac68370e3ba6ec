/- The types of the translation, as the abstract logic has them: for each its form, its cells, its bytes and its zero value. Printed by a program from the translation; each row is proved from the loaded program's own facts. -/
import Derived.Test.YtndpddckomgdbaaProg
import Derived.Test.YtndpddckomgdbaaCoreD
namespace Go.Proofs.Ytndpddckomgdbaa
open Go Go.AL
set_option maxRecDepth 100000

set_option maxRecDepth 100000 in
def tyT : Nat → TyI
  | 1 => ⟨Ty.func, 1, 8, none⟩
  | 2 => ⟨Ty.int .i64, 1, 8, some [.int .i64 0]⟩
  | 3 => ⟨Ty.int .i64, 1, 8, some [.int .i64 0]⟩
  | 4 => ⟨Ty.bool, 1, 1, some [.bool false]⟩
  | 5 => ⟨Ty.int .u8, 1, 1, some [.int .u8 0]⟩
  | 6 => ⟨Ty.int .u8, 1, 1, some [.int .u8 0]⟩
  | 7 => ⟨Ty.strct [(0, 2), (1, 3), (2, 4), (3, 6)], 4, 24, some [.int .i64 0, .int .i64 0, .bool false, .int .u8 0]⟩
  | 8 => ⟨Ty.strct [(0, 2), (1, 3), (2, 4), (3, 6)], 4, 24, some [.int .i64 0, .int .i64 0, .bool false, .int .u8 0]⟩
  | 9 => ⟨Ty.str, 1, 16, some [.str []]⟩
  | 10 => ⟨Ty.str, 1, 16, some [.str []]⟩
  | 11 => ⟨Ty.str, 1, 16, some [.str []]⟩
  | 12 => ⟨Ty.int .u64, 1, 8, some [.int .u64 0]⟩
  | 13 => ⟨Ty.strct [(0, 9), (1, 12)], 2, 24, some [.str [], .int .u64 0]⟩
  | 14 => ⟨Ty.strct [(0, 9), (1, 12)], 2, 24, some [.str [], .int .u64 0]⟩
  | 15 => ⟨Ty.ptr, 1, 8, none⟩
  | 16 => ⟨Ty.ptr, 1, 8, none⟩
  | 17 => ⟨Ty.ptr, 1, 8, none⟩
  | 18 => ⟨Ty.strct [(0, 17)], 1, 8, none⟩
  | 19 => ⟨Ty.strct [(0, 17)], 1, 8, none⟩
  | 20 => ⟨Ty.iface, 1, 16, none⟩
  | 21 => ⟨Ty.int .i32, 1, 4, some [.int .i32 0]⟩
  | 22 => ⟨Ty.slice 5, 1, 24, some [.sl 1 [] .full]⟩
  | 23 => ⟨Ty.slice 25, 1, 24, some [.sl 4 [] .full]⟩
  | 24 => ⟨Ty.strct [(0, 3), (1, 3), (2, 9), (3, 23)], 4, 56, some [.int .i64 0, .int .i64 0, .str [], .sl 4 [] .full]⟩
  | 25 => ⟨Ty.strct [(0, 3), (1, 3), (2, 9), (3, 23)], 4, 56, some [.int .i64 0, .int .i64 0, .str [], .sl 4 [] .full]⟩
  | 26 => ⟨Ty.strct [(0, 9), (1, 4), (2, 3), (3, 3), (4, 3), (5, 25)], 9, 104, some [.str [], .bool false, .int .i64 0, .int .i64 0, .int .i64 0, .int .i64 0, .int .i64 0, .str [], .sl 4 [] .full]⟩
  | 27 => ⟨Ty.strct [(0, 9), (1, 4), (2, 3), (3, 3), (4, 3), (5, 25)], 9, 104, some [.str [], .bool false, .int .i64 0, .int .i64 0, .int .i64 0, .int .i64 0, .int .i64 0, .str [], .sl 4 [] .full]⟩
  | 29 => ⟨Ty.func, 1, 8, none⟩
  | 30 => ⟨Ty.func, 1, 8, none⟩
  | 31 => ⟨Ty.func, 1, 8, none⟩
  | 32 => ⟨Ty.func, 1, 8, none⟩
  | 33 => ⟨Ty.slice 35, 1, 24, some [.sl 4 [] .full]⟩
  | 34 => ⟨Ty.strct [(0, 3), (1, 3), (2, 9), (3, 33)], 4, 56, some [.int .i64 0, .int .i64 0, .str [], .sl 4 [] .full]⟩
  | 35 => ⟨Ty.strct [(0, 3), (1, 3), (2, 9), (3, 33)], 4, 56, some [.int .i64 0, .int .i64 0, .str [], .sl 4 [] .full]⟩
  | 36 => ⟨Ty.strct [(0, 9), (1, 4), (2, 3), (3, 3), (4, 3), (5, 35)], 9, 104, some [.str [], .bool false, .int .i64 0, .int .i64 0, .int .i64 0, .int .i64 0, .int .i64 0, .str [], .sl 4 [] .full]⟩
  | 37 => ⟨Ty.strct [(0, 9), (1, 4), (2, 3), (3, 3), (4, 3), (5, 35)], 9, 104, some [.str [], .bool false, .int .i64 0, .int .i64 0, .int .i64 0, .int .i64 0, .int .i64 0, .str [], .sl 4 [] .full]⟩
  | 38 => ⟨Ty.func, 1, 8, none⟩
  | 39 => ⟨Ty.func, 1, 8, none⟩
  | 40 => ⟨Ty.func, 1, 8, none⟩
  | 42 => ⟨Ty.func, 1, 8, none⟩
  | 44 => ⟨Ty.func, 1, 8, none⟩
  | 45 => ⟨Ty.func, 1, 8, none⟩
  | 46 => ⟨Ty.func, 1, 8, none⟩
  | 47 => ⟨Ty.func, 1, 8, none⟩
  | 48 => ⟨Ty.func, 1, 8, none⟩
  | 49 => ⟨Ty.func, 1, 8, none⟩
  | 50 => ⟨Ty.func, 1, 8, none⟩
  | 51 => ⟨Ty.func, 1, 8, none⟩
  | 52 => ⟨Ty.func, 1, 8, none⟩
  | 53 => ⟨Ty.func, 1, 8, none⟩
  | 54 => ⟨Ty.func, 1, 8, none⟩
  | 55 => ⟨Ty.func, 1, 8, none⟩
  | 56 => ⟨Ty.func, 1, 8, none⟩
  | 57 => ⟨Ty.slice 66, 1, 24, some [.sl 3 [] .full]⟩
  | 58 => ⟨Ty.slice 9, 1, 24, some [.sl 1 [] .full]⟩
  | 60 => ⟨Ty.func, 1, 8, none⟩
  | 61 => ⟨Ty.func, 1, 8, none⟩
  | 62 => ⟨Ty.func, 1, 8, none⟩
  | 63 => ⟨Ty.strct [(0, 3), (1, 3)], 2, 16, some [.int .i64 0, .int .i64 0]⟩
  | 64 => ⟨Ty.strct [(0, 3), (1, 3)], 2, 16, some [.int .i64 0, .int .i64 0]⟩
  | 65 => ⟨Ty.strct [(0, 9), (1, 64)], 3, 32, some [.str [], .int .i64 0, .int .i64 0]⟩
  | 66 => ⟨Ty.strct [(0, 9), (1, 64)], 3, 32, some [.str [], .int .i64 0, .int .i64 0]⟩
  | 67 => ⟨Ty.slice 94, 1, 24, some [.sl 3 [] .full]⟩
  | 68 => ⟨Ty.func, 1, 8, none⟩
  | 69 => ⟨Ty.func, 1, 8, none⟩
  | 70 => ⟨Ty.func, 1, 8, none⟩
  | 71 => ⟨Ty.func, 1, 8, none⟩
  | 72 => ⟨Ty.func, 1, 8, none⟩
  | 73 => ⟨Ty.func, 1, 8, none⟩
  | 74 => ⟨Ty.func, 1, 8, none⟩
  | 75 => ⟨Ty.ptr, 1, 8, none⟩
  | 76 => ⟨Ty.func, 1, 8, none⟩
  | 77 => ⟨Ty.func, 1, 8, none⟩
  | 78 => ⟨Ty.func, 1, 8, none⟩
  | 79 => ⟨Ty.func, 1, 8, none⟩
  | 80 => ⟨Ty.func, 1, 8, none⟩
  | 81 => ⟨Ty.func, 1, 8, none⟩
  | 82 => ⟨Ty.func, 1, 8, none⟩
  | 83 => ⟨Ty.func, 1, 8, none⟩
  | 84 => ⟨Ty.func, 1, 8, none⟩
  | 85 => ⟨Ty.func, 1, 8, none⟩
  | 86 => ⟨Ty.func, 1, 8, none⟩
  | 87 => ⟨Ty.func, 1, 8, none⟩
  | 88 => ⟨Ty.func, 1, 8, none⟩
  | 89 => ⟨Ty.func, 1, 8, none⟩
  | 90 => ⟨Ty.func, 1, 8, none⟩
  | 91 => ⟨Ty.func, 1, 8, none⟩
  | 92 => ⟨Ty.strct [(0, 3), (1, 3)], 2, 16, some [.int .i64 0, .int .i64 0]⟩
  | 93 => ⟨Ty.strct [(0, 9), (1, 92)], 3, 32, some [.str [], .int .i64 0, .int .i64 0]⟩
  | 94 => ⟨Ty.strct [(0, 9), (1, 92)], 3, 32, some [.str [], .int .i64 0, .int .i64 0]⟩
  | 95 => ⟨Ty.func, 1, 8, none⟩
  | 96 => ⟨Ty.func, 1, 8, none⟩
  | 97 => ⟨Ty.func, 1, 8, none⟩
  | 98 => ⟨Ty.strct [(0, 22), (1, 3)], 2, 32, some [.sl 1 [] .full, .int .i64 0]⟩
  | 99 => ⟨Ty.strct [(0, 22), (1, 3)], 2, 32, some [.sl 1 [] .full, .int .i64 0]⟩
  | 100 => ⟨Ty.slice 3, 1, 24, some [.sl 1 [] .full]⟩
  | 101 => ⟨Ty.func, 1, 8, none⟩
  | 102 => ⟨Ty.func, 1, 8, none⟩
  | 103 => ⟨Ty.func, 1, 8, none⟩
  | 104 => ⟨Ty.func, 1, 8, none⟩
  | 106 => ⟨Ty.func, 1, 8, none⟩
  | 107 => ⟨Ty.func, 1, 8, none⟩
  | 108 => ⟨Ty.func, 1, 8, none⟩
  | 109 => ⟨Ty.func, 1, 8, none⟩
  | 110 => ⟨Ty.func, 1, 8, none⟩
  | 111 => ⟨Ty.func, 1, 8, none⟩
  | 112 => ⟨Ty.func, 1, 8, none⟩
  | 113 => ⟨Ty.func, 1, 8, none⟩
  | 114 => ⟨Ty.strct [(0, 17), (1, 17), (2, 17), (3, 9)], 4, 40, none⟩
  | 115 => ⟨Ty.strct [(0, 17), (1, 17), (2, 17), (3, 9)], 4, 40, none⟩
  | 117 => ⟨Ty.strct [(0, 116)], 0, 0, none⟩
  | 118 => ⟨Ty.strct [(0, 116)], 0, 0, none⟩
  | 119 => ⟨Ty.func, 1, 8, none⟩
  | 120 => ⟨Ty.int .u32, 1, 4, some [.int .u32 0]⟩
  | 121 => ⟨Ty.int .u8, 1, 1, some [.int .u8 0]⟩
  | 122 => ⟨Ty.int .u8, 1, 1, some [.int .u8 0]⟩
  | 123 => ⟨Ty.func, 1, 8, none⟩
  | 124 => ⟨Ty.ptr, 1, 8, none⟩
  | 125 => ⟨Ty.int .i32, 1, 4, some [.int .i32 0]⟩
  | 126 => ⟨Ty.int .i32, 1, 4, some [.int .i32 0]⟩
  | 127 => ⟨Ty.strct [(0, 12), (1, 12), (2, 120), (3, 121), (4, 5), (5, 5), (6, 122), (7, 123), (8, 124), (9, 125), (10, 126)], 11, 48, none⟩
  | 128 => ⟨Ty.strct [(0, 12), (1, 12), (2, 120), (3, 121), (4, 5), (5, 5), (6, 122), (7, 123), (8, 124), (9, 125), (10, 126)], 11, 48, none⟩
  | _ => ⟨.other, 0, 0, none⟩

theorem tyOK1 : TyOK Try.prog 1 (tyT 1) := ⟨⟨_, _, _, Try.underlying1⟩, ⟨Try.t1, Try.type1, rfl, rfl, trivial⟩⟩
theorem tyOK2 : TyOK Try.prog 2 (tyT 2) := ⟨Try.underlying2, ⟨Try.t2, Try.type2, rfl, rfl, ⟨rfl, rfl, rfl, fun h => by first | rfl | cases h⟩⟩⟩
theorem tyOK3 : TyOK Try.prog 3 (tyT 3) := ⟨Try.underlying3, ⟨Try.t3, Try.type3, rfl, rfl, ⟨rfl, rfl, rfl, fun h => by first | rfl | cases h⟩⟩⟩
theorem tyOK4 : TyOK Try.prog 4 (tyT 4) := ⟨Try.underlying4, ⟨Try.t4, Try.type4, rfl, rfl, ⟨rfl, rfl, rfl, fun h => by first | rfl | cases h⟩⟩⟩
theorem tyOK5 : TyOK Try.prog 5 (tyT 5) := ⟨Try.underlying5, ⟨Try.t5, Try.type5, rfl, rfl, ⟨rfl, rfl, rfl, fun h => by first | rfl | cases h⟩⟩⟩
theorem tyOK6 : TyOK Try.prog 6 (tyT 6) := ⟨Try.underlying6, ⟨Try.t6, Try.type6, rfl, rfl, ⟨rfl, rfl, rfl, fun h => by first | rfl | cases h⟩⟩⟩
theorem tyOK7 : TyOK Try.prog 7 (tyT 7) := ⟨⟨_, Try.underlying7, rfl⟩, ⟨Try.t7, Try.type7, rfl, rfl, ⟨rfl, rfl, rfl, fun h => by first | rfl | cases h⟩⟩⟩
theorem tyOK8 : TyOK Try.prog 8 (tyT 8) := ⟨⟨_, Try.underlying8, rfl⟩, ⟨Try.t8, Try.type8, rfl, rfl, ⟨rfl, rfl, rfl, fun h => by first | rfl | cases h⟩⟩⟩
theorem tyOK9 : TyOK Try.prog 9 (tyT 9) := ⟨Try.underlying9, ⟨Try.t9, Try.type9, rfl, rfl, ⟨rfl, rfl, rfl, fun h => by first | rfl | cases h⟩⟩⟩
theorem tyOK10 : TyOK Try.prog 10 (tyT 10) := ⟨Try.underlying10, ⟨Try.t10, Try.type10, rfl, rfl, ⟨rfl, rfl, rfl, fun h => by first | rfl | cases h⟩⟩⟩
theorem tyOK11 : TyOK Try.prog 11 (tyT 11) := ⟨Try.underlying11, ⟨Try.t11, Try.type11, rfl, rfl, ⟨rfl, rfl, rfl, fun h => by first | rfl | cases h⟩⟩⟩
theorem tyOK12 : TyOK Try.prog 12 (tyT 12) := ⟨Try.underlying12, ⟨Try.t12, Try.type12, rfl, rfl, ⟨rfl, rfl, rfl, fun h => by first | rfl | cases h⟩⟩⟩
theorem tyOK13 : TyOK Try.prog 13 (tyT 13) := ⟨⟨_, Try.underlying13, rfl⟩, ⟨Try.t13, Try.type13, rfl, rfl, ⟨rfl, rfl, rfl, fun h => by first | rfl | cases h⟩⟩⟩
theorem tyOK14 : TyOK Try.prog 14 (tyT 14) := ⟨⟨_, Try.underlying14, rfl⟩, ⟨Try.t14, Try.type14, rfl, rfl, ⟨rfl, rfl, rfl, fun h => by first | rfl | cases h⟩⟩⟩
theorem tyOK15 : TyOK Try.prog 15 (tyT 15) := ⟨⟨_, Try.underlying15⟩, ⟨Try.t15, Try.type15, rfl, rfl, trivial⟩⟩
theorem tyOK16 : TyOK Try.prog 16 (tyT 16) := ⟨⟨_, Try.underlying16⟩, ⟨Try.t16, Try.type16, rfl, rfl, trivial⟩⟩
theorem tyOK17 : TyOK Try.prog 17 (tyT 17) := ⟨⟨_, Try.underlying17⟩, ⟨Try.t17, Try.type17, rfl, rfl, trivial⟩⟩
theorem tyOK18 : TyOK Try.prog 18 (tyT 18) := ⟨⟨_, Try.underlying18, rfl⟩, ⟨Try.t18, Try.type18, rfl, rfl, trivial⟩⟩
theorem tyOK19 : TyOK Try.prog 19 (tyT 19) := ⟨⟨_, Try.underlying19, rfl⟩, ⟨Try.t19, Try.type19, rfl, rfl, trivial⟩⟩
theorem tyOK20 : TyOK Try.prog 20 (tyT 20) := ⟨⟨_, Try.underlying20⟩, ⟨Try.t20, Try.type20, rfl, rfl, trivial⟩⟩
theorem tyOK21 : TyOK Try.prog 21 (tyT 21) := ⟨Try.underlying21, ⟨Try.t21, Try.type21, rfl, rfl, ⟨rfl, rfl, rfl, fun h => by first | rfl | cases h⟩⟩⟩
theorem tyOK22 : TyOK Try.prog 22 (tyT 22) := ⟨Try.underlying22, ⟨Try.t22, Try.type22, rfl, rfl, ⟨rfl, rfl, rfl, fun h => by first | rfl | cases h⟩⟩⟩
theorem tyOK23 : TyOK Try.prog 23 (tyT 23) := ⟨Try.underlying23, ⟨Try.t23, Try.type23, rfl, rfl, ⟨rfl, rfl, rfl, fun h => by first | rfl | cases h⟩⟩⟩
theorem tyOK24 : TyOK Try.prog 24 (tyT 24) := ⟨⟨_, Try.underlying24, rfl⟩, ⟨Try.t24, Try.type24, rfl, rfl, ⟨rfl, rfl, rfl, fun h => by first | rfl | cases h⟩⟩⟩
theorem tyOK25 : TyOK Try.prog 25 (tyT 25) := ⟨⟨_, Try.underlying25, rfl⟩, ⟨Try.t25, Try.type25, rfl, rfl, ⟨rfl, rfl, rfl, fun h => by first | rfl | cases h⟩⟩⟩
theorem tyOK26 : TyOK Try.prog 26 (tyT 26) := ⟨⟨_, Try.underlying26, rfl⟩, ⟨Try.t26, Try.type26, rfl, rfl, ⟨rfl, rfl, rfl, fun h => by first | rfl | cases h⟩⟩⟩
theorem tyOK27 : TyOK Try.prog 27 (tyT 27) := ⟨⟨_, Try.underlying27, rfl⟩, ⟨Try.t27, Try.type27, rfl, rfl, ⟨rfl, rfl, rfl, fun h => by first | rfl | cases h⟩⟩⟩
theorem tyOK29 : TyOK Try.prog 29 (tyT 29) := ⟨⟨_, _, _, Try.underlying29⟩, ⟨Try.t29, Try.type29, rfl, rfl, trivial⟩⟩
theorem tyOK30 : TyOK Try.prog 30 (tyT 30) := ⟨⟨_, _, _, Try.underlying30⟩, ⟨Try.t30, Try.type30, rfl, rfl, trivial⟩⟩
theorem tyOK31 : TyOK Try.prog 31 (tyT 31) := ⟨⟨_, _, _, Try.underlying31⟩, ⟨Try.t31, Try.type31, rfl, rfl, trivial⟩⟩
theorem tyOK32 : TyOK Try.prog 32 (tyT 32) := ⟨⟨_, _, _, Try.underlying32⟩, ⟨Try.t32, Try.type32, rfl, rfl, trivial⟩⟩
theorem tyOK33 : TyOK Try.prog 33 (tyT 33) := ⟨Try.underlying33, ⟨Try.t33, Try.type33, rfl, rfl, ⟨rfl, rfl, rfl, fun h => by first | rfl | cases h⟩⟩⟩
theorem tyOK34 : TyOK Try.prog 34 (tyT 34) := ⟨⟨_, Try.underlying34, rfl⟩, ⟨Try.t34, Try.type34, rfl, rfl, ⟨rfl, rfl, rfl, fun h => by first | rfl | cases h⟩⟩⟩
theorem tyOK35 : TyOK Try.prog 35 (tyT 35) := ⟨⟨_, Try.underlying35, rfl⟩, ⟨Try.t35, Try.type35, rfl, rfl, ⟨rfl, rfl, rfl, fun h => by first | rfl | cases h⟩⟩⟩
theorem tyOK36 : TyOK Try.prog 36 (tyT 36) := ⟨⟨_, Try.underlying36, rfl⟩, ⟨Try.t36, Try.type36, rfl, rfl, ⟨rfl, rfl, rfl, fun h => by first | rfl | cases h⟩⟩⟩
theorem tyOK37 : TyOK Try.prog 37 (tyT 37) := ⟨⟨_, Try.underlying37, rfl⟩, ⟨Try.t37, Try.type37, rfl, rfl, ⟨rfl, rfl, rfl, fun h => by first | rfl | cases h⟩⟩⟩
theorem tyOK38 : TyOK Try.prog 38 (tyT 38) := ⟨⟨_, _, _, Try.underlying38⟩, ⟨Try.t38, Try.type38, rfl, rfl, trivial⟩⟩
theorem tyOK39 : TyOK Try.prog 39 (tyT 39) := ⟨⟨_, _, _, Try.underlying39⟩, ⟨Try.t39, Try.type39, rfl, rfl, trivial⟩⟩
theorem tyOK40 : TyOK Try.prog 40 (tyT 40) := ⟨⟨_, _, _, Try.underlying40⟩, ⟨Try.t40, Try.type40, rfl, rfl, trivial⟩⟩
theorem tyOK42 : TyOK Try.prog 42 (tyT 42) := ⟨⟨_, _, _, Try.underlying42⟩, ⟨Try.t42, Try.type42, rfl, rfl, trivial⟩⟩
theorem tyOK44 : TyOK Try.prog 44 (tyT 44) := ⟨⟨_, _, _, Try.underlying44⟩, ⟨Try.t44, Try.type44, rfl, rfl, trivial⟩⟩
theorem tyOK45 : TyOK Try.prog 45 (tyT 45) := ⟨⟨_, _, _, Try.underlying45⟩, ⟨Try.t45, Try.type45, rfl, rfl, trivial⟩⟩
theorem tyOK46 : TyOK Try.prog 46 (tyT 46) := ⟨⟨_, _, _, Try.underlying46⟩, ⟨Try.t46, Try.type46, rfl, rfl, trivial⟩⟩
theorem tyOK47 : TyOK Try.prog 47 (tyT 47) := ⟨⟨_, _, _, Try.underlying47⟩, ⟨Try.t47, Try.type47, rfl, rfl, trivial⟩⟩
theorem tyOK48 : TyOK Try.prog 48 (tyT 48) := ⟨⟨_, _, _, Try.underlying48⟩, ⟨Try.t48, Try.type48, rfl, rfl, trivial⟩⟩
theorem tyOK49 : TyOK Try.prog 49 (tyT 49) := ⟨⟨_, _, _, Try.underlying49⟩, ⟨Try.t49, Try.type49, rfl, rfl, trivial⟩⟩
theorem tyOK50 : TyOK Try.prog 50 (tyT 50) := ⟨⟨_, _, _, Try.underlying50⟩, ⟨Try.t50, Try.type50, rfl, rfl, trivial⟩⟩
theorem tyOK51 : TyOK Try.prog 51 (tyT 51) := ⟨⟨_, _, _, Try.underlying51⟩, ⟨Try.t51, Try.type51, rfl, rfl, trivial⟩⟩
theorem tyOK52 : TyOK Try.prog 52 (tyT 52) := ⟨⟨_, _, _, Try.underlying52⟩, ⟨Try.t52, Try.type52, rfl, rfl, trivial⟩⟩
theorem tyOK53 : TyOK Try.prog 53 (tyT 53) := ⟨⟨_, _, _, Try.underlying53⟩, ⟨Try.t53, Try.type53, rfl, rfl, trivial⟩⟩
theorem tyOK54 : TyOK Try.prog 54 (tyT 54) := ⟨⟨_, _, _, Try.underlying54⟩, ⟨Try.t54, Try.type54, rfl, rfl, trivial⟩⟩
theorem tyOK55 : TyOK Try.prog 55 (tyT 55) := ⟨⟨_, _, _, Try.underlying55⟩, ⟨Try.t55, Try.type55, rfl, rfl, trivial⟩⟩
theorem tyOK56 : TyOK Try.prog 56 (tyT 56) := ⟨⟨_, _, _, Try.underlying56⟩, ⟨Try.t56, Try.type56, rfl, rfl, trivial⟩⟩
theorem tyOK57 : TyOK Try.prog 57 (tyT 57) := ⟨Try.underlying57, ⟨Try.t57, Try.type57, rfl, rfl, ⟨rfl, rfl, rfl, fun h => by first | rfl | cases h⟩⟩⟩
theorem tyOK58 : TyOK Try.prog 58 (tyT 58) := ⟨Try.underlying58, ⟨Try.t58, Try.type58, rfl, rfl, ⟨rfl, rfl, rfl, fun h => by first | rfl | cases h⟩⟩⟩
theorem tyOK60 : TyOK Try.prog 60 (tyT 60) := ⟨⟨_, _, _, Try.underlying60⟩, ⟨Try.t60, Try.type60, rfl, rfl, trivial⟩⟩
theorem tyOK61 : TyOK Try.prog 61 (tyT 61) := ⟨⟨_, _, _, Try.underlying61⟩, ⟨Try.t61, Try.type61, rfl, rfl, trivial⟩⟩
theorem tyOK62 : TyOK Try.prog 62 (tyT 62) := ⟨⟨_, _, _, Try.underlying62⟩, ⟨Try.t62, Try.type62, rfl, rfl, trivial⟩⟩
theorem tyOK63 : TyOK Try.prog 63 (tyT 63) := ⟨⟨_, Try.underlying63, rfl⟩, ⟨Try.t63, Try.type63, rfl, rfl, ⟨rfl, rfl, rfl, fun h => by first | rfl | cases h⟩⟩⟩
theorem tyOK64 : TyOK Try.prog 64 (tyT 64) := ⟨⟨_, Try.underlying64, rfl⟩, ⟨Try.t64, Try.type64, rfl, rfl, ⟨rfl, rfl, rfl, fun h => by first | rfl | cases h⟩⟩⟩
theorem tyOK65 : TyOK Try.prog 65 (tyT 65) := ⟨⟨_, Try.underlying65, rfl⟩, ⟨Try.t65, Try.type65, rfl, rfl, ⟨rfl, rfl, rfl, fun h => by first | rfl | cases h⟩⟩⟩
theorem tyOK66 : TyOK Try.prog 66 (tyT 66) := ⟨⟨_, Try.underlying66, rfl⟩, ⟨Try.t66, Try.type66, rfl, rfl, ⟨rfl, rfl, rfl, fun h => by first | rfl | cases h⟩⟩⟩
theorem tyOK67 : TyOK Try.prog 67 (tyT 67) := ⟨Try.underlying67, ⟨Try.t67, Try.type67, rfl, rfl, ⟨rfl, rfl, rfl, fun h => by first | rfl | cases h⟩⟩⟩
theorem tyOK68 : TyOK Try.prog 68 (tyT 68) := ⟨⟨_, _, _, Try.underlying68⟩, ⟨Try.t68, Try.type68, rfl, rfl, trivial⟩⟩
theorem tyOK69 : TyOK Try.prog 69 (tyT 69) := ⟨⟨_, _, _, Try.underlying69⟩, ⟨Try.t69, Try.type69, rfl, rfl, trivial⟩⟩
theorem tyOK70 : TyOK Try.prog 70 (tyT 70) := ⟨⟨_, _, _, Try.underlying70⟩, ⟨Try.t70, Try.type70, rfl, rfl, trivial⟩⟩
theorem tyOK71 : TyOK Try.prog 71 (tyT 71) := ⟨⟨_, _, _, Try.underlying71⟩, ⟨Try.t71, Try.type71, rfl, rfl, trivial⟩⟩
theorem tyOK72 : TyOK Try.prog 72 (tyT 72) := ⟨⟨_, _, _, Try.underlying72⟩, ⟨Try.t72, Try.type72, rfl, rfl, trivial⟩⟩
theorem tyOK73 : TyOK Try.prog 73 (tyT 73) := ⟨⟨_, _, _, Try.underlying73⟩, ⟨Try.t73, Try.type73, rfl, rfl, trivial⟩⟩
theorem tyOK74 : TyOK Try.prog 74 (tyT 74) := ⟨⟨_, _, _, Try.underlying74⟩, ⟨Try.t74, Try.type74, rfl, rfl, trivial⟩⟩
theorem tyOK75 : TyOK Try.prog 75 (tyT 75) := ⟨⟨_, Try.underlying75⟩, ⟨Try.t75, Try.type75, rfl, rfl, trivial⟩⟩
theorem tyOK76 : TyOK Try.prog 76 (tyT 76) := ⟨⟨_, _, _, Try.underlying76⟩, ⟨Try.t76, Try.type76, rfl, rfl, trivial⟩⟩
theorem tyOK77 : TyOK Try.prog 77 (tyT 77) := ⟨⟨_, _, _, Try.underlying77⟩, ⟨Try.t77, Try.type77, rfl, rfl, trivial⟩⟩
theorem tyOK78 : TyOK Try.prog 78 (tyT 78) := ⟨⟨_, _, _, Try.underlying78⟩, ⟨Try.t78, Try.type78, rfl, rfl, trivial⟩⟩
theorem tyOK79 : TyOK Try.prog 79 (tyT 79) := ⟨⟨_, _, _, Try.underlying79⟩, ⟨Try.t79, Try.type79, rfl, rfl, trivial⟩⟩
theorem tyOK80 : TyOK Try.prog 80 (tyT 80) := ⟨⟨_, _, _, Try.underlying80⟩, ⟨Try.t80, Try.type80, rfl, rfl, trivial⟩⟩
theorem tyOK81 : TyOK Try.prog 81 (tyT 81) := ⟨⟨_, _, _, Try.underlying81⟩, ⟨Try.t81, Try.type81, rfl, rfl, trivial⟩⟩
theorem tyOK82 : TyOK Try.prog 82 (tyT 82) := ⟨⟨_, _, _, Try.underlying82⟩, ⟨Try.t82, Try.type82, rfl, rfl, trivial⟩⟩
theorem tyOK83 : TyOK Try.prog 83 (tyT 83) := ⟨⟨_, _, _, Try.underlying83⟩, ⟨Try.t83, Try.type83, rfl, rfl, trivial⟩⟩
theorem tyOK84 : TyOK Try.prog 84 (tyT 84) := ⟨⟨_, _, _, Try.underlying84⟩, ⟨Try.t84, Try.type84, rfl, rfl, trivial⟩⟩
theorem tyOK85 : TyOK Try.prog 85 (tyT 85) := ⟨⟨_, _, _, Try.underlying85⟩, ⟨Try.t85, Try.type85, rfl, rfl, trivial⟩⟩
theorem tyOK86 : TyOK Try.prog 86 (tyT 86) := ⟨⟨_, _, _, Try.underlying86⟩, ⟨Try.t86, Try.type86, rfl, rfl, trivial⟩⟩
theorem tyOK87 : TyOK Try.prog 87 (tyT 87) := ⟨⟨_, _, _, Try.underlying87⟩, ⟨Try.t87, Try.type87, rfl, rfl, trivial⟩⟩
theorem tyOK88 : TyOK Try.prog 88 (tyT 88) := ⟨⟨_, _, _, Try.underlying88⟩, ⟨Try.t88, Try.type88, rfl, rfl, trivial⟩⟩
theorem tyOK89 : TyOK Try.prog 89 (tyT 89) := ⟨⟨_, _, _, Try.underlying89⟩, ⟨Try.t89, Try.type89, rfl, rfl, trivial⟩⟩
theorem tyOK90 : TyOK Try.prog 90 (tyT 90) := ⟨⟨_, _, _, Try.underlying90⟩, ⟨Try.t90, Try.type90, rfl, rfl, trivial⟩⟩
theorem tyOK91 : TyOK Try.prog 91 (tyT 91) := ⟨⟨_, _, _, Try.underlying91⟩, ⟨Try.t91, Try.type91, rfl, rfl, trivial⟩⟩
theorem tyOK92 : TyOK Try.prog 92 (tyT 92) := ⟨⟨_, Try.underlying92, rfl⟩, ⟨Try.t92, Try.type92, rfl, rfl, ⟨rfl, rfl, rfl, fun h => by first | rfl | cases h⟩⟩⟩
theorem tyOK93 : TyOK Try.prog 93 (tyT 93) := ⟨⟨_, Try.underlying93, rfl⟩, ⟨Try.t93, Try.type93, rfl, rfl, ⟨rfl, rfl, rfl, fun h => by first | rfl | cases h⟩⟩⟩
theorem tyOK94 : TyOK Try.prog 94 (tyT 94) := ⟨⟨_, Try.underlying94, rfl⟩, ⟨Try.t94, Try.type94, rfl, rfl, ⟨rfl, rfl, rfl, fun h => by first | rfl | cases h⟩⟩⟩
theorem tyOK95 : TyOK Try.prog 95 (tyT 95) := ⟨⟨_, _, _, Try.underlying95⟩, ⟨Try.t95, Try.type95, rfl, rfl, trivial⟩⟩
theorem tyOK96 : TyOK Try.prog 96 (tyT 96) := ⟨⟨_, _, _, Try.underlying96⟩, ⟨Try.t96, Try.type96, rfl, rfl, trivial⟩⟩
theorem tyOK97 : TyOK Try.prog 97 (tyT 97) := ⟨⟨_, _, _, Try.underlying97⟩, ⟨Try.t97, Try.type97, rfl, rfl, trivial⟩⟩
theorem tyOK98 : TyOK Try.prog 98 (tyT 98) := ⟨⟨_, Try.underlying98, rfl⟩, ⟨Try.t98, Try.type98, rfl, rfl, ⟨rfl, rfl, rfl, fun h => by first | rfl | cases h⟩⟩⟩
theorem tyOK99 : TyOK Try.prog 99 (tyT 99) := ⟨⟨_, Try.underlying99, rfl⟩, ⟨Try.t99, Try.type99, rfl, rfl, ⟨rfl, rfl, rfl, fun h => by first | rfl | cases h⟩⟩⟩
theorem tyOK100 : TyOK Try.prog 100 (tyT 100) := ⟨Try.underlying100, ⟨Try.t100, Try.type100, rfl, rfl, ⟨rfl, rfl, rfl, fun h => by first | rfl | cases h⟩⟩⟩
theorem tyOK101 : TyOK Try.prog 101 (tyT 101) := ⟨⟨_, _, _, Try.underlying101⟩, ⟨Try.t101, Try.type101, rfl, rfl, trivial⟩⟩
theorem tyOK102 : TyOK Try.prog 102 (tyT 102) := ⟨⟨_, _, _, Try.underlying102⟩, ⟨Try.t102, Try.type102, rfl, rfl, trivial⟩⟩
theorem tyOK103 : TyOK Try.prog 103 (tyT 103) := ⟨⟨_, _, _, Try.underlying103⟩, ⟨Try.t103, Try.type103, rfl, rfl, trivial⟩⟩
theorem tyOK104 : TyOK Try.prog 104 (tyT 104) := ⟨⟨_, _, _, Try.underlying104⟩, ⟨Try.t104, Try.type104, rfl, rfl, trivial⟩⟩
theorem tyOK106 : TyOK Try.prog 106 (tyT 106) := ⟨⟨_, _, _, Try.underlying106⟩, ⟨Try.t106, Try.type106, rfl, rfl, trivial⟩⟩
theorem tyOK107 : TyOK Try.prog 107 (tyT 107) := ⟨⟨_, _, _, Try.underlying107⟩, ⟨Try.t107, Try.type107, rfl, rfl, trivial⟩⟩
theorem tyOK108 : TyOK Try.prog 108 (tyT 108) := ⟨⟨_, _, _, Try.underlying108⟩, ⟨Try.t108, Try.type108, rfl, rfl, trivial⟩⟩
theorem tyOK109 : TyOK Try.prog 109 (tyT 109) := ⟨⟨_, _, _, Try.underlying109⟩, ⟨Try.t109, Try.type109, rfl, rfl, trivial⟩⟩
theorem tyOK110 : TyOK Try.prog 110 (tyT 110) := ⟨⟨_, _, _, Try.underlying110⟩, ⟨Try.t110, Try.type110, rfl, rfl, trivial⟩⟩
theorem tyOK111 : TyOK Try.prog 111 (tyT 111) := ⟨⟨_, _, _, Try.underlying111⟩, ⟨Try.t111, Try.type111, rfl, rfl, trivial⟩⟩
theorem tyOK112 : TyOK Try.prog 112 (tyT 112) := ⟨⟨_, _, _, Try.underlying112⟩, ⟨Try.t112, Try.type112, rfl, rfl, trivial⟩⟩
theorem tyOK113 : TyOK Try.prog 113 (tyT 113) := ⟨⟨_, _, _, Try.underlying113⟩, ⟨Try.t113, Try.type113, rfl, rfl, trivial⟩⟩
theorem tyOK114 : TyOK Try.prog 114 (tyT 114) := ⟨⟨_, Try.underlying114, rfl⟩, ⟨Try.t114, Try.type114, rfl, rfl, trivial⟩⟩
theorem tyOK115 : TyOK Try.prog 115 (tyT 115) := ⟨⟨_, Try.underlying115, rfl⟩, ⟨Try.t115, Try.type115, rfl, rfl, trivial⟩⟩
theorem tyOK117 : TyOK Try.prog 117 (tyT 117) := ⟨⟨_, Try.underlying117, rfl⟩, ⟨Try.t117, Try.type117, rfl, rfl, trivial⟩⟩
theorem tyOK118 : TyOK Try.prog 118 (tyT 118) := ⟨⟨_, Try.underlying118, rfl⟩, ⟨Try.t118, Try.type118, rfl, rfl, trivial⟩⟩
theorem tyOK119 : TyOK Try.prog 119 (tyT 119) := ⟨⟨_, _, _, Try.underlying119⟩, ⟨Try.t119, Try.type119, rfl, rfl, trivial⟩⟩
theorem tyOK120 : TyOK Try.prog 120 (tyT 120) := ⟨Try.underlying120, ⟨Try.t120, Try.type120, rfl, rfl, ⟨rfl, rfl, rfl, fun h => by first | rfl | cases h⟩⟩⟩
theorem tyOK121 : TyOK Try.prog 121 (tyT 121) := ⟨Try.underlying121, ⟨Try.t121, Try.type121, rfl, rfl, ⟨rfl, rfl, rfl, fun h => by first | rfl | cases h⟩⟩⟩
theorem tyOK122 : TyOK Try.prog 122 (tyT 122) := ⟨Try.underlying122, ⟨Try.t122, Try.type122, rfl, rfl, ⟨rfl, rfl, rfl, fun h => by first | rfl | cases h⟩⟩⟩
theorem tyOK123 : TyOK Try.prog 123 (tyT 123) := ⟨⟨_, _, _, Try.underlying123⟩, ⟨Try.t123, Try.type123, rfl, rfl, trivial⟩⟩
theorem tyOK124 : TyOK Try.prog 124 (tyT 124) := ⟨⟨_, Try.underlying124⟩, ⟨Try.t124, Try.type124, rfl, rfl, trivial⟩⟩
theorem tyOK125 : TyOK Try.prog 125 (tyT 125) := ⟨Try.underlying125, ⟨Try.t125, Try.type125, rfl, rfl, ⟨rfl, rfl, rfl, fun h => by first | rfl | cases h⟩⟩⟩
theorem tyOK126 : TyOK Try.prog 126 (tyT 126) := ⟨Try.underlying126, ⟨Try.t126, Try.type126, rfl, rfl, ⟨rfl, rfl, rfl, fun h => by first | rfl | cases h⟩⟩⟩
theorem tyOK127 : TyOK Try.prog 127 (tyT 127) := ⟨⟨_, Try.underlying127, rfl⟩, ⟨Try.t127, Try.type127, rfl, rfl, trivial⟩⟩
theorem tyOK128 : TyOK Try.prog 128 (tyT 128) := ⟨⟨_, Try.underlying128, rfl⟩, ⟨Try.t128, Try.type128, rfl, rfl, trivial⟩⟩

set_option maxRecDepth 100000 in
theorem tyOK : ∀ n, TyOK Try.prog n (tyT n) := by
  intro n
  unfold tyT
  split
  · exact tyOK1
  · exact tyOK2
  · exact tyOK3
  · exact tyOK4
  · exact tyOK5
  · exact tyOK6
  · exact tyOK7
  · exact tyOK8
  · exact tyOK9
  · exact tyOK10
  · exact tyOK11
  · exact tyOK12
  · exact tyOK13
  · exact tyOK14
  · exact tyOK15
  · exact tyOK16
  · exact tyOK17
  · exact tyOK18
  · exact tyOK19
  · exact tyOK20
  · exact tyOK21
  · exact tyOK22
  · exact tyOK23
  · exact tyOK24
  · exact tyOK25
  · exact tyOK26
  · exact tyOK27
  · exact tyOK29
  · exact tyOK30
  · exact tyOK31
  · exact tyOK32
  · exact tyOK33
  · exact tyOK34
  · exact tyOK35
  · exact tyOK36
  · exact tyOK37
  · exact tyOK38
  · exact tyOK39
  · exact tyOK40
  · exact tyOK42
  · exact tyOK44
  · exact tyOK45
  · exact tyOK46
  · exact tyOK47
  · exact tyOK48
  · exact tyOK49
  · exact tyOK50
  · exact tyOK51
  · exact tyOK52
  · exact tyOK53
  · exact tyOK54
  · exact tyOK55
  · exact tyOK56
  · exact tyOK57
  · exact tyOK58
  · exact tyOK60
  · exact tyOK61
  · exact tyOK62
  · exact tyOK63
  · exact tyOK64
  · exact tyOK65
  · exact tyOK66
  · exact tyOK67
  · exact tyOK68
  · exact tyOK69
  · exact tyOK70
  · exact tyOK71
  · exact tyOK72
  · exact tyOK73
  · exact tyOK74
  · exact tyOK75
  · exact tyOK76
  · exact tyOK77
  · exact tyOK78
  · exact tyOK79
  · exact tyOK80
  · exact tyOK81
  · exact tyOK82
  · exact tyOK83
  · exact tyOK84
  · exact tyOK85
  · exact tyOK86
  · exact tyOK87
  · exact tyOK88
  · exact tyOK89
  · exact tyOK90
  · exact tyOK91
  · exact tyOK92
  · exact tyOK93
  · exact tyOK94
  · exact tyOK95
  · exact tyOK96
  · exact tyOK97
  · exact tyOK98
  · exact tyOK99
  · exact tyOK100
  · exact tyOK101
  · exact tyOK102
  · exact tyOK103
  · exact tyOK104
  · exact tyOK106
  · exact tyOK107
  · exact tyOK108
  · exact tyOK109
  · exact tyOK110
  · exact tyOK111
  · exact tyOK112
  · exact tyOK113
  · exact tyOK114
  · exact tyOK115
  · exact tyOK117
  · exact tyOK118
  · exact tyOK119
  · exact tyOK120
  · exact tyOK121
  · exact tyOK122
  · exact tyOK123
  · exact tyOK124
  · exact tyOK125
  · exact tyOK126
  · exact tyOK127
  · exact tyOK128
  · exact ⟨trivial, trivial⟩

def TT : Tab Try.prog := ⟨tyT, tyOK⟩

theorem TT_1 : TT.T 1 = ⟨Ty.func, 1, 8, none⟩ := rfl
theorem TT_2 : TT.T 2 = ⟨Ty.int .i64, 1, 8, some [.int .i64 0]⟩ := rfl
theorem TT_3 : TT.T 3 = ⟨Ty.int .i64, 1, 8, some [.int .i64 0]⟩ := rfl
theorem TT_4 : TT.T 4 = ⟨Ty.bool, 1, 1, some [.bool false]⟩ := rfl
theorem TT_5 : TT.T 5 = ⟨Ty.int .u8, 1, 1, some [.int .u8 0]⟩ := rfl
theorem TT_6 : TT.T 6 = ⟨Ty.int .u8, 1, 1, some [.int .u8 0]⟩ := rfl
theorem TT_7 : TT.T 7 = ⟨Ty.strct [(0, 2), (1, 3), (2, 4), (3, 6)], 4, 24, some [.int .i64 0, .int .i64 0, .bool false, .int .u8 0]⟩ := rfl
theorem TT_8 : TT.T 8 = ⟨Ty.strct [(0, 2), (1, 3), (2, 4), (3, 6)], 4, 24, some [.int .i64 0, .int .i64 0, .bool false, .int .u8 0]⟩ := rfl
theorem TT_9 : TT.T 9 = ⟨Ty.str, 1, 16, some [.str []]⟩ := rfl
theorem TT_10 : TT.T 10 = ⟨Ty.str, 1, 16, some [.str []]⟩ := rfl
theorem TT_11 : TT.T 11 = ⟨Ty.str, 1, 16, some [.str []]⟩ := rfl
theorem TT_12 : TT.T 12 = ⟨Ty.int .u64, 1, 8, some [.int .u64 0]⟩ := rfl
theorem TT_13 : TT.T 13 = ⟨Ty.strct [(0, 9), (1, 12)], 2, 24, some [.str [], .int .u64 0]⟩ := rfl
theorem TT_14 : TT.T 14 = ⟨Ty.strct [(0, 9), (1, 12)], 2, 24, some [.str [], .int .u64 0]⟩ := rfl
theorem TT_15 : TT.T 15 = ⟨Ty.ptr, 1, 8, none⟩ := rfl
theorem TT_16 : TT.T 16 = ⟨Ty.ptr, 1, 8, none⟩ := rfl
theorem TT_17 : TT.T 17 = ⟨Ty.ptr, 1, 8, none⟩ := rfl
theorem TT_18 : TT.T 18 = ⟨Ty.strct [(0, 17)], 1, 8, none⟩ := rfl
theorem TT_19 : TT.T 19 = ⟨Ty.strct [(0, 17)], 1, 8, none⟩ := rfl
theorem TT_20 : TT.T 20 = ⟨Ty.iface, 1, 16, none⟩ := rfl
theorem TT_21 : TT.T 21 = ⟨Ty.int .i32, 1, 4, some [.int .i32 0]⟩ := rfl
theorem TT_22 : TT.T 22 = ⟨Ty.slice 5, 1, 24, some [.sl 1 [] .full]⟩ := rfl
theorem TT_23 : TT.T 23 = ⟨Ty.slice 25, 1, 24, some [.sl 4 [] .full]⟩ := rfl
theorem TT_24 : TT.T 24 = ⟨Ty.strct [(0, 3), (1, 3), (2, 9), (3, 23)], 4, 56, some [.int .i64 0, .int .i64 0, .str [], .sl 4 [] .full]⟩ := rfl
theorem TT_25 : TT.T 25 = ⟨Ty.strct [(0, 3), (1, 3), (2, 9), (3, 23)], 4, 56, some [.int .i64 0, .int .i64 0, .str [], .sl 4 [] .full]⟩ := rfl
theorem TT_26 : TT.T 26 = ⟨Ty.strct [(0, 9), (1, 4), (2, 3), (3, 3), (4, 3), (5, 25)], 9, 104, some [.str [], .bool false, .int .i64 0, .int .i64 0, .int .i64 0, .int .i64 0, .int .i64 0, .str [], .sl 4 [] .full]⟩ := rfl
theorem TT_27 : TT.T 27 = ⟨Ty.strct [(0, 9), (1, 4), (2, 3), (3, 3), (4, 3), (5, 25)], 9, 104, some [.str [], .bool false, .int .i64 0, .int .i64 0, .int .i64 0, .int .i64 0, .int .i64 0, .str [], .sl 4 [] .full]⟩ := rfl
theorem TT_29 : TT.T 29 = ⟨Ty.func, 1, 8, none⟩ := rfl
theorem TT_30 : TT.T 30 = ⟨Ty.func, 1, 8, none⟩ := rfl
theorem TT_31 : TT.T 31 = ⟨Ty.func, 1, 8, none⟩ := rfl
theorem TT_32 : TT.T 32 = ⟨Ty.func, 1, 8, none⟩ := rfl
theorem TT_33 : TT.T 33 = ⟨Ty.slice 35, 1, 24, some [.sl 4 [] .full]⟩ := rfl
theorem TT_34 : TT.T 34 = ⟨Ty.strct [(0, 3), (1, 3), (2, 9), (3, 33)], 4, 56, some [.int .i64 0, .int .i64 0, .str [], .sl 4 [] .full]⟩ := rfl
theorem TT_35 : TT.T 35 = ⟨Ty.strct [(0, 3), (1, 3), (2, 9), (3, 33)], 4, 56, some [.int .i64 0, .int .i64 0, .str [], .sl 4 [] .full]⟩ := rfl
theorem TT_36 : TT.T 36 = ⟨Ty.strct [(0, 9), (1, 4), (2, 3), (3, 3), (4, 3), (5, 35)], 9, 104, some [.str [], .bool false, .int .i64 0, .int .i64 0, .int .i64 0, .int .i64 0, .int .i64 0, .str [], .sl 4 [] .full]⟩ := rfl
theorem TT_37 : TT.T 37 = ⟨Ty.strct [(0, 9), (1, 4), (2, 3), (3, 3), (4, 3), (5, 35)], 9, 104, some [.str [], .bool false, .int .i64 0, .int .i64 0, .int .i64 0, .int .i64 0, .int .i64 0, .str [], .sl 4 [] .full]⟩ := rfl
theorem TT_38 : TT.T 38 = ⟨Ty.func, 1, 8, none⟩ := rfl
theorem TT_39 : TT.T 39 = ⟨Ty.func, 1, 8, none⟩ := rfl
theorem TT_40 : TT.T 40 = ⟨Ty.func, 1, 8, none⟩ := rfl
theorem TT_42 : TT.T 42 = ⟨Ty.func, 1, 8, none⟩ := rfl
theorem TT_44 : TT.T 44 = ⟨Ty.func, 1, 8, none⟩ := rfl
theorem TT_45 : TT.T 45 = ⟨Ty.func, 1, 8, none⟩ := rfl
theorem TT_46 : TT.T 46 = ⟨Ty.func, 1, 8, none⟩ := rfl
theorem TT_47 : TT.T 47 = ⟨Ty.func, 1, 8, none⟩ := rfl
theorem TT_48 : TT.T 48 = ⟨Ty.func, 1, 8, none⟩ := rfl
theorem TT_49 : TT.T 49 = ⟨Ty.func, 1, 8, none⟩ := rfl
theorem TT_50 : TT.T 50 = ⟨Ty.func, 1, 8, none⟩ := rfl
theorem TT_51 : TT.T 51 = ⟨Ty.func, 1, 8, none⟩ := rfl
theorem TT_52 : TT.T 52 = ⟨Ty.func, 1, 8, none⟩ := rfl
theorem TT_53 : TT.T 53 = ⟨Ty.func, 1, 8, none⟩ := rfl
theorem TT_54 : TT.T 54 = ⟨Ty.func, 1, 8, none⟩ := rfl
theorem TT_55 : TT.T 55 = ⟨Ty.func, 1, 8, none⟩ := rfl
theorem TT_56 : TT.T 56 = ⟨Ty.func, 1, 8, none⟩ := rfl
theorem TT_57 : TT.T 57 = ⟨Ty.slice 66, 1, 24, some [.sl 3 [] .full]⟩ := rfl
theorem TT_58 : TT.T 58 = ⟨Ty.slice 9, 1, 24, some [.sl 1 [] .full]⟩ := rfl
theorem TT_60 : TT.T 60 = ⟨Ty.func, 1, 8, none⟩ := rfl
theorem TT_61 : TT.T 61 = ⟨Ty.func, 1, 8, none⟩ := rfl
theorem TT_62 : TT.T 62 = ⟨Ty.func, 1, 8, none⟩ := rfl
theorem TT_63 : TT.T 63 = ⟨Ty.strct [(0, 3), (1, 3)], 2, 16, some [.int .i64 0, .int .i64 0]⟩ := rfl
theorem TT_64 : TT.T 64 = ⟨Ty.strct [(0, 3), (1, 3)], 2, 16, some [.int .i64 0, .int .i64 0]⟩ := rfl
theorem TT_65 : TT.T 65 = ⟨Ty.strct [(0, 9), (1, 64)], 3, 32, some [.str [], .int .i64 0, .int .i64 0]⟩ := rfl
theorem TT_66 : TT.T 66 = ⟨Ty.strct [(0, 9), (1, 64)], 3, 32, some [.str [], .int .i64 0, .int .i64 0]⟩ := rfl
theorem TT_67 : TT.T 67 = ⟨Ty.slice 94, 1, 24, some [.sl 3 [] .full]⟩ := rfl
theorem TT_68 : TT.T 68 = ⟨Ty.func, 1, 8, none⟩ := rfl
theorem TT_69 : TT.T 69 = ⟨Ty.func, 1, 8, none⟩ := rfl
theorem TT_70 : TT.T 70 = ⟨Ty.func, 1, 8, none⟩ := rfl
theorem TT_71 : TT.T 71 = ⟨Ty.func, 1, 8, none⟩ := rfl
theorem TT_72 : TT.T 72 = ⟨Ty.func, 1, 8, none⟩ := rfl
theorem TT_73 : TT.T 73 = ⟨Ty.func, 1, 8, none⟩ := rfl
theorem TT_74 : TT.T 74 = ⟨Ty.func, 1, 8, none⟩ := rfl
theorem TT_75 : TT.T 75 = ⟨Ty.ptr, 1, 8, none⟩ := rfl
theorem TT_76 : TT.T 76 = ⟨Ty.func, 1, 8, none⟩ := rfl
theorem TT_77 : TT.T 77 = ⟨Ty.func, 1, 8, none⟩ := rfl
theorem TT_78 : TT.T 78 = ⟨Ty.func, 1, 8, none⟩ := rfl
theorem TT_79 : TT.T 79 = ⟨Ty.func, 1, 8, none⟩ := rfl
theorem TT_80 : TT.T 80 = ⟨Ty.func, 1, 8, none⟩ := rfl
theorem TT_81 : TT.T 81 = ⟨Ty.func, 1, 8, none⟩ := rfl
theorem TT_82 : TT.T 82 = ⟨Ty.func, 1, 8, none⟩ := rfl
theorem TT_83 : TT.T 83 = ⟨Ty.func, 1, 8, none⟩ := rfl
theorem TT_84 : TT.T 84 = ⟨Ty.func, 1, 8, none⟩ := rfl
theorem TT_85 : TT.T 85 = ⟨Ty.func, 1, 8, none⟩ := rfl
theorem TT_86 : TT.T 86 = ⟨Ty.func, 1, 8, none⟩ := rfl
theorem TT_87 : TT.T 87 = ⟨Ty.func, 1, 8, none⟩ := rfl
theorem TT_88 : TT.T 88 = ⟨Ty.func, 1, 8, none⟩ := rfl
theorem TT_89 : TT.T 89 = ⟨Ty.func, 1, 8, none⟩ := rfl
theorem TT_90 : TT.T 90 = ⟨Ty.func, 1, 8, none⟩ := rfl
theorem TT_91 : TT.T 91 = ⟨Ty.func, 1, 8, none⟩ := rfl
theorem TT_92 : TT.T 92 = ⟨Ty.strct [(0, 3), (1, 3)], 2, 16, some [.int .i64 0, .int .i64 0]⟩ := rfl
theorem TT_93 : TT.T 93 = ⟨Ty.strct [(0, 9), (1, 92)], 3, 32, some [.str [], .int .i64 0, .int .i64 0]⟩ := rfl
theorem TT_94 : TT.T 94 = ⟨Ty.strct [(0, 9), (1, 92)], 3, 32, some [.str [], .int .i64 0, .int .i64 0]⟩ := rfl
theorem TT_95 : TT.T 95 = ⟨Ty.func, 1, 8, none⟩ := rfl
theorem TT_96 : TT.T 96 = ⟨Ty.func, 1, 8, none⟩ := rfl
theorem TT_97 : TT.T 97 = ⟨Ty.func, 1, 8, none⟩ := rfl
theorem TT_98 : TT.T 98 = ⟨Ty.strct [(0, 22), (1, 3)], 2, 32, some [.sl 1 [] .full, .int .i64 0]⟩ := rfl
theorem TT_99 : TT.T 99 = ⟨Ty.strct [(0, 22), (1, 3)], 2, 32, some [.sl 1 [] .full, .int .i64 0]⟩ := rfl
theorem TT_100 : TT.T 100 = ⟨Ty.slice 3, 1, 24, some [.sl 1 [] .full]⟩ := rfl
theorem TT_101 : TT.T 101 = ⟨Ty.func, 1, 8, none⟩ := rfl
theorem TT_102 : TT.T 102 = ⟨Ty.func, 1, 8, none⟩ := rfl
theorem TT_103 : TT.T 103 = ⟨Ty.func, 1, 8, none⟩ := rfl
theorem TT_104 : TT.T 104 = ⟨Ty.func, 1, 8, none⟩ := rfl
theorem TT_106 : TT.T 106 = ⟨Ty.func, 1, 8, none⟩ := rfl
theorem TT_107 : TT.T 107 = ⟨Ty.func, 1, 8, none⟩ := rfl
theorem TT_108 : TT.T 108 = ⟨Ty.func, 1, 8, none⟩ := rfl
theorem TT_109 : TT.T 109 = ⟨Ty.func, 1, 8, none⟩ := rfl
theorem TT_110 : TT.T 110 = ⟨Ty.func, 1, 8, none⟩ := rfl
theorem TT_111 : TT.T 111 = ⟨Ty.func, 1, 8, none⟩ := rfl
theorem TT_112 : TT.T 112 = ⟨Ty.func, 1, 8, none⟩ := rfl
theorem TT_113 : TT.T 113 = ⟨Ty.func, 1, 8, none⟩ := rfl
theorem TT_114 : TT.T 114 = ⟨Ty.strct [(0, 17), (1, 17), (2, 17), (3, 9)], 4, 40, none⟩ := rfl
theorem TT_115 : TT.T 115 = ⟨Ty.strct [(0, 17), (1, 17), (2, 17), (3, 9)], 4, 40, none⟩ := rfl
theorem TT_117 : TT.T 117 = ⟨Ty.strct [(0, 116)], 0, 0, none⟩ := rfl
theorem TT_118 : TT.T 118 = ⟨Ty.strct [(0, 116)], 0, 0, none⟩ := rfl
theorem TT_119 : TT.T 119 = ⟨Ty.func, 1, 8, none⟩ := rfl
theorem TT_120 : TT.T 120 = ⟨Ty.int .u32, 1, 4, some [.int .u32 0]⟩ := rfl
theorem TT_121 : TT.T 121 = ⟨Ty.int .u8, 1, 1, some [.int .u8 0]⟩ := rfl
theorem TT_122 : TT.T 122 = ⟨Ty.int .u8, 1, 1, some [.int .u8 0]⟩ := rfl
theorem TT_123 : TT.T 123 = ⟨Ty.func, 1, 8, none⟩ := rfl
theorem TT_124 : TT.T 124 = ⟨Ty.ptr, 1, 8, none⟩ := rfl
theorem TT_125 : TT.T 125 = ⟨Ty.int .i32, 1, 4, some [.int .i32 0]⟩ := rfl
theorem TT_126 : TT.T 126 = ⟨Ty.int .i32, 1, 4, some [.int .i32 0]⟩ := rfl
theorem TT_127 : TT.T 127 = ⟨Ty.strct [(0, 12), (1, 12), (2, 120), (3, 121), (4, 5), (5, 5), (6, 122), (7, 123), (8, 124), (9, 125), (10, 126)], 11, 48, none⟩ := rfl
theorem TT_128 : TT.T 128 = ⟨Ty.strct [(0, 12), (1, 12), (2, 120), (3, 121), (4, 5), (5, 5), (6, 122), (7, 123), (8, 124), (9, 125), (10, 126)], 11, 48, none⟩ := rfl
attribute [go_sem] TT_1 TT_2 TT_3 TT_4 TT_5 TT_6 TT_7 TT_8 TT_9 TT_10 TT_11 TT_12 TT_13 TT_14 TT_15 TT_16 TT_17 TT_18 TT_19 TT_20 TT_21 TT_22 TT_23 TT_24 TT_25 TT_26 TT_27 TT_29 TT_30 TT_31 TT_32 TT_33 TT_34 TT_35 TT_36 TT_37 TT_38 TT_39 TT_40 TT_42 TT_44 TT_45 TT_46 TT_47 TT_48 TT_49 TT_50 TT_51 TT_52 TT_53 TT_54 TT_55 TT_56 TT_57 TT_58 TT_60 TT_61 TT_62 TT_63 TT_64 TT_65 TT_66 TT_67 TT_68 TT_69 TT_70 TT_71 TT_72 TT_73 TT_74 TT_75 TT_76 TT_77 TT_78 TT_79 TT_80 TT_81 TT_82 TT_83 TT_84 TT_85 TT_86 TT_87 TT_88 TT_89 TT_90 TT_91 TT_92 TT_93 TT_94 TT_95 TT_96 TT_97 TT_98 TT_99 TT_100 TT_101 TT_102 TT_103 TT_104 TT_106 TT_107 TT_108 TT_109 TT_110 TT_111 TT_112 TT_113 TT_114 TT_115 TT_117 TT_118 TT_119 TT_120 TT_121 TT_122 TT_123 TT_124 TT_125 TT_126 TT_127 TT_128
theorem MX : Try.prog.follows .mixedOrders = true := by kernel_rfl
end Go.Proofs.Ytndpddckomgdbaa
