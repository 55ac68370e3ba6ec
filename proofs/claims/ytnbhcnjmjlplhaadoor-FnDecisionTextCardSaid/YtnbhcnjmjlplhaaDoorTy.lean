/- The types of the translation, as the abstract logic has them: for each its form, its cells, its bytes and its zero value. Printed by a program from the translation; each row is proved from the loaded program's own facts. -/
import Derived.Test.YtnbhcnjmjlplhaaDoorProg
import Derived.Test.YtnbhcnjmjlplhaaDoorCoreD
namespace Go.Proofs.YtnbhcnjmjlplhaaDoor
open Go Go.AL
set_option maxRecDepth 100000

set_option maxRecDepth 100000 in
def tyT : Nat → TyI
  | 1 => ⟨Ty.func, 1, 8, none⟩
  | 2 => ⟨Ty.int .i64, 1, 8, some [.int .i64 0]⟩
  | 3 => ⟨Ty.int .i64, 1, 8, some [.int .i64 0]⟩
  | 4 => ⟨Ty.bool, 1, 1, some [.bool false]⟩
  | 5 => ⟨Ty.int .u8, 1, 1, some [.int .u8 0]⟩
  | 6 => ⟨Ty.int .u8, 1, 1, some [.int .u8 0]⟩
  | 7 => ⟨Ty.strct [(0, 2), (1, 3), (2, 4), (3, 6)], 4, 24, some [.int .i64 0, .int .i64 0, .bool false, .int .u8 0]⟩
  | 8 => ⟨Ty.strct [(0, 2), (1, 3), (2, 4), (3, 6)], 4, 24, some [.int .i64 0, .int .i64 0, .bool false, .int .u8 0]⟩
  | 9 => ⟨Ty.str, 1, 16, some [.str []]⟩
  | 10 => ⟨Ty.str, 1, 16, some [.str []]⟩
  | 11 => ⟨Ty.str, 1, 16, some [.str []]⟩
  | 12 => ⟨Ty.int .u64, 1, 8, some [.int .u64 0]⟩
  | 13 => ⟨Ty.strct [(0, 9), (1, 12)], 2, 24, some [.str [], .int .u64 0]⟩
  | 14 => ⟨Ty.strct [(0, 9), (1, 12)], 2, 24, some [.str [], .int .u64 0]⟩
  | 15 => ⟨Ty.ptr, 1, 8, none⟩
  | 16 => ⟨Ty.ptr, 1, 8, none⟩
  | 17 => ⟨Ty.ptr, 1, 8, none⟩
  | 18 => ⟨Ty.strct [(0, 17)], 1, 8, none⟩
  | 19 => ⟨Ty.strct [(0, 17)], 1, 8, none⟩
  | 20 => ⟨Ty.iface, 1, 16, none⟩
  | 21 => ⟨Ty.int .i32, 1, 4, some [.int .i32 0]⟩
  | 22 => ⟨Ty.slice 5, 1, 24, some [.sl 1 [] .full]⟩
  | 23 => ⟨Ty.slice 3, 1, 24, some [.sl 1 [] .full]⟩
  | 24 => ⟨Ty.strct [(0, 4), (1, 23), (2, 23)], 3, 56, some [.bool false, .sl 1 [] .full, .sl 1 [] .full]⟩
  | 25 => ⟨Ty.strct [(0, 4), (1, 23), (2, 23)], 3, 56, some [.bool false, .sl 1 [] .full, .sl 1 [] .full]⟩
  | 26 => ⟨Ty.func, 1, 8, none⟩
  | 27 => ⟨Ty.func, 1, 8, none⟩
  | 28 => ⟨Ty.func, 1, 8, none⟩
  | 29 => ⟨Ty.func, 1, 8, none⟩
  | 30 => ⟨Ty.strct [(0, 4), (1, 23), (2, 23)], 3, 56, some [.bool false, .sl 1 [] .full, .sl 1 [] .full]⟩
  | 31 => ⟨Ty.func, 1, 8, none⟩
  | 32 => ⟨Ty.func, 1, 8, none⟩
  | 33 => ⟨Ty.func, 1, 8, none⟩
  | 34 => ⟨Ty.func, 1, 8, none⟩
  | 35 => ⟨Ty.ptr, 1, 8, none⟩
  | 36 => ⟨Ty.func, 1, 8, none⟩
  | 37 => ⟨Ty.func, 1, 8, none⟩
  | 38 => ⟨Ty.func, 1, 8, none⟩
  | 39 => ⟨Ty.func, 1, 8, none⟩
  | 40 => ⟨Ty.func, 1, 8, none⟩
  | 41 => ⟨Ty.func, 1, 8, none⟩
  | 42 => ⟨Ty.func, 1, 8, none⟩
  | 43 => ⟨Ty.slice 23, 1, 24, some [.sl 1 [] .full]⟩
  | 44 => ⟨Ty.slice 9, 1, 24, some [.sl 1 [] .full]⟩
  | 45 => ⟨Ty.func, 1, 8, none⟩
  | 46 => ⟨Ty.func, 1, 8, none⟩
  | 47 => ⟨Ty.func, 1, 8, none⟩
  | 48 => ⟨Ty.func, 1, 8, none⟩
  | 49 => ⟨Ty.func, 1, 8, none⟩
  | 50 => ⟨Ty.strct [(0, 22), (1, 3)], 2, 32, some [.sl 1 [] .full, .int .i64 0]⟩
  | 51 => ⟨Ty.strct [(0, 22), (1, 3)], 2, 32, some [.sl 1 [] .full, .int .i64 0]⟩
  | 52 => ⟨Ty.func, 1, 8, none⟩
  | 53 => ⟨Ty.func, 1, 8, none⟩
  | 54 => ⟨Ty.ptr, 1, 8, none⟩
  | 55 => ⟨Ty.strct [(0, 54), (1, 22)], 2, 32, none⟩
  | 56 => ⟨Ty.strct [(0, 54), (1, 22)], 2, 32, none⟩
  | 57 => ⟨Ty.iface, 1, 16, none⟩
  | 58 => ⟨Ty.iface, 1, 16, none⟩
  | 60 => ⟨Ty.func, 1, 8, none⟩
  | 61 => ⟨Ty.func, 1, 8, none⟩
  | 62 => ⟨Ty.ptr, 1, 8, none⟩
  | 64 => ⟨Ty.func, 1, 8, none⟩
  | 65 => ⟨Ty.func, 1, 8, none⟩
  | 67 => ⟨Ty.int .u64, 1, 8, some [.int .u64 0]⟩
  | 68 => ⟨Ty.func, 1, 8, none⟩
  | 69 => ⟨Ty.func, 1, 8, none⟩
  | 71 => ⟨Ty.func, 1, 8, none⟩
  | 72 => ⟨Ty.func, 1, 8, none⟩
  | 74 => ⟨Ty.int .u32, 1, 4, some [.int .u32 0]⟩
  | 76 => ⟨Ty.int .u64, 1, 8, some [.int .u64 0]⟩
  | 77 => ⟨Ty.func, 1, 8, none⟩
  | 78 => ⟨Ty.func, 1, 8, none⟩
  | 81 => ⟨Ty.strct [(0, 17), (1, 17), (2, 17), (3, 9)], 4, 40, none⟩
  | 82 => ⟨Ty.strct [(0, 17), (1, 17), (2, 17), (3, 9)], 4, 40, none⟩
  | 84 => ⟨Ty.strct [(0, 83)], 0, 0, none⟩
  | 85 => ⟨Ty.strct [(0, 83)], 0, 0, none⟩
  | 86 => ⟨Ty.func, 1, 8, none⟩
  | 87 => ⟨Ty.int .u8, 1, 1, some [.int .u8 0]⟩
  | 88 => ⟨Ty.int .u8, 1, 1, some [.int .u8 0]⟩
  | 89 => ⟨Ty.func, 1, 8, none⟩
  | 90 => ⟨Ty.int .i32, 1, 4, some [.int .i32 0]⟩
  | 91 => ⟨Ty.int .i32, 1, 4, some [.int .i32 0]⟩
  | 92 => ⟨Ty.strct [(0, 12), (1, 12), (2, 74), (3, 87), (4, 5), (5, 5), (6, 88), (7, 89), (8, 62), (9, 90), (10, 91)], 11, 48, none⟩
  | 93 => ⟨Ty.strct [(0, 12), (1, 12), (2, 74), (3, 87), (4, 5), (5, 5), (6, 88), (7, 89), (8, 62), (9, 90), (10, 91)], 11, 48, none⟩
  | _ => ⟨.other, 0, 0, none⟩

theorem tyOK1 : TyOK Tryd.prog 1 (tyT 1) := ⟨⟨_, _, _, Tryd.underlying1⟩, ⟨Tryd.t1, Tryd.type1, rfl, rfl, trivial⟩⟩
theorem tyOK2 : TyOK Tryd.prog 2 (tyT 2) := ⟨Tryd.underlying2, ⟨Tryd.t2, Tryd.type2, rfl, rfl, ⟨rfl, rfl, rfl, fun h => by first | rfl | cases h⟩⟩⟩
theorem tyOK3 : TyOK Tryd.prog 3 (tyT 3) := ⟨Tryd.underlying3, ⟨Tryd.t3, Tryd.type3, rfl, rfl, ⟨rfl, rfl, rfl, fun h => by first | rfl | cases h⟩⟩⟩
theorem tyOK4 : TyOK Tryd.prog 4 (tyT 4) := ⟨Tryd.underlying4, ⟨Tryd.t4, Tryd.type4, rfl, rfl, ⟨rfl, rfl, rfl, fun h => by first | rfl | cases h⟩⟩⟩
theorem tyOK5 : TyOK Tryd.prog 5 (tyT 5) := ⟨Tryd.underlying5, ⟨Tryd.t5, Tryd.type5, rfl, rfl, ⟨rfl, rfl, rfl, fun h => by first | rfl | cases h⟩⟩⟩
theorem tyOK6 : TyOK Tryd.prog 6 (tyT 6) := ⟨Tryd.underlying6, ⟨Tryd.t6, Tryd.type6, rfl, rfl, ⟨rfl, rfl, rfl, fun h => by first | rfl | cases h⟩⟩⟩
theorem tyOK7 : TyOK Tryd.prog 7 (tyT 7) := ⟨⟨_, Tryd.underlying7, rfl⟩, ⟨Tryd.t7, Tryd.type7, rfl, rfl, ⟨rfl, rfl, rfl, fun h => by first | rfl | cases h⟩⟩⟩
theorem tyOK8 : TyOK Tryd.prog 8 (tyT 8) := ⟨⟨_, Tryd.underlying8, rfl⟩, ⟨Tryd.t8, Tryd.type8, rfl, rfl, ⟨rfl, rfl, rfl, fun h => by first | rfl | cases h⟩⟩⟩
theorem tyOK9 : TyOK Tryd.prog 9 (tyT 9) := ⟨Tryd.underlying9, ⟨Tryd.t9, Tryd.type9, rfl, rfl, ⟨rfl, rfl, rfl, fun h => by first | rfl | cases h⟩⟩⟩
theorem tyOK10 : TyOK Tryd.prog 10 (tyT 10) := ⟨Tryd.underlying10, ⟨Tryd.t10, Tryd.type10, rfl, rfl, ⟨rfl, rfl, rfl, fun h => by first | rfl | cases h⟩⟩⟩
theorem tyOK11 : TyOK Tryd.prog 11 (tyT 11) := ⟨Tryd.underlying11, ⟨Tryd.t11, Tryd.type11, rfl, rfl, ⟨rfl, rfl, rfl, fun h => by first | rfl | cases h⟩⟩⟩
theorem tyOK12 : TyOK Tryd.prog 12 (tyT 12) := ⟨Tryd.underlying12, ⟨Tryd.t12, Tryd.type12, rfl, rfl, ⟨rfl, rfl, rfl, fun h => by first | rfl | cases h⟩⟩⟩
theorem tyOK13 : TyOK Tryd.prog 13 (tyT 13) := ⟨⟨_, Tryd.underlying13, rfl⟩, ⟨Tryd.t13, Tryd.type13, rfl, rfl, ⟨rfl, rfl, rfl, fun h => by first | rfl | cases h⟩⟩⟩
theorem tyOK14 : TyOK Tryd.prog 14 (tyT 14) := ⟨⟨_, Tryd.underlying14, rfl⟩, ⟨Tryd.t14, Tryd.type14, rfl, rfl, ⟨rfl, rfl, rfl, fun h => by first | rfl | cases h⟩⟩⟩
theorem tyOK15 : TyOK Tryd.prog 15 (tyT 15) := ⟨⟨_, Tryd.underlying15⟩, ⟨Tryd.t15, Tryd.type15, rfl, rfl, trivial⟩⟩
theorem tyOK16 : TyOK Tryd.prog 16 (tyT 16) := ⟨⟨_, Tryd.underlying16⟩, ⟨Tryd.t16, Tryd.type16, rfl, rfl, trivial⟩⟩
theorem tyOK17 : TyOK Tryd.prog 17 (tyT 17) := ⟨⟨_, Tryd.underlying17⟩, ⟨Tryd.t17, Tryd.type17, rfl, rfl, trivial⟩⟩
theorem tyOK18 : TyOK Tryd.prog 18 (tyT 18) := ⟨⟨_, Tryd.underlying18, rfl⟩, ⟨Tryd.t18, Tryd.type18, rfl, rfl, trivial⟩⟩
theorem tyOK19 : TyOK Tryd.prog 19 (tyT 19) := ⟨⟨_, Tryd.underlying19, rfl⟩, ⟨Tryd.t19, Tryd.type19, rfl, rfl, trivial⟩⟩
theorem tyOK20 : TyOK Tryd.prog 20 (tyT 20) := ⟨⟨_, Tryd.underlying20⟩, ⟨Tryd.t20, Tryd.type20, rfl, rfl, trivial⟩⟩
theorem tyOK21 : TyOK Tryd.prog 21 (tyT 21) := ⟨Tryd.underlying21, ⟨Tryd.t21, Tryd.type21, rfl, rfl, ⟨rfl, rfl, rfl, fun h => by first | rfl | cases h⟩⟩⟩
theorem tyOK22 : TyOK Tryd.prog 22 (tyT 22) := ⟨Tryd.underlying22, ⟨Tryd.t22, Tryd.type22, rfl, rfl, ⟨rfl, rfl, rfl, fun h => by first | rfl | cases h⟩⟩⟩
theorem tyOK23 : TyOK Tryd.prog 23 (tyT 23) := ⟨Tryd.underlying23, ⟨Tryd.t23, Tryd.type23, rfl, rfl, ⟨rfl, rfl, rfl, fun h => by first | rfl | cases h⟩⟩⟩
theorem tyOK24 : TyOK Tryd.prog 24 (tyT 24) := ⟨⟨_, Tryd.underlying24, rfl⟩, ⟨Tryd.t24, Tryd.type24, rfl, rfl, ⟨rfl, rfl, rfl, fun h => by first | rfl | cases h⟩⟩⟩
theorem tyOK25 : TyOK Tryd.prog 25 (tyT 25) := ⟨⟨_, Tryd.underlying25, rfl⟩, ⟨Tryd.t25, Tryd.type25, rfl, rfl, ⟨rfl, rfl, rfl, fun h => by first | rfl | cases h⟩⟩⟩
theorem tyOK26 : TyOK Tryd.prog 26 (tyT 26) := ⟨⟨_, _, _, Tryd.underlying26⟩, ⟨Tryd.t26, Tryd.type26, rfl, rfl, trivial⟩⟩
theorem tyOK27 : TyOK Tryd.prog 27 (tyT 27) := ⟨⟨_, _, _, Tryd.underlying27⟩, ⟨Tryd.t27, Tryd.type27, rfl, rfl, trivial⟩⟩
theorem tyOK28 : TyOK Tryd.prog 28 (tyT 28) := ⟨⟨_, _, _, Tryd.underlying28⟩, ⟨Tryd.t28, Tryd.type28, rfl, rfl, trivial⟩⟩
theorem tyOK29 : TyOK Tryd.prog 29 (tyT 29) := ⟨⟨_, _, _, Tryd.underlying29⟩, ⟨Tryd.t29, Tryd.type29, rfl, rfl, trivial⟩⟩
theorem tyOK30 : TyOK Tryd.prog 30 (tyT 30) := ⟨⟨_, Tryd.underlying30, rfl⟩, ⟨Tryd.t30, Tryd.type30, rfl, rfl, ⟨rfl, rfl, rfl, fun h => by first | rfl | cases h⟩⟩⟩
theorem tyOK31 : TyOK Tryd.prog 31 (tyT 31) := ⟨⟨_, _, _, Tryd.underlying31⟩, ⟨Tryd.t31, Tryd.type31, rfl, rfl, trivial⟩⟩
theorem tyOK32 : TyOK Tryd.prog 32 (tyT 32) := ⟨⟨_, _, _, Tryd.underlying32⟩, ⟨Tryd.t32, Tryd.type32, rfl, rfl, trivial⟩⟩
theorem tyOK33 : TyOK Tryd.prog 33 (tyT 33) := ⟨⟨_, _, _, Tryd.underlying33⟩, ⟨Tryd.t33, Tryd.type33, rfl, rfl, trivial⟩⟩
theorem tyOK34 : TyOK Tryd.prog 34 (tyT 34) := ⟨⟨_, _, _, Tryd.underlying34⟩, ⟨Tryd.t34, Tryd.type34, rfl, rfl, trivial⟩⟩
theorem tyOK35 : TyOK Tryd.prog 35 (tyT 35) := ⟨⟨_, Tryd.underlying35⟩, ⟨Tryd.t35, Tryd.type35, rfl, rfl, trivial⟩⟩
theorem tyOK36 : TyOK Tryd.prog 36 (tyT 36) := ⟨⟨_, _, _, Tryd.underlying36⟩, ⟨Tryd.t36, Tryd.type36, rfl, rfl, trivial⟩⟩
theorem tyOK37 : TyOK Tryd.prog 37 (tyT 37) := ⟨⟨_, _, _, Tryd.underlying37⟩, ⟨Tryd.t37, Tryd.type37, rfl, rfl, trivial⟩⟩
theorem tyOK38 : TyOK Tryd.prog 38 (tyT 38) := ⟨⟨_, _, _, Tryd.underlying38⟩, ⟨Tryd.t38, Tryd.type38, rfl, rfl, trivial⟩⟩
theorem tyOK39 : TyOK Tryd.prog 39 (tyT 39) := ⟨⟨_, _, _, Tryd.underlying39⟩, ⟨Tryd.t39, Tryd.type39, rfl, rfl, trivial⟩⟩
theorem tyOK40 : TyOK Tryd.prog 40 (tyT 40) := ⟨⟨_, _, _, Tryd.underlying40⟩, ⟨Tryd.t40, Tryd.type40, rfl, rfl, trivial⟩⟩
theorem tyOK41 : TyOK Tryd.prog 41 (tyT 41) := ⟨⟨_, _, _, Tryd.underlying41⟩, ⟨Tryd.t41, Tryd.type41, rfl, rfl, trivial⟩⟩
theorem tyOK42 : TyOK Tryd.prog 42 (tyT 42) := ⟨⟨_, _, _, Tryd.underlying42⟩, ⟨Tryd.t42, Tryd.type42, rfl, rfl, trivial⟩⟩
theorem tyOK43 : TyOK Tryd.prog 43 (tyT 43) := ⟨Tryd.underlying43, ⟨Tryd.t43, Tryd.type43, rfl, rfl, ⟨rfl, rfl, rfl, fun h => by first | rfl | cases h⟩⟩⟩
theorem tyOK44 : TyOK Tryd.prog 44 (tyT 44) := ⟨Tryd.underlying44, ⟨Tryd.t44, Tryd.type44, rfl, rfl, ⟨rfl, rfl, rfl, fun h => by first | rfl | cases h⟩⟩⟩
theorem tyOK45 : TyOK Tryd.prog 45 (tyT 45) := ⟨⟨_, _, _, Tryd.underlying45⟩, ⟨Tryd.t45, Tryd.type45, rfl, rfl, trivial⟩⟩
theorem tyOK46 : TyOK Tryd.prog 46 (tyT 46) := ⟨⟨_, _, _, Tryd.underlying46⟩, ⟨Tryd.t46, Tryd.type46, rfl, rfl, trivial⟩⟩
theorem tyOK47 : TyOK Tryd.prog 47 (tyT 47) := ⟨⟨_, _, _, Tryd.underlying47⟩, ⟨Tryd.t47, Tryd.type47, rfl, rfl, trivial⟩⟩
theorem tyOK48 : TyOK Tryd.prog 48 (tyT 48) := ⟨⟨_, _, _, Tryd.underlying48⟩, ⟨Tryd.t48, Tryd.type48, rfl, rfl, trivial⟩⟩
theorem tyOK49 : TyOK Tryd.prog 49 (tyT 49) := ⟨⟨_, _, _, Tryd.underlying49⟩, ⟨Tryd.t49, Tryd.type49, rfl, rfl, trivial⟩⟩
theorem tyOK50 : TyOK Tryd.prog 50 (tyT 50) := ⟨⟨_, Tryd.underlying50, rfl⟩, ⟨Tryd.t50, Tryd.type50, rfl, rfl, ⟨rfl, rfl, rfl, fun h => by first | rfl | cases h⟩⟩⟩
theorem tyOK51 : TyOK Tryd.prog 51 (tyT 51) := ⟨⟨_, Tryd.underlying51, rfl⟩, ⟨Tryd.t51, Tryd.type51, rfl, rfl, ⟨rfl, rfl, rfl, fun h => by first | rfl | cases h⟩⟩⟩
theorem tyOK52 : TyOK Tryd.prog 52 (tyT 52) := ⟨⟨_, _, _, Tryd.underlying52⟩, ⟨Tryd.t52, Tryd.type52, rfl, rfl, trivial⟩⟩
theorem tyOK53 : TyOK Tryd.prog 53 (tyT 53) := ⟨⟨_, _, _, Tryd.underlying53⟩, ⟨Tryd.t53, Tryd.type53, rfl, rfl, trivial⟩⟩
theorem tyOK54 : TyOK Tryd.prog 54 (tyT 54) := ⟨⟨_, Tryd.underlying54⟩, ⟨Tryd.t54, Tryd.type54, rfl, rfl, trivial⟩⟩
theorem tyOK55 : TyOK Tryd.prog 55 (tyT 55) := ⟨⟨_, Tryd.underlying55, rfl⟩, ⟨Tryd.t55, Tryd.type55, rfl, rfl, trivial⟩⟩
theorem tyOK56 : TyOK Tryd.prog 56 (tyT 56) := ⟨⟨_, Tryd.underlying56, rfl⟩, ⟨Tryd.t56, Tryd.type56, rfl, rfl, trivial⟩⟩
theorem tyOK57 : TyOK Tryd.prog 57 (tyT 57) := ⟨⟨_, Tryd.underlying57⟩, ⟨Tryd.t57, Tryd.type57, rfl, rfl, trivial⟩⟩
theorem tyOK58 : TyOK Tryd.prog 58 (tyT 58) := ⟨⟨_, Tryd.underlying58⟩, ⟨Tryd.t58, Tryd.type58, rfl, rfl, trivial⟩⟩
theorem tyOK60 : TyOK Tryd.prog 60 (tyT 60) := ⟨⟨_, _, _, Tryd.underlying60⟩, ⟨Tryd.t60, Tryd.type60, rfl, rfl, trivial⟩⟩
theorem tyOK61 : TyOK Tryd.prog 61 (tyT 61) := ⟨⟨_, _, _, Tryd.underlying61⟩, ⟨Tryd.t61, Tryd.type61, rfl, rfl, trivial⟩⟩
theorem tyOK62 : TyOK Tryd.prog 62 (tyT 62) := ⟨⟨_, Tryd.underlying62⟩, ⟨Tryd.t62, Tryd.type62, rfl, rfl, trivial⟩⟩
theorem tyOK64 : TyOK Tryd.prog 64 (tyT 64) := ⟨⟨_, _, _, Tryd.underlying64⟩, ⟨Tryd.t64, Tryd.type64, rfl, rfl, trivial⟩⟩
theorem tyOK65 : TyOK Tryd.prog 65 (tyT 65) := ⟨⟨_, _, _, Tryd.underlying65⟩, ⟨Tryd.t65, Tryd.type65, rfl, rfl, trivial⟩⟩
theorem tyOK67 : TyOK Tryd.prog 67 (tyT 67) := ⟨Tryd.underlying67, ⟨Tryd.t67, Tryd.type67, rfl, rfl, ⟨rfl, rfl, rfl, fun h => by first | rfl | cases h⟩⟩⟩
theorem tyOK68 : TyOK Tryd.prog 68 (tyT 68) := ⟨⟨_, _, _, Tryd.underlying68⟩, ⟨Tryd.t68, Tryd.type68, rfl, rfl, trivial⟩⟩
theorem tyOK69 : TyOK Tryd.prog 69 (tyT 69) := ⟨⟨_, _, _, Tryd.underlying69⟩, ⟨Tryd.t69, Tryd.type69, rfl, rfl, trivial⟩⟩
theorem tyOK71 : TyOK Tryd.prog 71 (tyT 71) := ⟨⟨_, _, _, Tryd.underlying71⟩, ⟨Tryd.t71, Tryd.type71, rfl, rfl, trivial⟩⟩
theorem tyOK72 : TyOK Tryd.prog 72 (tyT 72) := ⟨⟨_, _, _, Tryd.underlying72⟩, ⟨Tryd.t72, Tryd.type72, rfl, rfl, trivial⟩⟩
theorem tyOK74 : TyOK Tryd.prog 74 (tyT 74) := ⟨Tryd.underlying74, ⟨Tryd.t74, Tryd.type74, rfl, rfl, ⟨rfl, rfl, rfl, fun h => by first | rfl | cases h⟩⟩⟩
theorem tyOK76 : TyOK Tryd.prog 76 (tyT 76) := ⟨Tryd.underlying76, ⟨Tryd.t76, Tryd.type76, rfl, rfl, ⟨rfl, rfl, rfl, fun h => by first | rfl | cases h⟩⟩⟩
theorem tyOK77 : TyOK Tryd.prog 77 (tyT 77) := ⟨⟨_, _, _, Tryd.underlying77⟩, ⟨Tryd.t77, Tryd.type77, rfl, rfl, trivial⟩⟩
theorem tyOK78 : TyOK Tryd.prog 78 (tyT 78) := ⟨⟨_, _, _, Tryd.underlying78⟩, ⟨Tryd.t78, Tryd.type78, rfl, rfl, trivial⟩⟩
theorem tyOK81 : TyOK Tryd.prog 81 (tyT 81) := ⟨⟨_, Tryd.underlying81, rfl⟩, ⟨Tryd.t81, Tryd.type81, rfl, rfl, trivial⟩⟩
theorem tyOK82 : TyOK Tryd.prog 82 (tyT 82) := ⟨⟨_, Tryd.underlying82, rfl⟩, ⟨Tryd.t82, Tryd.type82, rfl, rfl, trivial⟩⟩
theorem tyOK84 : TyOK Tryd.prog 84 (tyT 84) := ⟨⟨_, Tryd.underlying84, rfl⟩, ⟨Tryd.t84, Tryd.type84, rfl, rfl, trivial⟩⟩
theorem tyOK85 : TyOK Tryd.prog 85 (tyT 85) := ⟨⟨_, Tryd.underlying85, rfl⟩, ⟨Tryd.t85, Tryd.type85, rfl, rfl, trivial⟩⟩
theorem tyOK86 : TyOK Tryd.prog 86 (tyT 86) := ⟨⟨_, _, _, Tryd.underlying86⟩, ⟨Tryd.t86, Tryd.type86, rfl, rfl, trivial⟩⟩
theorem tyOK87 : TyOK Tryd.prog 87 (tyT 87) := ⟨Tryd.underlying87, ⟨Tryd.t87, Tryd.type87, rfl, rfl, ⟨rfl, rfl, rfl, fun h => by first | rfl | cases h⟩⟩⟩
theorem tyOK88 : TyOK Tryd.prog 88 (tyT 88) := ⟨Tryd.underlying88, ⟨Tryd.t88, Tryd.type88, rfl, rfl, ⟨rfl, rfl, rfl, fun h => by first | rfl | cases h⟩⟩⟩
theorem tyOK89 : TyOK Tryd.prog 89 (tyT 89) := ⟨⟨_, _, _, Tryd.underlying89⟩, ⟨Tryd.t89, Tryd.type89, rfl, rfl, trivial⟩⟩
theorem tyOK90 : TyOK Tryd.prog 90 (tyT 90) := ⟨Tryd.underlying90, ⟨Tryd.t90, Tryd.type90, rfl, rfl, ⟨rfl, rfl, rfl, fun h => by first | rfl | cases h⟩⟩⟩
theorem tyOK91 : TyOK Tryd.prog 91 (tyT 91) := ⟨Tryd.underlying91, ⟨Tryd.t91, Tryd.type91, rfl, rfl, ⟨rfl, rfl, rfl, fun h => by first | rfl | cases h⟩⟩⟩
theorem tyOK92 : TyOK Tryd.prog 92 (tyT 92) := ⟨⟨_, Tryd.underlying92, rfl⟩, ⟨Tryd.t92, Tryd.type92, rfl, rfl, trivial⟩⟩
theorem tyOK93 : TyOK Tryd.prog 93 (tyT 93) := ⟨⟨_, Tryd.underlying93, rfl⟩, ⟨Tryd.t93, Tryd.type93, rfl, rfl, trivial⟩⟩

set_option maxRecDepth 100000 in
theorem tyOK : ∀ n, TyOK Tryd.prog n (tyT n) := by
  intro n
  unfold tyT
  split
  · exact tyOK1
  · exact tyOK2
  · exact tyOK3
  · exact tyOK4
  · exact tyOK5
  · exact tyOK6
  · exact tyOK7
  · exact tyOK8
  · exact tyOK9
  · exact tyOK10
  · exact tyOK11
  · exact tyOK12
  · exact tyOK13
  · exact tyOK14
  · exact tyOK15
  · exact tyOK16
  · exact tyOK17
  · exact tyOK18
  · exact tyOK19
  · exact tyOK20
  · exact tyOK21
  · exact tyOK22
  · exact tyOK23
  · exact tyOK24
  · exact tyOK25
  · exact tyOK26
  · exact tyOK27
  · exact tyOK28
  · exact tyOK29
  · exact tyOK30
  · exact tyOK31
  · exact tyOK32
  · exact tyOK33
  · exact tyOK34
  · exact tyOK35
  · exact tyOK36
  · exact tyOK37
  · exact tyOK38
  · exact tyOK39
  · exact tyOK40
  · exact tyOK41
  · exact tyOK42
  · exact tyOK43
  · exact tyOK44
  · exact tyOK45
  · exact tyOK46
  · exact tyOK47
  · exact tyOK48
  · exact tyOK49
  · exact tyOK50
  · exact tyOK51
  · exact tyOK52
  · exact tyOK53
  · exact tyOK54
  · exact tyOK55
  · exact tyOK56
  · exact tyOK57
  · exact tyOK58
  · exact tyOK60
  · exact tyOK61
  · exact tyOK62
  · exact tyOK64
  · exact tyOK65
  · exact tyOK67
  · exact tyOK68
  · exact tyOK69
  · exact tyOK71
  · exact tyOK72
  · exact tyOK74
  · exact tyOK76
  · exact tyOK77
  · exact tyOK78
  · exact tyOK81
  · exact tyOK82
  · exact tyOK84
  · exact tyOK85
  · exact tyOK86
  · exact tyOK87
  · exact tyOK88
  · exact tyOK89
  · exact tyOK90
  · exact tyOK91
  · exact tyOK92
  · exact tyOK93
  · exact ⟨trivial, trivial⟩

def TT : Tab Tryd.prog := ⟨tyT, tyOK⟩

theorem TT_1 : TT.T 1 = ⟨Ty.func, 1, 8, none⟩ := rfl
theorem TT_2 : TT.T 2 = ⟨Ty.int .i64, 1, 8, some [.int .i64 0]⟩ := rfl
theorem TT_3 : TT.T 3 = ⟨Ty.int .i64, 1, 8, some [.int .i64 0]⟩ := rfl
theorem TT_4 : TT.T 4 = ⟨Ty.bool, 1, 1, some [.bool false]⟩ := rfl
theorem TT_5 : TT.T 5 = ⟨Ty.int .u8, 1, 1, some [.int .u8 0]⟩ := rfl
theorem TT_6 : TT.T 6 = ⟨Ty.int .u8, 1, 1, some [.int .u8 0]⟩ := rfl
theorem TT_7 : TT.T 7 = ⟨Ty.strct [(0, 2), (1, 3), (2, 4), (3, 6)], 4, 24, some [.int .i64 0, .int .i64 0, .bool false, .int .u8 0]⟩ := rfl
theorem TT_8 : TT.T 8 = ⟨Ty.strct [(0, 2), (1, 3), (2, 4), (3, 6)], 4, 24, some [.int .i64 0, .int .i64 0, .bool false, .int .u8 0]⟩ := rfl
theorem TT_9 : TT.T 9 = ⟨Ty.str, 1, 16, some [.str []]⟩ := rfl
theorem TT_10 : TT.T 10 = ⟨Ty.str, 1, 16, some [.str []]⟩ := rfl
theorem TT_11 : TT.T 11 = ⟨Ty.str, 1, 16, some [.str []]⟩ := rfl
theorem TT_12 : TT.T 12 = ⟨Ty.int .u64, 1, 8, some [.int .u64 0]⟩ := rfl
theorem TT_13 : TT.T 13 = ⟨Ty.strct [(0, 9), (1, 12)], 2, 24, some [.str [], .int .u64 0]⟩ := rfl
theorem TT_14 : TT.T 14 = ⟨Ty.strct [(0, 9), (1, 12)], 2, 24, some [.str [], .int .u64 0]⟩ := rfl
theorem TT_15 : TT.T 15 = ⟨Ty.ptr, 1, 8, none⟩ := rfl
theorem TT_16 : TT.T 16 = ⟨Ty.ptr, 1, 8, none⟩ := rfl
theorem TT_17 : TT.T 17 = ⟨Ty.ptr, 1, 8, none⟩ := rfl
theorem TT_18 : TT.T 18 = ⟨Ty.strct [(0, 17)], 1, 8, none⟩ := rfl
theorem TT_19 : TT.T 19 = ⟨Ty.strct [(0, 17)], 1, 8, none⟩ := rfl
theorem TT_20 : TT.T 20 = ⟨Ty.iface, 1, 16, none⟩ := rfl
theorem TT_21 : TT.T 21 = ⟨Ty.int .i32, 1, 4, some [.int .i32 0]⟩ := rfl
theorem TT_22 : TT.T 22 = ⟨Ty.slice 5, 1, 24, some [.sl 1 [] .full]⟩ := rfl
theorem TT_23 : TT.T 23 = ⟨Ty.slice 3, 1, 24, some [.sl 1 [] .full]⟩ := rfl
theorem TT_24 : TT.T 24 = ⟨Ty.strct [(0, 4), (1, 23), (2, 23)], 3, 56, some [.bool false, .sl 1 [] .full, .sl 1 [] .full]⟩ := rfl
theorem TT_25 : TT.T 25 = ⟨Ty.strct [(0, 4), (1, 23), (2, 23)], 3, 56, some [.bool false, .sl 1 [] .full, .sl 1 [] .full]⟩ := rfl
theorem TT_26 : TT.T 26 = ⟨Ty.func, 1, 8, none⟩ := rfl
theorem TT_27 : TT.T 27 = ⟨Ty.func, 1, 8, none⟩ := rfl
theorem TT_28 : TT.T 28 = ⟨Ty.func, 1, 8, none⟩ := rfl
theorem TT_29 : TT.T 29 = ⟨Ty.func, 1, 8, none⟩ := rfl
theorem TT_30 : TT.T 30 = ⟨Ty.strct [(0, 4), (1, 23), (2, 23)], 3, 56, some [.bool false, .sl 1 [] .full, .sl 1 [] .full]⟩ := rfl
theorem TT_31 : TT.T 31 = ⟨Ty.func, 1, 8, none⟩ := rfl
theorem TT_32 : TT.T 32 = ⟨Ty.func, 1, 8, none⟩ := rfl
theorem TT_33 : TT.T 33 = ⟨Ty.func, 1, 8, none⟩ := rfl
theorem TT_34 : TT.T 34 = ⟨Ty.func, 1, 8, none⟩ := rfl
theorem TT_35 : TT.T 35 = ⟨Ty.ptr, 1, 8, none⟩ := rfl
theorem TT_36 : TT.T 36 = ⟨Ty.func, 1, 8, none⟩ := rfl
theorem TT_37 : TT.T 37 = ⟨Ty.func, 1, 8, none⟩ := rfl
theorem TT_38 : TT.T 38 = ⟨Ty.func, 1, 8, none⟩ := rfl
theorem TT_39 : TT.T 39 = ⟨Ty.func, 1, 8, none⟩ := rfl
theorem TT_40 : TT.T 40 = ⟨Ty.func, 1, 8, none⟩ := rfl
theorem TT_41 : TT.T 41 = ⟨Ty.func, 1, 8, none⟩ := rfl
theorem TT_42 : TT.T 42 = ⟨Ty.func, 1, 8, none⟩ := rfl
theorem TT_43 : TT.T 43 = ⟨Ty.slice 23, 1, 24, some [.sl 1 [] .full]⟩ := rfl
theorem TT_44 : TT.T 44 = ⟨Ty.slice 9, 1, 24, some [.sl 1 [] .full]⟩ := rfl
theorem TT_45 : TT.T 45 = ⟨Ty.func, 1, 8, none⟩ := rfl
theorem TT_46 : TT.T 46 = ⟨Ty.func, 1, 8, none⟩ := rfl
theorem TT_47 : TT.T 47 = ⟨Ty.func, 1, 8, none⟩ := rfl
theorem TT_48 : TT.T 48 = ⟨Ty.func, 1, 8, none⟩ := rfl
theorem TT_49 : TT.T 49 = ⟨Ty.func, 1, 8, none⟩ := rfl
theorem TT_50 : TT.T 50 = ⟨Ty.strct [(0, 22), (1, 3)], 2, 32, some [.sl 1 [] .full, .int .i64 0]⟩ := rfl
theorem TT_51 : TT.T 51 = ⟨Ty.strct [(0, 22), (1, 3)], 2, 32, some [.sl 1 [] .full, .int .i64 0]⟩ := rfl
theorem TT_52 : TT.T 52 = ⟨Ty.func, 1, 8, none⟩ := rfl
theorem TT_53 : TT.T 53 = ⟨Ty.func, 1, 8, none⟩ := rfl
theorem TT_54 : TT.T 54 = ⟨Ty.ptr, 1, 8, none⟩ := rfl
theorem TT_55 : TT.T 55 = ⟨Ty.strct [(0, 54), (1, 22)], 2, 32, none⟩ := rfl
theorem TT_56 : TT.T 56 = ⟨Ty.strct [(0, 54), (1, 22)], 2, 32, none⟩ := rfl
theorem TT_57 : TT.T 57 = ⟨Ty.iface, 1, 16, none⟩ := rfl
theorem TT_58 : TT.T 58 = ⟨Ty.iface, 1, 16, none⟩ := rfl
theorem TT_60 : TT.T 60 = ⟨Ty.func, 1, 8, none⟩ := rfl
theorem TT_61 : TT.T 61 = ⟨Ty.func, 1, 8, none⟩ := rfl
theorem TT_62 : TT.T 62 = ⟨Ty.ptr, 1, 8, none⟩ := rfl
theorem TT_64 : TT.T 64 = ⟨Ty.func, 1, 8, none⟩ := rfl
theorem TT_65 : TT.T 65 = ⟨Ty.func, 1, 8, none⟩ := rfl
theorem TT_67 : TT.T 67 = ⟨Ty.int .u64, 1, 8, some [.int .u64 0]⟩ := rfl
theorem TT_68 : TT.T 68 = ⟨Ty.func, 1, 8, none⟩ := rfl
theorem TT_69 : TT.T 69 = ⟨Ty.func, 1, 8, none⟩ := rfl
theorem TT_71 : TT.T 71 = ⟨Ty.func, 1, 8, none⟩ := rfl
theorem TT_72 : TT.T 72 = ⟨Ty.func, 1, 8, none⟩ := rfl
theorem TT_74 : TT.T 74 = ⟨Ty.int .u32, 1, 4, some [.int .u32 0]⟩ := rfl
theorem TT_76 : TT.T 76 = ⟨Ty.int .u64, 1, 8, some [.int .u64 0]⟩ := rfl
theorem TT_77 : TT.T 77 = ⟨Ty.func, 1, 8, none⟩ := rfl
theorem TT_78 : TT.T 78 = ⟨Ty.func, 1, 8, none⟩ := rfl
theorem TT_81 : TT.T 81 = ⟨Ty.strct [(0, 17), (1, 17), (2, 17), (3, 9)], 4, 40, none⟩ := rfl
theorem TT_82 : TT.T 82 = ⟨Ty.strct [(0, 17), (1, 17), (2, 17), (3, 9)], 4, 40, none⟩ := rfl
theorem TT_84 : TT.T 84 = ⟨Ty.strct [(0, 83)], 0, 0, none⟩ := rfl
theorem TT_85 : TT.T 85 = ⟨Ty.strct [(0, 83)], 0, 0, none⟩ := rfl
theorem TT_86 : TT.T 86 = ⟨Ty.func, 1, 8, none⟩ := rfl
theorem TT_87 : TT.T 87 = ⟨Ty.int .u8, 1, 1, some [.int .u8 0]⟩ := rfl
theorem TT_88 : TT.T 88 = ⟨Ty.int .u8, 1, 1, some [.int .u8 0]⟩ := rfl
theorem TT_89 : TT.T 89 = ⟨Ty.func, 1, 8, none⟩ := rfl
theorem TT_90 : TT.T 90 = ⟨Ty.int .i32, 1, 4, some [.int .i32 0]⟩ := rfl
theorem TT_91 : TT.T 91 = ⟨Ty.int .i32, 1, 4, some [.int .i32 0]⟩ := rfl
theorem TT_92 : TT.T 92 = ⟨Ty.strct [(0, 12), (1, 12), (2, 74), (3, 87), (4, 5), (5, 5), (6, 88), (7, 89), (8, 62), (9, 90), (10, 91)], 11, 48, none⟩ := rfl
theorem TT_93 : TT.T 93 = ⟨Ty.strct [(0, 12), (1, 12), (2, 74), (3, 87), (4, 5), (5, 5), (6, 88), (7, 89), (8, 62), (9, 90), (10, 91)], 11, 48, none⟩ := rfl
attribute [go_sem] TT_1 TT_2 TT_3 TT_4 TT_5 TT_6 TT_7 TT_8 TT_9 TT_10 TT_11 TT_12 TT_13 TT_14 TT_15 TT_16 TT_17 TT_18 TT_19 TT_20 TT_21 TT_22 TT_23 TT_24 TT_25 TT_26 TT_27 TT_28 TT_29 TT_30 TT_31 TT_32 TT_33 TT_34 TT_35 TT_36 TT_37 TT_38 TT_39 TT_40 TT_41 TT_42 TT_43 TT_44 TT_45 TT_46 TT_47 TT_48 TT_49 TT_50 TT_51 TT_52 TT_53 TT_54 TT_55 TT_56 TT_57 TT_58 TT_60 TT_61 TT_62 TT_64 TT_65 TT_67 TT_68 TT_69 TT_71 TT_72 TT_74 TT_76 TT_77 TT_78 TT_81 TT_82 TT_84 TT_85 TT_86 TT_87 TT_88 TT_89 TT_90 TT_91 TT_92 TT_93
theorem MX : Tryd.prog.follows .mixedOrders = true := by kernel_rfl
instance : Inhabited Glob := trivGlob
instance : Inhabited NoLend := ⟨⟨fun h => h⟩⟩
end Go.Proofs.YtnbhcnjmjlplhaaDoor
